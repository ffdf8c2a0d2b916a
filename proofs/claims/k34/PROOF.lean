import PyProof.Rows.All
import Wide.All
import OpenK.AllK
import Wide.FinOn
import KE.KStateDown
import HandS.ForMost
import HandS.Walk
import HandS.Conv
import HandS.Wide
import HandS.IsInst
import HandS.Style
import HandS.SortInts
import HandS.Rev
import HandS.Base
import HandS.Call
import HandS.Ends
import HandS.More
import HandS.Words
import HandS.WordsExc
import HandS.Defaults
import HandS.Head0
import HandS.Head1
import HandS.Head2
import HandS.HeadEnd
import HandS.HeadHook1
import HandS.HeadHook2
import PySem.Challenge.RW_sparesum_k34_price_of_a_sync
set_option Elab.async false
set_option linter.all false
set_option maxRecDepth 100000
set_option maxHeartbeats 400000
/-! Mir1: the heap in two parts, persistent and owned; slots; the monad of mirrors -/
namespace Mir
open PySem L2

/-! ### heaps -/
def Ex (H H' : Hp) : Prop := ∀ a o, H a = some o → H' a = some o
theorem Ex.refl (H : Hp) : Ex H H := fun _ _ h => h
theorem Ex.trans {H H1 H2 : Hp} (a : Ex H H1) (b : Ex H1 H2) : Ex H H2 := fun x o h => b x o (a x o h)
def ov (M I : Hp) : Hp := fun a => match M a with
  | some o => some o
  | none => I a
def Dis (M I : Hp) : Prop := ∀ a, M a = none ∨ I a = none
def emp : Hp := fun _ => none
def sing (a : Addr) (o : HO) : Hp := upd emp a o
theorem ov_l {M I : Hp} {a : Addr} {o : HO} (h : M a = some o) : ov M I a = some o := by
  unfold ov; rw [h]
theorem ov_r {M I : Hp} {a : Addr} (h : M a = none) : ov M I a = I a := by
  unfold ov; rw [h]
theorem ov_none {M I : Hp} {a : Addr} (h : ov M I a = none) : M a = none ∧ I a = none := by
  cases e : M a with
  | none => rw [ov_r e] at h; exact ⟨rfl, h⟩
  | some o => rw [ov_l e] at h; cases h
theorem ov_none' {M I : Hp} {a : Addr} (h1 : M a = none) (h2 : I a = none) : ov M I a = none := by rw [ov_r h1, h2]
theorem Dis.symm {M I : Hp} (d : Dis M I) : Dis I M := fun a => (d a).symm
theorem Dis.some_l {M I : Hp} {a : Addr} {o : HO} (d : Dis M I) (h : M a = some o) : I a = none := by
  rcases d a with q | q
  · rw [q] at h; cases h
  · exact q
theorem Dis.some_r {M I : Hp} {a : Addr} {o : HO} (d : Dis M I) (h : I a = some o) : M a = none := d.symm.some_l h
theorem ex_ov {M I : Hp} (d : Dis M I) : Ex I (ov M I) := fun a o h => by rw [ov_r (d.some_r h)]; exact h
theorem ex_ovl {M I : Hp} : Ex M (ov M I) := fun a o h => ov_l h
theorem ov_comm {M I : Hp} (d : Dis M I) : ov M I = ov I M := by
  funext a
  cases e : M a with
  | some o => rw [ov_l e, ov_r (d.some_l e), e]
  | none =>
    rw [ov_r e]
    cases e2 : I a with
    | some o => rw [ov_l e2]
    | none => rw [ov_r e2, e]
theorem ov_assoc {A B C : Hp} : ov A (ov B C) = ov (ov A B) C := by
  funext a
  unfold ov
  cases A a <;> rfl
theorem dis_ov_l {A B C : Hp} (h : Dis (ov A B) C) : Dis A C ∧ Dis B C := by
  refine ⟨fun a => ?_, fun a => ?_⟩
  · rcases h a with q | q
    · exact .inl (ov_none q).1
    · exact .inr q
  · rcases h a with q | q
    · exact .inl (ov_none q).2
    · exact .inr q
theorem dis_ov {A B C : Hp} (h1 : Dis A C) (h2 : Dis B C) : Dis (ov A B) C := fun a => by
  rcases h1 a with q | q
  · rcases h2 a with r | r
    · exact .inl (ov_none' q r)
    · exact .inr r
  · exact .inr q
theorem dis_ov_r {A B C : Hp} (h1 : Dis A B) (h2 : Dis A C) : Dis A (ov B C) := (dis_ov h1.symm h2.symm).symm
theorem dis_r_ov {A B C : Hp} (h : Dis A (ov B C)) : Dis A B ∧ Dis A C := ⟨(dis_ov_l h.symm).1.symm, (dis_ov_l h.symm).2.symm⟩
theorem Ex.new {H : Hp} {p : Addr} {o : HO} (h : H p = none) : Ex H (upd H p o) := fun a u e => by
  rw [upd_ne (ne_of_none e h)]; exact e
theorem ov_upd {M I : Hp} {p : Addr} {o : HO} (h : M p = none) : upd (ov M I) p o = ov M (upd I p o) := by
  funext a
  by_cases e : a = p
  · subst e; rw [upd_same, ov_r h, upd_same]
  · rw [upd_ne e]
    cases q : M a with
    | some o => rw [ov_l q, ov_l q]
    | none => rw [ov_r q, ov_r q, upd_ne e]
theorem dis_upd {M I : Hp} {p : Addr} {o : HO} (d : Dis M I) (h : M p = none) : Dis M (upd I p o) := fun a => by
  by_cases e : a = p
  · subst e; exact .inl h
  · rw [upd_ne e]; exact d a
theorem sing_same {a : Addr} {o : HO} : sing a o a = some o := upd_same
theorem sing_ne {a b : Addr} {o : HO} (h : b ≠ a) : sing a o b = none := upd_ne h
theorem upd_sing {M I : Hp} {p : Addr} {o : HO} : upd (ov M I) p o = ov (sing p o) (ov M I) := by
  funext a
  by_cases e : a = p
  · subst e; rw [upd_same, ov_l sing_same]
  · rw [upd_ne e, ov_r (sing_ne e)]
theorem ov_sing {I : Hp} {p : Addr} {o : HO} : ov (sing p o) I = upd I p o := by
  funext a
  by_cases e : a = p
  · subst e; rw [upd_same, ov_l sing_same]
  · rw [upd_ne e, ov_r (sing_ne e)]
theorem dis_sing {I : Hp} {p : Addr} {o : HO} (h : I p = none) : Dis (sing p o) I := fun a => by
  by_cases e : a = p
  · subst e; exact .inr h
  · exact .inl (sing_ne e)
/-- an owned object changes -/
theorem upd_own {p : Addr} {o o' : HO} {M I : Hp} : upd (ov (ov (sing p o) M) I) p o' = ov (ov (sing p o') M) I := by
  funext a
  by_cases e : a = p
  · subst e; rw [upd_same]; exact (ov_l (ov_l sing_same)).symm
  · rw [upd_ne e]
    unfold ov
    rw [sing_ne e, sing_ne e]

/-! ### what is known of values, of owned parts -/
structure PV where
  r : Hp → V → Prop
  up : ∀ {H H' : Hp} {v : V}, Ex H H' → r H v → r H' v
structure OP where
  r : Hp → Addr → Hp → Prop
  up : ∀ {H H' : Hp} {a : Addr} {M : Hp}, Ex H H' → r H a M → r H' a M
/-- a Lean type as Python values -/
class Rp (α : Type) where
  r : PySem.W.Frag → α → Hp → V → Prop
  up : ∀ {K : PySem.W.Frag} {x : α} {H H' : Hp} {v : V}, Ex H H' → r K x H v → r K x H' v
/-- values that no heap is asked for -/
class Sc (α : Type) [Rp α] where
  s : α → V
  eq : ∀ {K : PySem.W.Frag} {x : α} {H : Hp} {v : V}, Rp.r K x H v ↔ v = s x
def pv (K : PySem.W.Frag) {α : Type} [Rp α] (x : α) : PV := ⟨Rp.r K x, Rp.up⟩
instance rpInt : Rp Int := ⟨fun _ x _ v => v = V.int x, fun _ h => h⟩
instance scInt : Sc Int := ⟨V.int, Iff.rfl⟩
instance rpBool : Rp Bool := ⟨fun _ x _ v => v = V.bl x, fun _ h => h⟩
instance scBool : Sc Bool := ⟨V.bl, Iff.rfl⟩
instance rpUnit : Rp Unit := ⟨fun _ _ _ v => v = V.non, fun _ h => h⟩
instance scUnit : Sc Unit := ⟨fun _ => V.non, Iff.rfl⟩
instance rpStr : Rp Str := ⟨fun _ x _ v => v = V.str x, fun _ h => h⟩
instance scStr : Sc Str := ⟨V.str, Iff.rfl⟩
inductive All2 {α β : Type} (F : α → β → Prop) : List α → List β → Prop where
  | nil : All2 F [] []
  | cons {a : α} {b : β} {as : List α} {bs : List β} : F a b → All2 F as bs → All2 F (a :: as) (b :: bs)
section
variable {α β : Type} {F G : α → β → Prop}
theorem All2.imp (f : ∀ a b, F a b → G a b) : ∀ {as : List α} {bs : List β}, All2 F as bs → All2 G as bs
  | _, _, .nil => .nil
  | _, _, .cons h t => .cons (f _ _ h) (All2.imp f t)
theorem All2.length : ∀ {as : List α} {bs : List β}, All2 F as bs → as.length = bs.length
  | _, _, .nil => rfl
  | _, _, .cons _ t => congrArg Nat.succ (All2.length t)
theorem All2.get : ∀ {as : List α} {bs : List β}, All2 F as bs → ∀ {i : Nat} {a : α}, as[i]? = some a → ∃ b, bs[i]? = some b ∧ F a b
  | _, _, .nil, i, a, h => by simp at h
  | _, _, .cons h t, 0, a, e => by
    cases (Option.some.inj e)
    exact ⟨_, rfl, h⟩
  | _, _, .cons h t, i + 1, a, e => by
    obtain ⟨b, h1, h2⟩ := All2.get t (i := i) (by simpa using e)
    exact ⟨b, by simpa using h1, h2⟩
theorem All2.get' : ∀ {as : List α} {bs : List β}, All2 F as bs → ∀ {i : Nat} {b : β}, bs[i]? = some b → ∃ a, as[i]? = some a ∧ F a b
  | _, _, .nil, i, a, h => by simp at h
  | _, _, .cons h t, 0, a, e => by
    cases (Option.some.inj e)
    exact ⟨_, rfl, h⟩
  | _, _, .cons h t, i + 1, a, e => by
    obtain ⟨b, h1, h2⟩ := All2.get' t (i := i) (by simpa using e)
    exact ⟨b, by simpa using h1, h2⟩
theorem All2.append : ∀ {as cs : List α} {bs ds : List β}, All2 F as bs → All2 F cs ds → All2 F (as ++ cs) (bs ++ ds)
  | _, _, _, _, .nil, s => s
  | _, _, _, _, .cons h t, s => .cons h (All2.append t s)
theorem All2.set {a : α} {b : β} (h : F a b) : ∀ {as : List α} {bs : List β} (i : Nat), All2 F as bs → All2 F (as.set i a) (bs.set i b)
  | _, _, _, .nil => .nil
  | _, _, 0, .cons _ t => .cons h t
  | _, _, i + 1, .cons q t => .cons q (All2.set h i t)
theorem All2.take : ∀ {as : List α} {bs : List β} (n : Nat), All2 F as bs → All2 F (as.take n) (bs.take n)
  | _, _, 0, _ => .nil
  | _, _, _ + 1, .nil => .nil
  | _, _, n + 1, .cons h t => .cons h (All2.take n t)
theorem All2.drop : ∀ {as : List α} {bs : List β} (n : Nat), All2 F as bs → All2 F (as.drop n) (bs.drop n)
  | _, _, 0, s => s
  | _, _, _ + 1, .nil => .nil
  | _, _, n + 1, .cons _ t => All2.drop n t
theorem All2.reverse : ∀ {as : List α} {bs : List β}, All2 F as bs → All2 F as.reverse bs.reverse
  | _, _, .nil => .nil
  | _, _, .cons h t => by
    rw [List.reverse_cons, List.reverse_cons]
    exact (All2.reverse t).append (.cons h .nil)
theorem All2.eraseIdx : ∀ {as : List α} {bs : List β} (i : Nat), All2 F as bs → All2 F (as.eraseIdx i) (bs.eraseIdx i)
  | _, _, _, .nil => .nil
  | _, _, 0, .cons _ t => t
  | _, _, i + 1, .cons q t => .cons q (All2.eraseIdx i t)
theorem All2.dropLast {as : List α} {bs : List β} (h : All2 F as bs) : All2 F as.dropLast bs.dropLast := by
  rw [List.dropLast_eq_take, List.dropLast_eq_take, ← h.length]
  exact h.take _
theorem All2.replicate {a : α} {b : β} (h : F a b) : ∀ n : Nat, All2 F (List.replicate n a) (List.replicate n b)
  | 0 => .nil
  | n + 1 => .cons h (All2.replicate h n)
theorem All2.map_r {g : α → β} (h : ∀ a, F a (g a)) : ∀ as : List α, All2 F as (as.map g)
  | [] => .nil
  | a :: as => .cons (h a) (All2.map_r h as)
theorem All2.eq_map {g : α → β} (h : ∀ a b, F a b → b = g a) : ∀ {as : List α} {bs : List β}, All2 F as bs → bs = as.map g
  | _, _, .nil => rfl
  | _, _, .cons q t => by rw [h _ _ q, All2.eq_map h t]; rfl
end
theorem rd_up {H H' : Hp} {a : Addr} {u : HO} (e : Ex H H') (h : Rd H a u) : Rd H' a u := by
  rcases h with h | ⟨o, h⟩
  · exact .inl (e a _ h)
  · exact .inr ⟨o, e a _ h⟩
theorem sql_up {K : PySem.W.Frag} {H H' : Hp} {a : Addr} {xs : List V} (e : Ex H H') (h : SqL K H a xs) : SqL K H' a xs := by
  rcases h with h | h
  · exact .inl (rd_up e h)
  · exact .inr h
theorem sqt_up {K : PySem.W.Frag} {H H' : Hp} {a : Addr} {xs : List V} (e : Ex H H') (h : SqT K H a xs) : SqT K H' a xs := by
  rcases h with h | h
  · exact .inl (rd_up e h)
  · exact .inr h
/-- a list of them -/
abbrev Rs (K : PySem.W.Frag) {α : Type} [Rp α] (xs : List α) (H : Hp) (vs : List V) : Prop := All2 (fun x v => Rp.r K x H v) xs vs
theorem rs_up {K : PySem.W.Frag} {α : Type} [Rp α] {xs : List α} {H H' : Hp} {vs : List V} (e : Ex H H') (h : Rs K xs H vs) : Rs K xs H' vs := h.imp fun _ _ q => Rp.up e q
theorem rs_sc {K : PySem.W.Frag} {α : Type} [Rp α] [Sc α] {xs : List α} {H : Hp} {vs : List V} (h : Rs K xs H vs) : vs = xs.map Sc.s := h.eq_map fun _ _ q => Sc.eq.mp q
theorem rs_int {K : PySem.W.Frag} {xs : List Int} {H : Hp} {vs : List V} (h : Rs K xs H vs) : vs = xs.map V.int := rs_sc h
theorem rs_of_int {K : PySem.W.Frag} {xs : List Int} {H : Hp} : Rs K xs H (xs.map V.int) := All2.map_r (F := fun x v => v = V.int x) (g := V.int) (fun _ => rfl) xs
instance rpList {α : Type} [Rp α] : Rp (List α) := ⟨fun K xs H v => ∃ a vs, v = V.ref a ∧ H a = some (.lst vs) ∧ Rs K xs H vs, fun e ⟨a, vs, h1, h2, h3⟩ => ⟨a, vs, h1, e _ _ h2, rs_up e h3⟩⟩
/-- the script -/
structure Scr where
  l : List Int
instance rpScr : Rp Scr := ⟨fun K x H v => ∃ a, v = V.ref a ∧ SqL K H a (x.l.map V.int), fun e ⟨a, h1, h2⟩ => ⟨a, h1, sql_up e h2⟩⟩
/-- a tuple of items of one type -/
structure Tu (α : Type) where
  l : List α
  deriving DecidableEq
instance rpTu {α : Type} [Rp α] : Rp (Tu α) := ⟨fun K xs H v => ∃ a vs, v = V.ref a ∧ SqT K H a vs ∧ Rs K xs.l H vs, fun e ⟨a, vs, h1, h2, h3⟩ => ⟨a, vs, h1, sqt_up e h2, rs_up e h3⟩⟩
/-- tuples of two to five parts -/
instance rpProd {α β : Type} [Rp α] [Rp β] : Rp (α × β) := ⟨fun K x H v => ∃ a v1 v2, v = V.ref a ∧ SqT K H a [v1, v2] ∧ Rp.r K x.1 H v1 ∧ Rp.r K x.2 H v2, fun e ⟨a, v1, v2, h1, h2, h3, h4⟩ => ⟨a, v1, v2, h1, sqt_up e h2, Rp.up e h3, Rp.up e h4⟩⟩
structure T3 (α β γ : Type) where
  a : α
  b : β
  c : γ
  deriving DecidableEq
structure T4 (α β γ δ : Type) where
  a : α
  b : β
  c : γ
  d : δ
  deriving DecidableEq
structure T5 (α β γ δ ε : Type) where
  a : α
  b : β
  c : γ
  d : δ
  e : ε
  deriving DecidableEq
instance rpT3 {α β γ : Type} [Rp α] [Rp β] [Rp γ] : Rp (T3 α β γ) := ⟨fun K x H v => ∃ p v1 v2 v3, v = V.ref p ∧ SqT K H p [v1, v2, v3] ∧ Rp.r K x.a H v1 ∧ Rp.r K x.b H v2 ∧ Rp.r K x.c H v3,
  fun e ⟨p, v1, v2, v3, h1, h2, h3, h4, h5⟩ => ⟨p, v1, v2, v3, h1, sqt_up e h2, Rp.up e h3, Rp.up e h4, Rp.up e h5⟩⟩
instance rpT4 {α β γ δ : Type} [Rp α] [Rp β] [Rp γ] [Rp δ] : Rp (T4 α β γ δ) := ⟨fun K x H v => ∃ p v1 v2 v3 v4, v = V.ref p ∧ SqT K H p [v1, v2, v3, v4] ∧ Rp.r K x.a H v1 ∧ Rp.r K x.b H v2 ∧ Rp.r K x.c H v3 ∧ Rp.r K x.d H v4,
  fun e ⟨p, v1, v2, v3, v4, h1, h2, h3, h4, h5, h6⟩ => ⟨p, v1, v2, v3, v4, h1, sqt_up e h2, Rp.up e h3, Rp.up e h4, Rp.up e h5, Rp.up e h6⟩⟩
instance rpT5 {α β γ δ ε : Type} [Rp α] [Rp β] [Rp γ] [Rp δ] [Rp ε] : Rp (T5 α β γ δ ε) := ⟨fun K x H v => ∃ p v1 v2 v3 v4 v5, v = V.ref p ∧ SqT K H p [v1, v2, v3, v4, v5] ∧ Rp.r K x.a H v1 ∧ Rp.r K x.b H v2 ∧ Rp.r K x.c H v3 ∧ Rp.r K x.d H v4 ∧ Rp.r K x.e H v5,
  fun e ⟨p, v1, v2, v3, v4, v5, h1, h2, h3, h4, h5, h6, h7⟩ => ⟨p, v1, v2, v3, v4, v5, h1, sqt_up e h2, Rp.up e h3, Rp.up e h4, Rp.up e h5, Rp.up e h6, Rp.up e h7⟩⟩
/-- None, or a value -/
instance rpOpt {α : Type} [Rp α] : Rp (Option α) := ⟨fun K x H v => match x with
  | none => v = V.non
  | some y => Rp.r K y H v ∧ v ≠ V.non, fun {K x H H' v} e h => by
    cases x with
    | none => exact h
    | some y => exact ⟨Rp.up e h.1, h.2⟩⟩

/-! ### owned parts -/
/-- a list whose items are written values -/
def hl (vs : List V) : OP := ⟨fun _ a M => M = sing a (.lst vs), fun _ h => h⟩
/-- a list -/
def ol (K : PySem.W.Frag) {α : Type} [Rp α] (xs : List α) : OP := ⟨fun I a M => ∃ vs, M = sing a (.lst vs) ∧ Rs K xs I vs, fun e ⟨vs, h1, h2⟩ => ⟨vs, h1, rs_up e h2⟩⟩
/-- what stands at an address -/
def OP.at (P : OP) (v : V) : OP := ⟨fun I a M => v = V.ref a ∧ P.r I a M, fun e ⟨h1, h2⟩ => ⟨h1, P.up e h2⟩⟩

/-! ### slots -/
inductive Sl where
  | no
  | im (p : PV)
  | ow (p : OP)
/-- F: what is owned besides; M: F and the slots' own parts -/
inductive EnvOk (I F : Hp) : Hp → St → List Sl → Prop where
  | nil : EnvOk I F F [] []
  | no {M : Hp} {σ : St} {Γ : List Sl} (o : Option V) : EnvOk I F M σ Γ → EnvOk I F M (o :: σ) (.no :: Γ)
  | im {M : Hp} {σ : St} {Γ : List Sl} {p : PV} {v : V} : p.r I v → EnvOk I F M σ Γ → EnvOk I F M (some v :: σ) (.im p :: Γ)
  | ow {M : Hp} {σ : St} {Γ : List Sl} {p : OP} {a : Addr} {Ma : Hp} : p.r I a Ma → Dis Ma M → EnvOk I F M σ Γ → EnvOk I F (ov Ma M) (some (.ref a) :: σ) (.ow p :: Γ)
section
variable {I F M : Hp} {σ : St} {Γ : List Sl}
theorem EnvOk.up {I' : Hp} (e : Ex I I') : ∀ {M : Hp} {σ : St} {Γ : List Sl}, EnvOk I F M σ Γ → EnvOk I' F M σ Γ
  | _, _, _, .nil => .nil
  | _, _, _, .no o h => .no o (EnvOk.up e h)
  | _, _, _, .im q h => .im (PV.up _ e q) (EnvOk.up e h)
  | _, _, _, .ow q d h => .ow (OP.up _ e q) d (EnvOk.up e h)
theorem EnvOk.len : ∀ {M : Hp} {σ : St} {Γ : List Sl}, EnvOk I F M σ Γ → σ.length = Γ.length
  | _, _, _, .nil => rfl
  | _, _, _, .no o h => congrArg Nat.succ (EnvOk.len h)
  | _, _, _, .im q h => congrArg Nat.succ (EnvOk.len h)
  | _, _, _, .ow q d h => congrArg Nat.succ (EnvOk.len h)
theorem EnvOk.get : ∀ {M : Hp} {σ : St} {Γ : List Sl}, EnvOk I F M σ Γ → ∀ {i : Nat} {p : PV}, Γ[i]? = some (.im p) → ∃ v, σ[i]? = some (some v) ∧ p.r I v
  | _, _, _, .nil, i, p, h => by simp at h
  | _, _, _, .no o h, 0, p, e => by simp at e
  | _, _, _, .no o h, i + 1, p, e => EnvOk.get h (i := i) (by simpa using e)
  | _, _, _, .im q h, 0, p, e => by
    cases (Sl.im.inj (Option.some.inj e))
    exact ⟨_, rfl, q⟩
  | _, _, _, .im q h, i + 1, p, e => EnvOk.get h (i := i) (by simpa using e)
  | _, _, _, .ow q d h, 0, p, e => by simp at e
  | _, _, _, .ow q d h, i + 1, p, e => EnvOk.get h (i := i) (by simpa using e)
/-- an owned slot: its part, and what may be put in its place -/
theorem EnvOk.foc : ∀ {M : Hp} {σ : St} {Γ : List Sl}, EnvOk I F M σ Γ → ∀ {i : Nat} {p : OP}, Γ[i]? = some (.ow p) → ∃ a Ma M', σ[i]? = some (some (.ref a)) ∧ p.r I a Ma ∧ Dis Ma M' ∧ M = ov Ma M' ∧
    (∀ I' p' Ma', Ex I I' → Dis Ma' M' → p'.r I' a Ma' → EnvOk I' F (ov Ma' M') σ (Γ.set i (.ow p'))) ∧ (∀ I' p', Ex I I' → PV.r p' I' (.ref a) → EnvOk I' F M' σ (Γ.set i (.im p'))) ∧ (∀ I', Ex I I' → EnvOk I' F M' σ (Γ.set i .no))
  | _, _, _, .nil, i, p, h => by simp at h
  | _, _, _, .no o h, 0, p, e => by simp at e
  | _, _, _, .im q h, 0, p, e => by simp at e
  | _, _, _, .ow q d h, 0, p, e => by
    cases (Sl.ow.inj (Option.some.inj e))
    exact ⟨_, _, _, rfl, q, d, rfl, fun I' p' Ma' e d' q' => .ow q' d' (h.up e), fun I' p' e q' => .im q' (h.up e), fun I' e => .no _ (h.up e)⟩
  | _, _, _, .no o h, i + 1, p, e => by
    obtain ⟨a, Ma, M', h1, h2, h3, h4, h5, h6, h7⟩ := EnvOk.foc h (i := i) (by simpa using e)
    exact ⟨a, Ma, M', by simpa using h1, h2, h3, h4, fun I' p' Ma' x1 x2 x3 => .no o (h5 I' p' Ma' x1 x2 x3), fun I' p' x1 x2 => .no o (h6 I' p' x1 x2), fun I' x1 => .no o (h7 I' x1)⟩
  | _, _, _, .im q h, i + 1, p, e => by
    obtain ⟨a, Ma, M', h1, h2, h3, h4, h5, h6, h7⟩ := EnvOk.foc h (i := i) (by simpa using e)
    exact ⟨a, Ma, M', by simpa using h1, h2, h3, h4, fun I' p' Ma' x1 x2 x3 => .im (PV.up _ x1 q) (h5 I' p' Ma' x1 x2 x3), fun I' p' x1 x2 => .im (PV.up _ x1 q) (h6 I' p' x1 x2), fun I' x1 => .im (PV.up _ x1 q) (h7 I' x1)⟩
  | _, _, _, .ow (Ma := Mb) q d h, i + 1, p, e => by
    obtain ⟨a, Ma, M', h1, h2, h3, h4, h5, h6, h7⟩ := EnvOk.foc h (i := i) (by simpa using e)
    subst h4
    obtain ⟨d1, d2⟩ := dis_r_ov d
    refine ⟨a, Ma, ov Mb M', by simpa using h1, h2, dis_ov_r d1.symm h3, ?_, fun I' p' Ma' x1 x2 x3 => ?_, fun I' p' x1 x2 => .ow (OP.up _ x1 q) d2 (h6 I' p' x1 x2), fun I' x1 => .ow (OP.up _ x1 q) d2 (h7 I' x1)⟩
    · rw [ov_assoc, ov_assoc, ov_comm d1]
    · obtain ⟨y1, y2⟩ := dis_r_ov x2
      have e2 : ov Ma' (ov Mb M') = ov Mb (ov Ma' M') := by rw [ov_assoc, ov_assoc, ov_comm y1]
      rw [e2]
      exact .ow (OP.up _ x1 q) (dis_ov_r y1.symm d2) (h5 I' p' Ma' x1 y2 x3)
def isOw : Sl → Bool
  | .ow _ => true
  | _ => false
/-- the slot owns nothing -/
def NotOw (Γ : List Sl) (i : Nat) : Prop := (Γ[i]?.map isOw).getD false = false
theorem EnvOk.set {v : V} {p : PV} (q : p.r I v) : ∀ {M : Hp} {σ : St} {Γ : List Sl} {i : Nat}, EnvOk I F M σ Γ → NotOw Γ i → EnvOk I F M (σ.set i (some v)) (Γ.set i (.im p))
  | _, _, _, _, .nil, _ => .nil
  | _, _, _, 0, .no o h, _ => .im q h
  | _, _, _, 0, .im _ h, _ => .im q h
  | _, _, _, 0, .ow _ _ h, e => by simp [NotOw, isOw] at e
  | _, _, _, i + 1, .no o h, e => .no o (EnvOk.set q (i := i) h (by simpa [NotOw] using e))
  | _, _, _, i + 1, .im r h, e => .im r (EnvOk.set q (i := i) h (by simpa [NotOw] using e))
  | _, _, _, i + 1, .ow r d h, e => .ow r d (EnvOk.set q (i := i) h (by simpa [NotOw] using e))
theorem EnvOk.setNo {o : Option V} : ∀ {M : Hp} {σ : St} {Γ : List Sl} {i : Nat}, EnvOk I F M σ Γ → NotOw Γ i → EnvOk I F M (σ.set i o) (Γ.set i .no)
  | _, _, _, _, .nil, _ => .nil
  | _, _, _, 0, .no _ h, _ => .no o h
  | _, _, _, 0, .im _ h, _ => .no o h
  | _, _, _, 0, .ow _ _ h, e => by simp [NotOw, isOw] at e
  | _, _, _, i + 1, .no o h, e => .no o (EnvOk.setNo (i := i) h (by simpa [NotOw] using e))
  | _, _, _, i + 1, .im r h, e => .im r (EnvOk.setNo (i := i) h (by simpa [NotOw] using e))
  | _, _, _, i + 1, .ow r d h, e => .ow r d (EnvOk.setNo (i := i) h (by simpa [NotOw] using e))
/-- a slot takes an owned part -/
theorem EnvOk.take {a : Addr} {p : OP} {Ma : Hp} (q : p.r I a Ma) : ∀ {M : Hp} {σ : St} {Γ : List Sl} {i : Nat}, EnvOk I F M σ Γ → NotOw Γ i → i < Γ.length → Dis Ma M → EnvOk I F (ov Ma M) (σ.set i (some (.ref a))) (Γ.set i (.ow p))
  | _, _, _, _, .nil, _, l, _ => by simp at l
  | _, _, _, 0, .no o h, _, _, d => .ow q d h
  | _, _, _, 0, .im _ h, _, _, d => .ow q d h
  | _, _, _, 0, .ow _ _ h, e, _, _ => by simp [NotOw, isOw] at e
  | _, _, _, i + 1, .no o h, e, l, d => .no o (EnvOk.take q (i := i) h (by simpa [NotOw] using e) (by simpa using l) d)
  | _, _, _, i + 1, .im r h, e, l, d => .im r (EnvOk.take q (i := i) h (by simpa [NotOw] using e) (by simpa using l) d)
  | _, _, _, i + 1, .ow (Ma := Mb) (M := M) r d' h, e, l, d => by
    obtain ⟨y1, y2⟩ := dis_r_ov d
    have e2 : ov Ma (ov Mb M) = ov Mb (ov Ma M) := by rw [ov_assoc, ov_assoc, ov_comm y1]
    rw [e2]
    exact .ow r (dis_ov_r y1.symm d') (EnvOk.take q (i := i) h (by simpa [NotOw] using e) (by simpa using l) y2)
end
/-- what may be forgotten of a slot -/
inductive Wk1 : Sl → Sl → Prop where
  | rfl (a : Sl) : Wk1 a a
  | no (p : PV) : Wk1 (.im p) .no
  | im {p p' : PV} : (∀ I v, p.r I v → p'.r I v) → Wk1 (.im p) (.im p')
  | fr {p : OP} {p' : PV} : (∀ I a Ma, Dis Ma I → p.r I a Ma → p'.r (ov Ma I) (.ref a)) → Wk1 (.ow p) (.im p')
  | drop (p : OP) : Wk1 (.ow p) .no
  | ow {p p' : OP} : (∀ I a Ma, p.r I a Ma → p'.r I a Ma) → Wk1 (.ow p) (.ow p')
inductive Wk : List Sl → List Sl → Prop where
  | nil : Wk [] []
  | cons {a b : Sl} {Γ Γ' : List Sl} : Wk1 a b → Wk Γ Γ' → Wk (a :: Γ) (b :: Γ')
theorem Wk.refl : ∀ Γ : List Sl, Wk Γ Γ
  | [] => .nil
  | a :: Γ => .cons (.rfl a) (Wk.refl Γ)
theorem EnvOk.wk {F : Hp} : ∀ {Γ Γ' : List Sl}, Wk Γ Γ' → ∀ {I M : Hp} {σ : St}, EnvOk I F M σ Γ → Dis M I → ∃ I' M', Ex I I' ∧ Dis M' I' ∧ ov M' I' = ov M I ∧ EnvOk I' F M' σ Γ'
  | _, _, .nil, I, M, σ, h, d => ⟨I, M, Ex.refl I, d, rfl, h⟩
  | _, _, .cons w ws, I, M, σ, h, d => by
    have own : ∀ {Ma M1 : Hp} {σ1 : St}, Dis Ma M1 → EnvOk I F M1 σ1 _ → Dis (ov Ma M1) I → ∃ I' M', Ex I I' ∧ Dis M' I' ∧ EnvOk I' F M' σ1 _ ∧ Dis Ma I' ∧ Dis Ma M' ∧ ov Ma (ov M' I') = ov (ov Ma M1) I := fun {Ma M1 σ1} d1 h1 d2 => by
      obtain ⟨y1, y2⟩ := dis_ov_l d2
      obtain ⟨I', M', x1, x2, x3, x4⟩ := EnvOk.wk ws h1 y2
      have z := dis_ov_r d1 y1
      rw [← x3] at z
      obtain ⟨z1, z2⟩ := dis_r_ov z
      exact ⟨I', M', x1, x2, x4, z2, z1, by rw [x3, ov_assoc]⟩
    cases w with
    | rfl a =>
      cases h with
      | no o h =>
        obtain ⟨I', M', x1, x2, x3, x4⟩ := EnvOk.wk ws h d
        exact ⟨I', M', x1, x2, x3, .no o x4⟩
      | im q h =>
        obtain ⟨I', M', x1, x2, x3, x4⟩ := EnvOk.wk ws h d
        exact ⟨I', M', x1, x2, x3, .im (PV.up _ x1 q) x4⟩
      | ow q d' h =>
        obtain ⟨I', M', x1, x2, x3, x4, x5, x6⟩ := own d' h d
        exact ⟨I', _, x1, dis_ov x4 x2, by rw [← ov_assoc, x6], .ow (OP.up _ x1 q) x5 x3⟩
    | no p =>
      cases h with
      | im q h =>
        obtain ⟨I', M', x1, x2, x3, x4⟩ := EnvOk.wk ws h d
        exact ⟨I', M', x1, x2, x3, .no _ x4⟩
    | im f =>
      cases h with
      | im q h =>
        obtain ⟨I', M', x1, x2, x3, x4⟩ := EnvOk.wk ws h d
        exact ⟨I', M', x1, x2, x3, .im (PV.up _ x1 (f _ _ q)) x4⟩
    | fr f =>
      cases h with
      | ow q d' h =>
        obtain ⟨I', M', x1, x2, x3, x4, x5, x6⟩ := own d' h d
        exact ⟨ov _ I', M', x1.trans (ex_ov x4), dis_ov_r x5.symm x2, by rw [ov_assoc, ← ov_comm x5, ← ov_assoc, x6], .im (f _ _ _ x4 (OP.up _ x1 q)) (x3.up (ex_ov x4))⟩
    | drop p =>
      cases h with
      | ow q d' h =>
        obtain ⟨I', M', x1, x2, x3, x4, x5, x6⟩ := own d' h d
        exact ⟨ov _ I', M', x1.trans (ex_ov x4), dis_ov_r x5.symm x2, by rw [ov_assoc, ← ov_comm x5, ← ov_assoc, x6], .no _ (x3.up (ex_ov x4))⟩
    | ow f =>
      cases h with
      | ow q d' h =>
        obtain ⟨I', M', x1, x2, x3, x4, x5, x6⟩ := own d' h d
        exact ⟨I', _, x1, dis_ov x4 x2, by rw [← ov_assoc, x6], .ow (f _ _ _ (OP.up _ x1 q)) x5 x3⟩
/-- a list is no longer changed -/
theorem fr_ol {K : PySem.W.Frag} {α : Type} [Rp α] {xs : List α} : ∀ I a Ma, Dis Ma I → (ol K xs).r I a Ma → (pv K xs).r (ov Ma I) (.ref a) := fun I a Ma d ⟨vs, e, q⟩ =>
  ⟨a, vs, rfl, by rw [e]; exact ov_l sing_same, rs_up (ex_ov d) q⟩
theorem fr_at {P : OP} {p : PV} {v : V} (h : ∀ I a Ma, Dis Ma I → P.r I a Ma → p.r (ov Ma I) (.ref a)) : ∀ I a Ma, Dis Ma I → (P.at v).r I a Ma → p.r (ov Ma I) (.ref a) := fun I a Ma d ⟨_, q⟩ => h I a Ma d q
end Mir

/-! Mir2: the monad of mirrors; what a reading computes -/
namespace Mir
open PySem L2

/-! ### the monad: a state of what is owned; ok or bad -/
inductive R (S α : Type) where
  | ok (a : α) (s : S)
  | bad
def Mn (S α : Type) : Type := S → R S α
section
variable {S α β : Type}
def R.sat (m : R S α) (Q : α → S → Prop) : Prop := match m with
  | .ok a s => Q a s
  | .bad => False
def mp (a : α) : Mn S α := fun s => .ok a s
def mbad : Mn S α := fun _ => .bad
def mb (m : Mn S α) (f : α → Mn S β) : Mn S β := fun s => match m s with
  | .ok a s' => f a s'
  | .bad => .bad
/-- checked -/
def mc (c : Bool) (a : α) : Mn S α := fun s => match c with
  | true => .ok a s
  | false => .bad
def mo (o : Option α) : Mn S α := fun s => match o with
  | some a => .ok a s
  | none => .bad
/-- of the state -/
def mg (f : S → α) : Mn S α := fun s => .ok (f s) s
def ms (f : S → S) : Mn S Unit := fun s => .ok () (f s)
def mi (b : Bool) (m1 m2 : Mn S α) : Mn S α := match b with
  | true => m1
  | false => m2
/-- of another state: get and put -/
def ml {S' : Type} (g : S → S') (p : S → S' → S) (m : Mn S' α) : Mn S α := fun s => match m (g s) with
  | .ok a s' => .ok a (p s s')
  | .bad => .bad
/-- of no state -/
def mu (m : Mn Unit α) : Mn S α := fun s => match m () with
  | .ok a _ => .ok a s
  | .bad => .bad
theorem R.sat_imp {m : R S α} {Q Q' : α → S → Prop} (h : m.sat Q) (f : ∀ a s, Q a s → Q' a s) : m.sat Q' := by
  cases m with
  | ok a s => exact f _ _ h
  | bad => exact h
theorem sat_mb {m : Mn S α} {f : α → Mn S β} {s : S} {Q : β → S → Prop} : (mb m f s).sat Q ↔ (m s).sat fun a s' => (f a s').sat Q := by
  unfold mb
  cases m s <;> exact Iff.rfl
theorem sat_mp {a : α} {s : S} {Q : α → S → Prop} : (mp a s).sat Q ↔ Q a s := Iff.rfl
theorem sat_mc {c : Bool} {a : α} {s : S} {Q : α → S → Prop} : (mc c a s).sat Q ↔ c = true ∧ Q a s := by
  cases c with
  | true => exact ⟨fun h => ⟨rfl, h⟩, fun h => h.2⟩
  | false => exact ⟨fun h => h.elim, fun h => nomatch h.1⟩
theorem sat_mo {o : Option α} {s : S} {Q : α → S → Prop} : (mo o s).sat Q ↔ ∃ a, o = some a ∧ Q a s := by
  cases o with
  | none => exact ⟨fun h => h.elim, fun ⟨_, h, _⟩ => nomatch h⟩
  | some a => exact ⟨fun h => ⟨a, rfl, h⟩, fun ⟨_, h, q⟩ => by cases h; exact q⟩
theorem sat_mg {f : S → α} {s : S} {Q : α → S → Prop} : (mg f s).sat Q ↔ Q (f s) s := Iff.rfl
theorem sat_ms {f : S → S} {s : S} {Q : Unit → S → Prop} : (ms f s).sat Q ↔ Q () (f s) := Iff.rfl
theorem sat_mbad {s : S} {Q : α → S → Prop} : ((mbad : Mn S α) s).sat Q ↔ False := Iff.rfl
theorem sat_mi {b : Bool} {m1 m2 : Mn S α} {s : S} {Q : α → S → Prop} : (mi b m1 m2 s).sat Q ↔ (b = true → (m1 s).sat Q) ∧ (b = false → (m2 s).sat Q) := by
  cases b with
  | true => exact ⟨fun h => ⟨fun _ => h, fun q => nomatch q⟩, fun h => h.1 rfl⟩
  | false => exact ⟨fun h => ⟨fun q => (nomatch q), fun _ => h⟩, fun h => h.2 rfl⟩
theorem sat_ml {S' : Type} {g : S → S'} {p : S → S' → S} {m : Mn S' α} {s : S} {Q : α → S → Prop} : (ml g p m s).sat Q ↔ (m (g s)).sat fun a s' => Q a (p s s') := by
  unfold ml
  cases m (g s) <;> exact Iff.rfl
theorem sat_mu {m : Mn Unit α} {s : S} {Q : α → S → Prop} : (mu m s).sat Q ↔ (m ()).sat fun a _ => Q a s := by
  unfold mu
  cases m () <;> exact Iff.rfl
end

/-! ### judgements -/
section
variable {K : PySem.W.Frag}
/-- an expression of known value p; nothing owned is changed -/
def EP (te : TE) (Γ : List Sl) (p : PV) : Prop := ∀ (I F M : Hp) (σ : L2.St), EnvOk I F M σ Γ → Dis M I → ∀ Q : VK, (∀ v I', Ex I I' → Dis M I' → p.r I' v → Q v (ov M I')) → te σ (ov M I) Q
/-- a test -/
def TP (tt : TT) (Γ : List Sl) (b : Bool) : Prop := ∀ (I F M : Hp) (σ : L2.St), EnvOk I F M σ Γ → Dis M I → ∀ Q : Bool → Hp → Prop, (∀ I', Ex I I' → Dis M I' → Q b (ov M I')) → tt σ (ov M I) Q
/-- an expression that may change what is owned, or be bad -/
def EM (K : PySem.W.Frag) {S α : Type} [Rp α] (te : TE) (Γ : S → List Sl) (m : Mn S α) : Prop := ∀ (s : S) (I F M : Hp) (σ : L2.St), EnvOk I F M σ (Γ s) → Dis M I → ∀ Q : VK,
  (m s).sat (fun x s' => ∀ v I' M', Ex I I' → Dis M' I' → EnvOk I' F M' σ (Γ s') → Rp.r K x I' v → Q v (ov M' I')) → te σ (ov M I) Q
def TM {S : Type} (tt : TT) (Γ : S → List Sl) (m : Mn S Bool) : Prop := ∀ (s : S) (I F M : Hp) (σ : L2.St), EnvOk I F M σ (Γ s) → Dis M I → ∀ Q : Bool → Hp → Prop,
  (m s).sat (fun b s' => ∀ I' M', Ex I I' → Dis M' I' → EnvOk I' F M' σ (Γ s') → Q b (ov M' I')) → tt σ (ov M I) Q
section
variable {S α β γ : Type} [Rp α] [Rp β] [Rp γ] {te ta tb : TE} {tt : TT} {Γ : S → List Sl} {x : α} {y : β} {z : γ}
theorem em_p {f : S → α} (h : ∀ s, EP te (Γ s) (pv K (f s))) : EM K te Γ (mg f) := fun s I F M σ e d Q q => h s I F M σ e d Q fun v I' a b c => q v I' M a b (e.up a) c
theorem em_pure (h : ∀ s, EP te (Γ s) (pv K x)) : EM K te Γ (mp x) := fun s I F M σ e d Q q => h s I F M σ e d Q fun v I' a b c => q v I' M a b (e.up a) c
theorem tm_pure {b : Bool} (h : ∀ s, TP tt (Γ s) b) : TM tt Γ (mp b) := fun s I F M σ e d Q q => h s I F M σ e d Q fun I' a b => q I' M a b (e.up a)
theorem tm_p {f : S → Bool} (h : ∀ s, TP tt (Γ s) (f s)) : TM tt Γ (mg f) := fun s I F M σ e d Q q => h s I F M σ e d Q fun I' a b => q I' M a b (e.up a)
end

/-! ### names, constants -/
section
variable {Γ : List Sl} {p q w : PV} {te ta tb tc : TE} {tt tu : TT} {a b : Bool}
theorem ep_var {i : Nat} (h : Γ[i]? = some (.im p)) : EP (tVar i) Γ p := fun I F M σ e d Q k => by
  obtain ⟨v, h1, h2⟩ := e.get h
  exact ⟨v, h1, k v I (Ex.refl I) d h2⟩
theorem ep_c {α : Type} [Rp α] {x : α} {v : V} (h : ∀ H, Rp.r K x H v) : EP (tC v) Γ (pv K x) := fun I F M σ e d Q k => k v I (Ex.refl I) d (h I)
theorem ep_int {i : Int} : EP (tC (.int i)) Γ (pv K i) := ep_c fun _ => rfl
theorem ep_bl {i : Bool} : EP (tC (.bl i)) Γ (pv K i) := ep_c fun _ => rfl
theorem ep_str {i : Str} : EP (tC (.str i)) Γ (pv K i) := ep_c fun _ => rfl
theorem ep_non : EP (tC .non) Γ (pv K ()) := ep_c fun _ => rfl
theorem ep_nonO {α : Type} [Rp α] : EP (tC .non) Γ (pv K (none : Option α)) := ep_c fun _ => rfl
theorem ep_some {α : Type} [Rp α] {x : α} (hn : ∀ H v, Rp.r K x H v → v ≠ .non) (h : EP te Γ (pv K x)) : EP te Γ (pv K (some x)) := fun I F M σ e d Q k => h I F M σ e d Q fun v I' a b c => k v I' a b ⟨c, hn _ _ c⟩

/-! ### operators on values -/
/-- what an operator gives of two values -/
def Op2 (r : R2) (p q w : PV) : Prop := ∀ (I M : Hp) (x y : V) (Q : VK), Dis M I → p.r I x → q.r I y → (∀ v I', Ex I I' → Dis M I' → w.r I' v → Q v (ov M I')) → r x y (ov M I) Q
def Op1 (r : V → Hp → VK → Prop) (p w : PV) : Prop := ∀ (I M : Hp) (x : V) (Q : VK), Dis M I → p.r I x → (∀ v I', Ex I I' → Dis M I' → w.r I' v → Q v (ov M I')) → r x (ov M I) Q
theorem op_ii {g : Int → Int → V} {α : Type} [Rp α] {i j : Int} {z : α} (h : ∀ H, Rp.r K z H (g i j)) : Op2 (rI0 g) (pv K i) (pv K j) (pv K z) := fun I M x y Q d hx hy k => ⟨i, j, hx, hy, k _ I (Ex.refl I) d (h I)⟩
theorem op_iiC {C : Int → Int → Prop} {g : Int → Int → V} {α : Type} [Rp α] {i j : Int} {z : α} (c : C i j) (h : ∀ H, Rp.r K z H (g i j)) : Op2 (rI C g) (pv K i) (pv K j) (pv K z) := fun I M x y Q d hx hy k => ⟨i, j, hx, hy, c, k _ I (Ex.refl I) d (h I)⟩
theorem ep_op {r : R2} (ha : EP ta Γ p) (hb : EP tb Γ q) (h : Op2 r p q w) : EP (tOp r ta tb) Γ w := fun I F M σ e d Q k =>
  ha I F M σ e d _ fun x I1 a1 d1 r1 => hb I1 F M σ (e.up a1) d1 _ fun y I2 a2 d2 r2 => h I2 M x y Q d2 (p.up a2 r1) r2 fun v I3 a3 d3 r3 => k v I3 ((a1.trans a2).trans a3) d3 r3
theorem ep_un {r : V → Hp → VK → Prop} (ha : EP ta Γ p) (h : Op1 r p w) : EP (tUn r ta) Γ w := fun I F M σ e d Q k =>
  ha I F M σ e d _ fun x I1 a1 d1 r1 => h I1 M x Q d1 r1 fun v I3 a3 d3 r3 => k v I3 (a1.trans a3) d3 r3
end
section
variable {S α β γ : Type} [Rp α] [Rp β] [Rp γ] {ta tb : TE} {Γ : S → List Sl} {x : α} {y : β} {z : γ} {m1 : Mn S α} {m2 : Mn S β} {r : R2} {g : α → β → γ} {c : α → β → Bool}
/-- both parts change or are checked -/
theorem em_op (ha : EM K ta Γ m1) (hb : EM K tb Γ m2) (h : ∀ x y, Op2 r (pv K x) (pv K y) (pv K (g x y))) : EM K (tOp r ta tb) Γ (mb m1 fun x => mb m2 fun y => mp (g x y)) := fun s I F M σ e d Q q =>
  ha s I F M σ e d _ (R.sat_imp (sat_mb.mp q) fun x s1 q v1 I1 M1 a1 d1 e1 r1 => hb s1 I1 F M1 σ e1 d1 _ (R.sat_imp (sat_mb.mp q) fun y s2 q v2 I2 M2 a2 d2 e2 r2 =>
    h x y I2 M2 v1 v2 Q d2 (Rp.up a2 r1) r2 fun v I3 a3 d3 r3 => q v I3 M2 ((a1.trans a2).trans a3) d3 (e2.up a3) r3))
theorem em_opC (ha : EM K ta Γ m1) (hb : EM K tb Γ m2) (h : ∀ x y, c x y = true → Op2 r (pv K x) (pv K y) (pv K (g x y))) : EM K (tOp r ta tb) Γ (mb m1 fun x => mb m2 fun y => mc (c x y) (g x y)) := fun s I F M σ e d Q q =>
  ha s I F M σ e d _ (R.sat_imp (sat_mb.mp q) fun x s1 q v1 I1 M1 a1 d1 e1 r1 => hb s1 I1 F M1 σ e1 d1 _ (R.sat_imp (sat_mb.mp q) fun y s2 q v2 I2 M2 a2 d2 e2 r2 =>
    h x y (sat_mc.mp q).1 I2 M2 v1 v2 Q d2 (Rp.up a2 r1) r2 fun v I3 a3 d3 r3 => (sat_mc.mp q).2 v I3 M2 ((a1.trans a2).trans a3) d3 (e2.up a3) r3))
/-- the left part known -/
theorem em_opl (ha : ∀ s, EP ta (Γ s) (pv K x)) (hb : EM K tb Γ m2) (h : ∀ y, Op2 r (pv K x) (pv K y) (pv K (g x y))) : EM K (tOp r ta tb) Γ (mb m2 fun y => mp (g x y)) := fun s I F M σ e d Q q =>
  ha s I F M σ e d _ fun v1 I1 a1 d1 r1 => hb s I1 F M σ (e.up a1) d1 _ (R.sat_imp (sat_mb.mp q) fun y s2 q v2 I2 M2 a2 d2 e2 r2 =>
    h y I2 M2 v1 v2 Q d2 (Rp.up a2 r1) r2 fun v I3 a3 d3 r3 => q v I3 M2 ((a1.trans a2).trans a3) d3 (e2.up a3) r3)
theorem em_oplC (ha : ∀ s, EP ta (Γ s) (pv K x)) (hb : EM K tb Γ m2) (h : ∀ y, c x y = true → Op2 r (pv K x) (pv K y) (pv K (g x y))) : EM K (tOp r ta tb) Γ (mb m2 fun y => mc (c x y) (g x y)) := fun s I F M σ e d Q q =>
  ha s I F M σ e d _ fun v1 I1 a1 d1 r1 => hb s I1 F M σ (e.up a1) d1 _ (R.sat_imp (sat_mb.mp q) fun y s2 q v2 I2 M2 a2 d2 e2 r2 =>
    h y (sat_mc.mp q).1 I2 M2 v1 v2 Q d2 (Rp.up a2 r1) r2 fun v I3 a3 d3 r3 => (sat_mc.mp q).2 v I3 M2 ((a1.trans a2).trans a3) d3 (e2.up a3) r3)
/-- the right part known -/
theorem em_opr (ha : EM K ta Γ m1) (hb : ∀ s, EP tb (Γ s) (pv K y)) (h : ∀ x, Op2 r (pv K x) (pv K y) (pv K (g x y))) : EM K (tOp r ta tb) Γ (mb m1 fun x => mp (g x y)) := fun s I F M σ e d Q q =>
  ha s I F M σ e d _ (R.sat_imp (sat_mb.mp q) fun x s1 q v1 I1 M1 a1 d1 e1 r1 => hb s1 I1 F M1 σ e1 d1 _ fun v2 I2 a2 d2 r2 =>
    h x I2 M1 v1 v2 Q d2 (Rp.up a2 r1) r2 fun v I3 a3 d3 r3 => q v I3 M1 ((a1.trans a2).trans a3) d3 (e1.up (a2.trans a3)) r3)
theorem em_oprC (ha : EM K ta Γ m1) (hb : ∀ s, EP tb (Γ s) (pv K y)) (h : ∀ x, c x y = true → Op2 r (pv K x) (pv K y) (pv K (g x y))) : EM K (tOp r ta tb) Γ (mb m1 fun x => mc (c x y) (g x y)) := fun s I F M σ e d Q q =>
  ha s I F M σ e d _ (R.sat_imp (sat_mb.mp q) fun x s1 q v1 I1 M1 a1 d1 e1 r1 => hb s1 I1 F M1 σ e1 d1 _ fun v2 I2 a2 d2 r2 =>
    h x (sat_mc.mp q).1 I2 M1 v1 v2 Q d2 (Rp.up a2 r1) r2 fun v I3 a3 d3 r3 => (sat_mc.mp q).2 v I3 M1 ((a1.trans a2).trans a3) d3 (e1.up (a2.trans a3)) r3)
/-- both parts known -/
theorem em_opC2 {c : Bool} (ha : ∀ s, EP ta (Γ s) (pv K x)) (hb : ∀ s, EP tb (Γ s) (pv K y)) (h : c = true → Op2 r (pv K x) (pv K y) (pv K z)) : EM K (tOp r ta tb) Γ (mc c z) := fun s I F M σ e d Q q =>
  ep_op (ha s) (hb s) (h (sat_mc.mp q).1) I F M σ e d Q fun v I3 a3 d3 r3 => (sat_mc.mp q).2 v I3 M a3 d3 (e.up a3) r3
/-- .. in the state -/
theorem em_un {r : V → Hp → VK → Prop} {g : α → γ} (ha : EM K ta Γ m1) (h : ∀ x, Op1 r (pv K x) (pv K (g x))) : EM K (tUn r ta) Γ (mb m1 fun x => mp (g x)) := fun s I F M σ e d Q q =>
  ha s I F M σ e d _ (R.sat_imp (sat_mb.mp q) fun x s1 q v1 I1 M1 a1 d1 e1 r1 => h x I1 M1 v1 Q d1 r1 fun v I3 a3 d3 r3 => q v I3 M1 (a1.trans a3) d3 (e1.up a3) r3)
end
end
end Mir

/-! Mir3: operators, tests, arguments, displays, items, calls -/
namespace Mir
open PySem L2
section
variable {K : PySem.W.Frag}
/-! ### operators on ints -/
section
variable {i j : Int}
theorem o_add : Op2 (rI0 fun i j => .int (i + j)) (pv K i) (pv K j) (pv K (i + j)) := op_ii fun _ => rfl
theorem o_sub : Op2 (rI0 fun i j => .int (i - j)) (pv K i) (pv K j) (pv K (i - j)) := op_ii fun _ => rfl
theorem o_lt : Op2 (rI0 fun i j => .bl (decide (i < j))) (pv K i) (pv K j) (pv K (decide (i < j))) := op_ii fun _ => rfl
theorem o_le : Op2 (rI0 fun i j => .bl (decide (i ≤ j))) (pv K i) (pv K j) (pv K (decide (i ≤ j))) := op_ii fun _ => rfl
theorem o_gt : Op2 (rI0 fun i j => .bl (decide (j < i))) (pv K i) (pv K j) (pv K (decide (j < i))) := op_ii fun _ => rfl
theorem o_ge : Op2 (rI0 fun i j => .bl (decide (j ≤ i))) (pv K i) (pv K j) (pv K (decide (j ≤ i))) := op_ii fun _ => rfl
def smallI (i : Int) : Bool := decide (-(2 ^ 64) < i ∧ i < 2 ^ 64)
def mulOk (i j : Int) : Bool := decide (i.natAbs.log2 + j.natAbs.log2 < 1000000)
def divOk (j : Int) : Bool := decide (0 < j ∧ j.natAbs.log2 < 9000)
def modOk (j : Int) : Bool := decide (0 < j)
def powOk (i j : Int) : Bool := decide (0 ≤ j ∧ j ≤ 1000000 ∧ i.natAbs < 2 ^ 64)
/-- one factor is small -/
theorem o_mulL (h : smallI i = true) : Op2 (rI CMul fun i j => .int (i * j)) (pv K i) (pv K j) (pv K (i * j)) := op_iiC (show CMul i j from .inl (of_decide_eq_true h)) fun _ => rfl
theorem o_mulR (h : smallI j = true) : Op2 (rI CMul fun i j => .int (i * j)) (pv K i) (pv K j) (pv K (i * j)) := op_iiC (show CMul i j from .inr (of_decide_eq_true h)) fun _ => rfl
theorem o_mulW (h : mulOk i j = true) : Op2 (rI CMulW fun i j => .int (i * j)) (pv K i) (pv K j) (pv K (i * j)) := op_iiC (show CMulW i j from (of_decide_eq_true h : i.natAbs.log2 + j.natAbs.log2 < 1000000)) fun _ => rfl
theorem o_divW (h : divOk j = true) : Op2 (rI CDivW fun i j => .int (i / j)) (pv K i) (pv K j) (pv K (i / j)) := op_iiC (show CDivW i j from (of_decide_eq_true h : 0 < j ∧ j.natAbs.log2 < 9000)) fun _ => rfl
theorem o_mod (h : modOk j = true) : Op2 (rI (fun _ j => 0 < j) fun i j => .int (i % j)) (pv K i) (pv K j) (pv K (i % j)) := op_iiC (C := fun _ j => 0 < j) (of_decide_eq_true h) fun _ => rfl
theorem o_pow (h : powOk i j = true) : Op2 (rI CPow fun i j => .int (i ^ j.toNat)) (pv K i) (pv K j) (pv K (i ^ j.toNat)) := op_iiC (show CPow i j from (of_decide_eq_true h : 0 ≤ j ∧ j ≤ 1000000 ∧ i.natAbs < 2 ^ 64)) fun _ => rfl
theorem o_neg : Op1 (rU fun i => .int (-i)) (pv K i) (pv K (-i)) := fun I M x Q d hx k => ⟨i, hx, k _ I (Ex.refl I) d rfl⟩
/-- scalars by == -/
class Eqs (α : Type) [Rp α] [Sc α] where
  sc : ∀ x y : α, scal (Sc.s x) (Sc.s y) = true
  inj : ∀ x y : α, Sc.s x = Sc.s y → x = y
instance eqsInt : Eqs Int := ⟨fun _ _ => rfl, fun _ _ h => V.int.inj h⟩
instance eqsBool : Eqs Bool := ⟨fun _ _ => rfl, fun _ _ h => V.bl.inj h⟩
instance eqsStr : Eqs Str := ⟨fun _ _ => rfl, fun _ _ h => V.str.inj h⟩
theorem dec_s {α : Type} [Rp α] [Sc α] [Eqs α] [DecidableEq α] (x y : α) : decide (Sc.s x = Sc.s y) = decide (x = y) := by
  by_cases h : x = y
  · rw [h]; simp
  · rw [decide_eq_false h, decide_eq_false (fun q => h (Eqs.inj _ _ q))]
theorem o_eq {α : Type} [Rp α] [Sc α] [Eqs α] [DecidableEq α] {x y : α} : Op2 rEq (pv K x) (pv K y) (pv K (decide (x = y))) := fun I M u v Q d hx hy k => by
  cases Sc.eq.mp hx
  cases Sc.eq.mp hy
  refine ⟨Eqs.sc _ _, ?_⟩
  rw [dec_s]
  exact k _ I (Ex.refl I) d rfl
theorem o_ne {α : Type} [Rp α] [Sc α] [Eqs α] [DecidableEq α] {x y : α} : Op2 rNe (pv K x) (pv K y) (pv K (!decide (x = y))) := fun I M u v Q d hx hy k => by
  cases Sc.eq.mp hx
  cases Sc.eq.mp hy
  refine ⟨Eqs.sc _ _, ?_⟩
  rw [dec_s]
  exact k _ I (Ex.refl I) d rfl
/-- x is None, of a type that is not None -/
theorem o_isN {p : PV} (b : Bool) (h : ∀ H v, p.r H v → decide (v = .non) = b) : Op2 (fun x y H Q => y = .non ∧ Q (.bl (decide (x = .non))) H) p (pv K ()) (pv K b) := fun I M x y Q d hx hy k => by
  refine ⟨hy, ?_⟩
  rw [h _ _ hx]
  exact k _ I (Ex.refl I) d rfl
theorem isN_opt {α : Type} [Rp α] {x : Option α} : ∀ H v, (pv K x).r H v → decide (v = .non) = x.isNone := fun H v h => by
  cases x with
  | none => exact decide_eq_true h
  | some y => exact decide_eq_false h.2
end

/-! ### tests -/
section
variable {Γ : List Sl} {p q q2 w : PV} {te ta tb tc : TE} {tt tu : TT} {a b : Bool} {r r' : R2}
theorem tp_test (h : EP te Γ (pv K b)) : TP (tTest te) Γ b := fun I F M σ e d Q k => h I F M σ e d _ fun v I' x y z => ⟨b, z, k I' x y⟩
theorem tp_B (h : EP te Γ (pv K b)) : TP (tB te) Γ b := fun I F M σ e d Q k => h I F M σ e d _ fun v I' x y z => ⟨b, z, k I' x y⟩
theorem tp_not (h : TP tt Γ b) : TP (tNot tt) Γ (!b) := fun I F M σ e d Q k => h I F M σ e d _ fun I' x y => k I' x y
theorem tp_and (h1 : TP tt Γ a) (h2 : a = true → TP tu Γ b) : TP (tAnd tt tu) Γ (a && b) := fun I F M σ e d Q k => h1 I F M σ e d _ fun I1 x1 y1 => by
  cases a with
  | true =>
    show tu σ (ov M I1) Q
    exact h2 rfl I1 F M σ (e.up x1) y1 _ fun I2 x2 y2 => k I2 (x1.trans x2) y2
  | false => exact k I1 x1 y1
theorem tp_or (h1 : TP tt Γ a) (h2 : a = false → TP tu Γ b) : TP (tOr tt tu) Γ (a || b) := fun I F M σ e d Q k => h1 I F M σ e d _ fun I1 x1 y1 => by
  cases a with
  | true => exact k I1 x1 y1
  | false =>
    show tu σ (ov M I1) Q
    exact h2 rfl I1 F M σ (e.up x1) y1 _ fun I2 x2 y2 => k I2 (x1.trans x2) y2
theorem ep_andV (h1 : EP ta Γ (pv K a)) (h2 : a = true → EP tb Γ (pv K b)) : EP (tAndV ta tb) Γ (pv K (a && b)) := fun I F M σ e d Q k => h1 I F M σ e d _ fun v I1 x1 y1 z1 => ⟨a, z1, by
  cases a with
  | true =>
    show tb σ (ov M I1) Q
    exact h2 rfl I1 F M σ (e.up x1) y1 _ fun v I2 x2 y2 z2 => k v I2 (x1.trans x2) y2 z2
  | false => exact k _ I1 x1 y1 rfl⟩
theorem ep_orV (h1 : EP ta Γ (pv K a)) (h2 : a = false → EP tb Γ (pv K b)) : EP (tOrV ta tb) Γ (pv K (a || b)) := fun I F M σ e d Q k => h1 I F M σ e d _ fun v I1 x1 y1 z1 => ⟨a, z1, by
  cases a with
  | true => exact k _ I1 x1 y1 rfl
  | false =>
    show tb σ (ov M I1) Q
    exact h2 rfl I1 F M σ (e.up x1) y1 _ fun v I2 x2 y2 z2 => k v I2 (x1.trans x2) y2 z2⟩
theorem ep_notV (h1 : EP ta Γ (pv K a)) : EP (tNotV ta) Γ (pv K (!a)) := fun I F M σ e d Q k => h1 I F M σ e d _ fun v I1 x1 y1 z1 => ⟨a, z1, k _ I1 x1 y1 rfl⟩
theorem ep_chain (ha : EP ta Γ p) (hb : EP tb Γ q) (hc : EP tc Γ q2) (h : Op2 r p q (pv K a)) (h' : Op2 r' q q2 (pv K b)) : EP (tChain r r' ta tb tc) Γ (pv K (a && b)) := fun I F M σ e d Q k =>
  ha I F M σ e d _ fun x I1 x1 y1 z1 => hb I1 F M σ (e.up x1) y1 _ fun y I2 x2 y2 z2 => h I2 M x y _ y2 (p.up x2 z1) z2 fun v I3 x3 y3 z3 => ⟨a, z3, by
    cases a with
    | true =>
      show tc σ (ov M I3) _
      exact hc I3 F M σ (e.up ((x1.trans x2).trans x3)) y3 _ fun u I4 x4 y4 z4 => h' I4 M y u Q y4 (q.up (x3.trans x4) z2) z4 fun v I5 x5 y5 z5 => k v I5 ((((x1.trans x2).trans x3).trans x4).trans x5) y5 z5
    | false => exact k _ I3 ((x1.trans x2).trans x3) y3 rfl⟩
theorem ep_if {α : Type} [Rp α] {x y : α} (h : TP tt Γ b) (h1 : b = true → EP ta Γ (pv K x)) (h2 : b = false → EP tb Γ (pv K y)) : EP (tIf tt ta tb) Γ (pv K (cond b x y)) := fun I F M σ e d Q k => h I F M σ e d _ fun I1 x1 y1 => by
  cases b with
  | true => exact h1 rfl I1 F M σ (e.up x1) y1 Q fun v I2 x2 y2 z2 => k v I2 (x1.trans x2) y2 z2
  | false => exact h2 rfl I1 F M σ (e.up x1) y1 Q fun v I2 x2 y2 z2 => k v I2 (x1.trans x2) y2 z2
end
section
variable {S α β γ : Type} [Rp α] {Γ : S → List Sl} {te ta tb tc : TE} {tt tu : TT}
theorem tm_test {m : Mn S Bool} (h : EM K te Γ m) : TM (tTest te) Γ m := fun s I F M σ e d Q q => h s I F M σ e d _ (R.sat_imp q fun b s' q v I' M' a1 d1 e1 r1 => ⟨b, r1, q I' M' a1 d1 e1⟩)
theorem tm_B {m : Mn S Bool} (h : EM K te Γ m) : TM (tB te) Γ m := fun s I F M σ e d Q q => h s I F M σ e d _ (R.sat_imp q fun b s' q v I' M' a1 d1 e1 r1 => ⟨b, r1, q I' M' a1 d1 e1⟩)
theorem tm_not {m : Mn S Bool} (h : TM tt Γ m) : TM (tNot tt) Γ (mb m fun b => mp (!b)) := fun s I F M σ e d Q q => h s I F M σ e d _ (R.sat_imp (sat_mb.mp q) fun b s' q I' M' a1 d1 e1 => q I' M' a1 d1 e1)
theorem tm_and {m1 m2 : Mn S Bool} (h1 : TM tt Γ m1) (h2 : TM tu Γ m2) : TM (tAnd tt tu) Γ (mb m1 fun b => mi b m2 (mp false)) := fun s I F M σ e d Q q => h1 s I F M σ e d _ (R.sat_imp (sat_mb.mp q) fun b s1 q I1 M1 a1 d1 e1 => by
  cases b with
  | true =>
    show tu σ (ov M1 I1) Q
    exact h2 s1 I1 F M1 σ e1 d1 _ (R.sat_imp q fun b s2 q I2 M2 a2 d2 e2 => q I2 M2 (a1.trans a2) d2 e2)
  | false => exact q I1 M1 a1 d1 e1)
theorem tm_or {m1 m2 : Mn S Bool} (h1 : TM tt Γ m1) (h2 : TM tu Γ m2) : TM (tOr tt tu) Γ (mb m1 fun b => mi b (mp true) m2) := fun s I F M σ e d Q q => h1 s I F M σ e d _ (R.sat_imp (sat_mb.mp q) fun b s1 q I1 M1 a1 d1 e1 => by
  cases b with
  | true => exact q I1 M1 a1 d1 e1
  | false =>
    show tu σ (ov M1 I1) Q
    exact h2 s1 I1 F M1 σ e1 d1 _ (R.sat_imp q fun b s2 q I2 M2 a2 d2 e2 => q I2 M2 (a1.trans a2) d2 e2))
theorem em_andV {m1 m2 : Mn S Bool} (h1 : EM K ta Γ m1) (h2 : EM K tb Γ m2) : EM K (tAndV ta tb) Γ (mb m1 fun b => mi b m2 (mp false)) := fun s I F M σ e d Q q => h1 s I F M σ e d _ (R.sat_imp (sat_mb.mp q) fun b s1 q v1 I1 M1 a1 d1 e1 r1 => ⟨b, r1, by
  cases b with
  | true =>
    show tb σ (ov M1 I1) Q
    exact h2 s1 I1 F M1 σ e1 d1 _ (R.sat_imp q fun b s2 q v I2 M2 a2 d2 e2 => q v I2 M2 (a1.trans a2) d2 e2)
  | false => exact q _ I1 M1 a1 d1 e1 rfl⟩)
theorem em_orV {m1 m2 : Mn S Bool} (h1 : EM K ta Γ m1) (h2 : EM K tb Γ m2) : EM K (tOrV ta tb) Γ (mb m1 fun b => mi b (mp true) m2) := fun s I F M σ e d Q q => h1 s I F M σ e d _ (R.sat_imp (sat_mb.mp q) fun b s1 q v1 I1 M1 a1 d1 e1 r1 => ⟨b, r1, by
  cases b with
  | true => exact q _ I1 M1 a1 d1 e1 rfl
  | false =>
    show tb σ (ov M1 I1) Q
    exact h2 s1 I1 F M1 σ e1 d1 _ (R.sat_imp q fun b s2 q v I2 M2 a2 d2 e2 => q v I2 M2 (a1.trans a2) d2 e2)⟩)
theorem em_notV {m1 : Mn S Bool} (h1 : EM K ta Γ m1) : EM K (tNotV ta) Γ (mb m1 fun b => mp (!b)) := fun s I F M σ e d Q q => h1 s I F M σ e d _ (R.sat_imp (sat_mb.mp q) fun b s1 q v1 I1 M1 a1 d1 e1 r1 => ⟨b, r1, q _ I1 M1 a1 d1 e1 rfl⟩)
theorem em_if {m : Mn S Bool} {m1 m2 : Mn S α} (h : TM tt Γ m) (h1 : EM K ta Γ m1) (h2 : EM K tb Γ m2) : EM K (tIf tt ta tb) Γ (mb m fun b => mi b m1 m2) := fun s I F M σ e d Q q => h s I F M σ e d _ (R.sat_imp (sat_mb.mp q) fun b s1 q I1 M1 a1 d1 e1 => by
  cases b with
  | true => exact h1 s1 I1 F M1 σ e1 d1 Q (R.sat_imp q fun b s2 q v I2 M2 a2 d2 e2 => q v I2 M2 (a1.trans a2) d2 e2)
  | false => exact h2 s1 I1 F M1 σ e1 d1 Q (R.sat_imp q fun b s2 q v I2 M2 a2 d2 e2 => q v I2 M2 (a1.trans a2) d2 e2))
/-- the test known -/
theorem em_ifp {b : S → Bool} {m1 m2 : Mn S α} (h : ∀ s, TP tt (Γ s) (b s)) (h1 : EM K ta Γ m1) (h2 : EM K tb Γ m2) : EM K (tIf tt ta tb) Γ (mb (mg b) fun b => mi b m1 m2) := em_if (tm_p h) h1 h2
end

/-! ### arguments -/
section
/-- arguments of known values -/
def AP (ta : TA) (Γ : List Sl) (ps : List PV) : Prop := ∀ (I F M : Hp) (σ : L2.St), EnvOk I F M σ Γ → Dis M I → ∀ Q : List V → Hp → Prop, (∀ vs I', Ex I I' → Dis M I' → All2 (fun (p : PV) v => p.r I' v) ps vs → Q vs (ov M I')) → ta σ (ov M I) Q
theorem pvs_up {I I' : Hp} (e : Ex I I') {ps : List PV} {vs : List V} (h : All2 (fun (p : PV) v => p.r I v) ps vs) : All2 (fun (p : PV) v => p.r I' v) ps vs := h.imp fun p _ q => p.up e q
variable {Γ : List Sl} {p : PV} {ps : List PV} {te : TE} {ta : TA}
theorem ap_nil : AP tNil Γ [] := fun I F M σ e d Q k => k [] I (Ex.refl I) d .nil
theorem ap_cons (h : EP te Γ p) (t : AP ta Γ ps) : AP (tCons te ta) Γ (p :: ps) := fun I F M σ e d Q k =>
  h I F M σ e d _ fun v I1 a1 d1 r1 => t I1 F M σ (e.up a1) d1 _ fun vs I2 a2 d2 r2 => k (v :: vs) I2 (a1.trans a2) d2 (.cons (p.up a2 r1) r2)
/-- arguments that are checked or change what is owned: m gives a datum of them -/
def AM {S ρ : Type} (ta : TA) (Γ : S → List Sl) (m : Mn S ρ) (ps : ρ → List PV) : Prop := ∀ (s : S) (I F M : Hp) (σ : L2.St), EnvOk I F M σ (Γ s) → Dis M I → ∀ Q : List V → Hp → Prop,
  (m s).sat (fun x s' => ∀ vs I' M', Ex I I' → Dis M' I' → EnvOk I' F M' σ (Γ s') → All2 (fun (p : PV) v => p.r I' v) (ps x) vs → Q vs (ov M' I')) → ta σ (ov M I) Q
section
variable {S ρ α : Type} [Rp α] {Γ : S → List Sl} {te : TE} {ta : TA}
theorem am_p {f : S → ρ} {ps : ρ → List PV} (h : ∀ s, AP ta (Γ s) (ps (f s))) : AM ta Γ (mg f) ps := fun s I F M σ e d Q q => h s I F M σ e d Q fun vs I' a b c => q vs I' M a b (e.up a) c
theorem am_nil : AM (S := S) tNil Γ (mp ()) (fun _ => []) := fun s I F M σ e d Q k => k [] I M (Ex.refl I) d e .nil
theorem am_cons {m1 : Mn S α} {m2 : Mn S ρ} {ps : ρ → List PV} (h : EM K te Γ m1) (t : AM ta Γ m2 ps) : AM (tCons te ta) Γ (mb m1 fun x => mb m2 fun y => mp (x, y)) (fun z => pv K z.1 :: ps z.2) := fun s I F M σ e d Q q =>
  h s I F M σ e d _ (R.sat_imp (sat_mb.mp q) fun x s1 q v I1 M1 a1 d1 e1 r1 => t s1 I1 F M1 σ e1 d1 _ (R.sat_imp (sat_mb.mp q) fun y s2 q vs I2 M2 a2 d2 e2 r2 =>
    q (v :: vs) I2 M2 (a1.trans a2) d2 e2 (.cons (Rp.up a2 r1) r2)))
end

/-! ### displays -/
/-- values as one type -/
theorem rs_of {α : Type} [Rp α] {I : Hp} : ∀ {xs : List α} {vs : List V}, All2 (fun (p : PV) v => p.r I v) (xs.map (pv K)) vs → Rs K xs I vs
  | [], _, .nil => .nil
  | _ :: _, _, .cons h t => .cons h (rs_of t)
theorem sz2 {n : Nat} (h : n ≤ 1000) : n ≤ sizeLine := Nat.le_trans h (by decide)
theorem mk_list {α : Type} [Rp α] {xs : List α} {I M : Hp} {p : Addr} {vs : List V} (d : Dis M I) (hp : ov M I p = none) (h : Rs K xs I vs) : Ex I (upd I p (.lst vs)) ∧ Dis M (upd I p (.lst vs)) ∧ Rp.r K xs (upd I p (.lst vs)) (.ref p) ∧ upd (ov M I) p (.lst vs) = ov M (upd I p (.lst vs)) := by
  obtain ⟨h1, h2⟩ := ov_none hp
  exact ⟨Ex.new h2, dis_upd d h1, ⟨p, vs, rfl, upd_same, rs_up (Ex.new h2) h⟩, ov_upd h1⟩
theorem mk_tup {I M : Hp} {p : Addr} {vs : List V} (d : Dis M I) (hp : ov M I p = none) : Ex I (upd I p (.tup vs)) ∧ Dis M (upd I p (.tup vs)) ∧ SqT K (upd I p (.tup vs)) p vs ∧ upd (ov M I) p (.tup vs) = ov M (upd I p (.tup vs)) := by
  obtain ⟨h1, h2⟩ := ov_none hp
  exact ⟨Ex.new h2, dis_upd d h1, SqT.of upd_same, ov_upd h1⟩
theorem ep_lst {α : Type} [Rp α] {xs : List α} (h : AP ta Γ (xs.map (pv K))) (hl : xs.length ≤ 1000 := by decide) : EP (tLst ta) Γ (pv K xs) := fun I F M σ e d Q k => h I F M σ e d _ fun vs I1 a1 d1 r1 => by
  have r := rs_of r1
  refine ⟨by rw [← r.length]; exact sz2 hl, fun p hp => ?_⟩
  obtain ⟨x1, x2, x3, x4⟩ := mk_list d1 hp r
  rw [x4]
  exact k _ _ (a1.trans x1) x2 x3
theorem em_lst {S ρ α : Type} [Rp α] {Γ : S → List Sl} {m : Mn S ρ} {f : ρ → List α} (h : AM ta Γ m fun z => (f z).map (pv K)) (hl : ∀ z, (f z).length ≤ 1000 := by intro _; decide) : EM K (tLst ta) Γ (mb m fun z => mp (f z)) := fun s I F M σ e d Q q =>
  h s I F M σ e d _ (R.sat_imp (sat_mb.mp q) fun z s1 q vs I1 M1 a1 d1 e1 r1 => by
  have r := rs_of r1
  refine ⟨by rw [← r.length]; exact sz2 (hl z), fun p hp => ?_⟩
  obtain ⟨x1, x2, x3, x4⟩ := mk_list d1 hp r
  rw [x4]
  exact q _ _ _ (a1.trans x1) x2 (e1.up x1) x3)
/-- what a tuple of such values stands for -/
def TupOf (K : PySem.W.Frag) {α : Type} [Rp α] (ps : List PV) (x : α) : Prop := ps.length ≤ 1000 ∧ ∀ (I : Hp) (p : Addr) (vs : List V), All2 (fun (p : PV) v => p.r I v) ps vs → SqT K I p vs → Rp.r K x I (.ref p)
theorem tupTu {α : Type} [Rp α] {xs : List α} (hl : xs.length ≤ 1000 := by decide) : TupOf K (xs.map (pv K)) (Tu.mk xs) := ⟨by rw [List.length_map]; exact hl, fun I p vs h q => ⟨p, vs, rfl, q, rs_of h⟩⟩
theorem all2_c {α β : Type} {F : α → β → Prop} {a : α} {as : List α} {bs : List β} (h : All2 F (a :: as) bs) : ∃ b bs', bs = b :: bs' ∧ F a b ∧ All2 F as bs' := by
  cases h with
  | cons h t => exact ⟨_, _, rfl, h, t⟩
theorem all2_n {α β : Type} {F : α → β → Prop} {bs : List β} (h : All2 F [] bs) : bs = [] := by
  cases h with
  | nil => rfl
theorem tup2 {α β : Type} [Rp α] [Rp β] {x : α} {y : β} : TupOf K [pv K x, pv K y] (x, y) := ⟨Nat.le_of_ble_eq_true rfl, fun I p vs h q => by
  obtain ⟨v1, _, rfl, h1, h⟩ := all2_c h
  obtain ⟨v2, _, rfl, h2, h⟩ := all2_c h
  cases all2_n h
  exact ⟨p, _, _, rfl, q, h1, h2⟩⟩
theorem tup3 {α β γ : Type} [Rp α] [Rp β] [Rp γ] {x : α} {y : β} {z : γ} : TupOf K [pv K x, pv K y, pv K z] (T3.mk x y z) := ⟨Nat.le_of_ble_eq_true rfl, fun I p vs h q => by
  obtain ⟨v1, _, rfl, h1, h⟩ := all2_c h
  obtain ⟨v2, _, rfl, h2, h⟩ := all2_c h
  obtain ⟨v3, _, rfl, h3, h⟩ := all2_c h
  cases all2_n h
  exact ⟨p, _, _, _, rfl, q, h1, h2, h3⟩⟩
theorem tup4 {α β γ δ : Type} [Rp α] [Rp β] [Rp γ] [Rp δ] {x : α} {y : β} {z : γ} {w : δ} : TupOf K [pv K x, pv K y, pv K z, pv K w] (T4.mk x y z w) := ⟨Nat.le_of_ble_eq_true rfl, fun I p vs h q => by
  obtain ⟨v1, _, rfl, h1, h⟩ := all2_c h
  obtain ⟨v2, _, rfl, h2, h⟩ := all2_c h
  obtain ⟨v3, _, rfl, h3, h⟩ := all2_c h
  obtain ⟨v4, _, rfl, h4, h⟩ := all2_c h
  cases all2_n h
  exact ⟨p, _, _, _, _, rfl, q, h1, h2, h3, h4⟩⟩
theorem tup5 {α β γ δ ε : Type} [Rp α] [Rp β] [Rp γ] [Rp δ] [Rp ε] {x : α} {y : β} {z : γ} {w : δ} {u : ε} : TupOf K [pv K x, pv K y, pv K z, pv K w, pv K u] (T5.mk x y z w u) := ⟨Nat.le_of_ble_eq_true rfl, fun I p vs h q => by
  obtain ⟨v1, _, rfl, h1, h⟩ := all2_c h
  obtain ⟨v2, _, rfl, h2, h⟩ := all2_c h
  obtain ⟨v3, _, rfl, h3, h⟩ := all2_c h
  obtain ⟨v4, _, rfl, h4, h⟩ := all2_c h
  obtain ⟨v5, _, rfl, h5, h⟩ := all2_c h
  cases all2_n h
  exact ⟨p, _, _, _, _, _, rfl, q, h1, h2, h3, h4, h5⟩⟩
theorem ep_tup {α : Type} [Rp α] {x : α} (h : AP ta Γ ps) (t : TupOf K ps x) : EP (tTup ta) Γ (pv K x) := fun I F M σ e d Q k => h I F M σ e d _ fun vs I1 a1 d1 r1 => by
  refine ⟨by rw [← r1.length]; exact sz2 t.1, fun p hp => ?_⟩
  obtain ⟨x1, x2, x3, x4⟩ := mk_tup (K := K) (vs := vs) d1 hp
  rw [x4]
  exact k _ _ (a1.trans x1) x2 (t.2 _ _ _ (pvs_up x1 r1) x3)
theorem em_tup {S ρ α : Type} [Rp α] {Γ : S → List Sl} {m : Mn S ρ} {f : ρ → α} {ps : ρ → List PV} (h : AM ta Γ m ps) (t : ∀ z, TupOf K (ps z) (f z)) : EM K (tTup ta) Γ (mb m fun z => mp (f z)) := fun s I F M σ e d Q q =>
  h s I F M σ e d _ (R.sat_imp (sat_mb.mp q) fun z s1 q vs I1 M1 a1 d1 e1 r1 => by
  refine ⟨by rw [← r1.length]; exact sz2 (t z).1, fun p hp => ?_⟩
  obtain ⟨x1, x2, x3, x4⟩ := mk_tup (K := K) (vs := vs) d1 hp
  rw [x4]
  exact q _ _ _ (a1.trans x1) x2 (e1.up x1) ((t z).2 _ _ _ (pvs_up x1 r1) x3))
end

/-! ### items -/
section
variable {α : Type} [Rp α] {xs : List α} {i : Int} {x : α} {I M : Hp}
theorem rs_at {vs : List V} (h : Rs K xs I vs) (e : atI xs i = some x) : ∃ v, atI vs i = some v ∧ Rp.r K x I v := by
  obtain ⟨j, h1, h2⟩ := Option.bind_eq_some_iff.mp e
  obtain ⟨v, h3, h4⟩ := h.get h2
  exact ⟨v, Option.bind_eq_some_iff.mpr ⟨j, by rw [← h.length]; exact h1, h3⟩, h4⟩
theorem sql_ov {a : Addr} {vs : List V} (d : Dis M I) (h : SqL K I a vs) : SqL K (ov M I) a vs := sql_up (ex_ov d) h
theorem sqt_ov {a : Addr} {vs : List V} (d : Dis M I) (h : SqT K I a vs) : SqT K (ov M I) a vs := sqt_up (ex_ov d) h
theorem o_ixL (e : atI xs i = some x) : Op2 (rIxL K) (pv K xs) (pv K i) (pv K x) := fun I M u w Q d ⟨a, vs, h1, h2, h3⟩ hy k => by
  obtain ⟨v, q1, q2⟩ := rs_at h3 e
  exact ⟨a, vs, i, v, h1, hy, SqL.of (ex_ov d _ _ h2), q1, k v I (Ex.refl I) d q2⟩
theorem o_ixT (e : atI xs i = some x) : Op2 (rIxT K) (pv K (Tu.mk xs)) (pv K i) (pv K x) := fun I M u w Q d ⟨a, vs, h1, h2, h3⟩ hy k => by
  obtain ⟨v, q1, q2⟩ := rs_at h3 e
  exact ⟨a, vs, i, v, h1, hy, sqt_ov d h2, q1, k v I (Ex.refl I) d q2⟩
section
variable {S : Type} {Γ : S → List Sl} {ta tb : TE}
theorem em_ixL {m1 : Mn S (List α)} {m2 : Mn S Int} (ha : EM K ta Γ m1) (hb : EM K tb Γ m2) : EM K (tOp (rIxL K) ta tb) Γ (mb m1 fun xs => mb m2 fun i => mo (atI xs i)) := fun s I F M σ e d Q q =>
  ha s I F M σ e d _ (R.sat_imp (sat_mb.mp q) fun x s1 q v1 I1 M1 a1 d1 e1 r1 => hb s1 I1 F M1 σ e1 d1 _ (R.sat_imp (sat_mb.mp q) fun y s2 q v2 I2 M2 a2 d2 e2 r2 => by
    obtain ⟨z, hz, q⟩ := sat_mo.mp q
    exact o_ixL hz I2 M2 v1 v2 Q d2 (Rp.up a2 r1) r2 fun v I3 a3 d3 r3 => q v I3 M2 ((a1.trans a2).trans a3) d3 (e2.up a3) r3))
theorem em_ixLr {m1 : Mn S (List α)} (ha : EM K ta Γ m1) (hb : ∀ s, EP tb (Γ s) (pv K i)) : EM K (tOp (rIxL K) ta tb) Γ (mb m1 fun xs => mo (atI xs i)) := fun s I F M σ e d Q q =>
  ha s I F M σ e d _ (R.sat_imp (sat_mb.mp q) fun x s1 q v1 I1 M1 a1 d1 e1 r1 => hb s1 I1 F M1 σ e1 d1 _ fun v2 I2 a2 d2 r2 => by
    obtain ⟨z, hz, q⟩ := sat_mo.mp q
    exact o_ixL hz I2 M1 v1 v2 Q d2 (Rp.up a2 r1) r2 fun v I3 a3 d3 r3 => q v I3 M1 ((a1.trans a2).trans a3) d3 (e1.up (a2.trans a3)) r3)
theorem em_ixLp (ha : ∀ s, EP ta (Γ s) (pv K xs)) (hb : ∀ s, EP tb (Γ s) (pv K i)) : EM K (tOp (rIxL K) ta tb) Γ (mo (atI xs i)) := fun s I F M σ e d Q q => by
  obtain ⟨z, hz, q⟩ := sat_mo.mp q
  exact ep_op (ha s) (hb s) (o_ixL hz) I F M σ e d Q fun v I3 a3 d3 r3 => q v I3 M a3 d3 (e.up a3) r3
theorem em_ixLl {m2 : Mn S Int} (ha : ∀ s, EP ta (Γ s) (pv K xs)) (hb : EM K tb Γ m2) : EM K (tOp (rIxL K) ta tb) Γ (mb m2 fun i => mo (atI xs i)) := fun s I F M σ e d Q q =>
  ha s I F M σ e d _ fun v1 I1 a1 d1 r1 => hb s I1 F M σ (e.up a1) d1 _ (R.sat_imp (sat_mb.mp q) fun y s2 q v2 I2 M2 a2 d2 e2 r2 => by
    obtain ⟨z, hz, q⟩ := sat_mo.mp q
    exact o_ixL hz I2 M2 v1 v2 Q d2 (Rp.up a2 r1) r2 fun v I3 a3 d3 r3 => q v I3 M2 ((a1.trans a2).trans a3) d3 (e2.up a3) r3)
theorem em_ixTr {m1 : Mn S (Tu α)} (ha : EM K ta Γ m1) (hb : ∀ s, EP tb (Γ s) (pv K i)) : EM K (tOp (rIxT K) ta tb) Γ (mb m1 fun xs => mo (atI xs.l i)) := fun s I F M σ e d Q q =>
  ha s I F M σ e d _ (R.sat_imp (sat_mb.mp q) fun x s1 q v1 I1 M1 a1 d1 e1 r1 => hb s1 I1 F M1 σ e1 d1 _ fun v2 I2 a2 d2 r2 => by
    obtain ⟨z, hz, q⟩ := sat_mo.mp q
    exact o_ixT hz I2 M1 v1 v2 Q d2 (Rp.up a2 r1) r2 fun v I3 a3 d3 r3 => q v I3 M1 ((a1.trans a2).trans a3) d3 (e1.up (a2.trans a3)) r3)
theorem em_ixTp {t : Tu α} (ha : ∀ s, EP ta (Γ s) (pv K t)) (hb : ∀ s, EP tb (Γ s) (pv K i)) : EM K (tOp (rIxT K) ta tb) Γ (mo (atI t.l i)) := fun s I F M σ e d Q q => by
  obtain ⟨z, hz, q⟩ := sat_mo.mp q
  exact ep_op (ha s) (hb s) (o_ixT (xs := t.l) hz) I F M σ e d Q fun v I3 a3 d3 r3 => q v I3 M a3 d3 (e.up a3) r3
end
/-- a part of a written tuple -/
theorem o_pr {p w : PV} {i : Int} (h : ∀ I v, p.r I v → ∃ a vs u, v = V.ref a ∧ SqT K I a vs ∧ atI vs i = some u ∧ w.r I u) : Op2 (rIxT K) p (pv K i) w := fun I M x y Q d hx hy k => by
  obtain ⟨a, vs, u, h1, h2, h3, h4⟩ := h I x hx
  exact ⟨a, vs, i, u, h1, hy, sqt_ov d h2, h3, k u I (Ex.refl I) d h4⟩
theorem pr2_0 {α β : Type} [Rp α] [Rp β] {x : α × β} : Op2 (rIxT K) (pv K x) (pv K (0 : Int)) (pv K x.1) := o_pr fun I v ⟨a, v1, v2, h1, h2, h3, h4⟩ => ⟨a, _, v1, h1, h2, rfl, h3⟩
theorem pr2_1 {α β : Type} [Rp α] [Rp β] {x : α × β} : Op2 (rIxT K) (pv K x) (pv K (1 : Int)) (pv K x.2) := o_pr fun I v ⟨a, v1, v2, h1, h2, h3, h4⟩ => ⟨a, _, v2, h1, h2, rfl, h4⟩
theorem pr3_0 {α β γ : Type} [Rp α] [Rp β] [Rp γ] {x : T3 α β γ} : Op2 (rIxT K) (pv K x) (pv K (0 : Int)) (pv K x.a) := o_pr fun I v ⟨a, v1, v2, v3, h1, h2, h3, h4, h5⟩ => ⟨a, _, v1, h1, h2, rfl, h3⟩
theorem pr3_1 {α β γ : Type} [Rp α] [Rp β] [Rp γ] {x : T3 α β γ} : Op2 (rIxT K) (pv K x) (pv K (1 : Int)) (pv K x.b) := o_pr fun I v ⟨a, v1, v2, v3, h1, h2, h3, h4, h5⟩ => ⟨a, _, v2, h1, h2, rfl, h4⟩
theorem pr3_2 {α β γ : Type} [Rp α] [Rp β] [Rp γ] {x : T3 α β γ} : Op2 (rIxT K) (pv K x) (pv K (2 : Int)) (pv K x.c) := o_pr fun I v ⟨a, v1, v2, v3, h1, h2, h3, h4, h5⟩ => ⟨a, _, v3, h1, h2, rfl, h5⟩
/-- an item of an owned list of written values -/
theorem ep_hl {Γ : List Sl} {j : Nat} {vs : List V} {P : OP} {α : Type} [Rp α] {x : α} {tb : TE} {i : Int} {u : V} (hj : Γ[j]? = some (.ow P)) (hP : ∀ I a M, P.r I a M → M = sing a (.lst vs)) (hb : EP tb Γ (pv K i)) (e : atI vs i = some u) (hx : ∀ H, Rp.r K x H u) : EP (tOp (rIxL K) (tVar j) tb) Γ (pv K x) := fun I F M σ e1 d Q k => by
  obtain ⟨a, Ma, M', h1, h2, h3, h4, _⟩ := e1.foc hj
  refine ⟨_, h1, ?_⟩
  refine hb I F M σ e1 d _ fun v I1 a1 d1 r1 => ?_
  have em := hP _ _ _ h2
  refine ⟨a, vs, i, u, rfl, r1, SqL.of ?_, e, k u I1 a1 d1 (hx I1)⟩
  rw [h4, em]
  exact ov_l (ov_l sing_same)
theorem hl_at {vs : List V} {v : V} : ∀ I a M, ((hl vs).at v).r I a M → M = sing a (.lst vs) := fun _ _ _ h => h.2
theorem hl_self {vs : List V} : ∀ I a M, (hl vs).r I a M → M = sing a (.lst vs) := fun _ _ _ h => h
end
end
end Mir

/-! Mir4: promises by mirrors, calls; statements; loops; comprehensions -/
namespace Mir
open PySem L2

/-! ### more of slots -/
section
variable {I F N : Hp} {σ : L2.St} {Γ : List Sl}
theorem EnvOk.ims {ps : List PV} {vs : List V} : All2 (fun (p : PV) v => p.r I v) ps vs → EnvOk I F F (vs.map some) (ps.map Sl.im)
  | .nil => .nil
  | .cons h t => .im h (EnvOk.ims t)
theorem EnvOk.of_ims : ∀ {ps : List PV} {N : Hp} {σ : L2.St}, EnvOk I F N σ (ps.map Sl.im) → N = F
  | [], _, _, .nil => rfl
  | _ :: _, _, _, .im _ h => EnvOk.of_ims h
theorem EnvOk.nos : ∀ {k : Nat} {N : Hp} {σ : L2.St}, EnvOk I F N σ (List.replicate k .no) → N = F
  | 0, _, _, .nil => rfl
  | _ + 1, _, _, .no _ h => EnvOk.nos h
theorem EnvOk.app : ∀ {N : Hp} {σ : L2.St} {Γ : List Sl}, EnvOk I F N σ Γ → ∀ k : Nat, EnvOk I F N (σ ++ List.replicate k none) (Γ ++ List.replicate k .no)
  | _, _, _, .nil, 0 => .nil
  | _, _, _, .nil, k + 1 => .no none (EnvOk.app .nil k)
  | _, _, _, .no o h, k => .no o (EnvOk.app h k)
  | _, _, _, .im q h, k => .im q (EnvOk.app h k)
  | _, _, _, .ow q d h, k => .ow q d (EnvOk.app h k)
/-- more is owned besides -/
theorem EnvOk.frame {G : Hp} : ∀ {N : Hp} {σ : L2.St} {Γ : List Sl}, EnvOk I F N σ Γ → Dis G N → EnvOk I (ov G F) (ov G N) σ Γ
  | _, _, _, .nil, _ => .nil
  | _, _, _, .no o h, d => .no o (EnvOk.frame h d)
  | _, _, _, .im q h, d => .im q (EnvOk.frame h d)
  | _, _, _, .ow (Ma := Ma) (M := N) q d' h, d => by
    obtain ⟨d1, d2⟩ := dis_r_ov d
    have e : ov G (ov Ma N) = ov Ma (ov G N) := by rw [ov_assoc, ov_assoc, ov_comm d1]
    rw [e]
    exact .ow q (dis_ov_r d1.symm d') (EnvOk.frame h d2)
theorem EnvOk.unframe {G : Hp} (dF : Dis G F) : ∀ {N : Hp} {σ : L2.St} {Γ : List Sl}, EnvOk I (ov G F) N σ Γ → ∃ N', N = ov G N' ∧ Dis G N' ∧ EnvOk I F N' σ Γ
  | _, _, _, .nil => ⟨F, rfl, dF, .nil⟩
  | _, _, _, .no o h => by
    obtain ⟨N', h1, h2, h3⟩ := EnvOk.unframe dF h
    exact ⟨N', h1, h2, .no o h3⟩
  | _, _, _, .im q h => by
    obtain ⟨N', h1, h2, h3⟩ := EnvOk.unframe dF h
    exact ⟨N', h1, h2, .im q h3⟩
  | _, _, _, .ow (Ma := Ma) q d h => by
    obtain ⟨N', h1, h2, h3⟩ := EnvOk.unframe dF h
    subst h1
    obtain ⟨d1, d2⟩ := dis_r_ov d
    exact ⟨ov Ma N', by rw [ov_assoc, ov_assoc, ov_comm d1], dis_ov_r d1.symm h2, .ow q d2 h3⟩
end

/-! ### promises -/
/-- a parameter: a value, or something owned, by the state -/
inductive Ar (S : Type) where
  | im (p : PV)
  | ow (P : S → OP)
def Ar.sl {S : Type} (s : S) : Ar S → Sl
  | .im p => .im p
  | .ow P => .ow (P s)
/-- how a value is handed back: by what is known of it | as something owned -/
abbrev RetT (ρ : Type) := ρ → V → Hp → Hp → Hp → Prop
def rIm (K : PySem.W.Frag) {ρ : Type} [Rp ρ] : RetT ρ := fun x v I N H => Dis N I ∧ H = ov N I ∧ Rp.r K x I v
def rOw {ρ : Type} (P : ρ → OP) : RetT ρ := fun x v I N H => ∃ a Ma, v = V.ref a ∧ Dis Ma N ∧ Dis (ov Ma N) I ∧ H = ov (ov Ma N) I ∧ (P x).r I a Ma
/-- called with such arguments it does what the mirror does -/
def Prom {S ρ ι : Type} (Ret : RetT ρ) (As : ι → List (Ar S)) (m : ι → Mn S ρ) : Sp := fun vs H Q _ => ∃ (i : ι) (s : S) (I F N : Hp), H = ov N I ∧ Dis N I ∧ EnvOk I F N (vs.map some) ((As i).map (Ar.sl s)) ∧
  (m i s).sat fun x s' => ∀ v H' I' N', Ex I I' → EnvOk I' F N' (vs.map some) ((As i).map (Ar.sl s')) → Ret x v I' N' H' → Q v H'
theorem prom_len {S ρ ι : Type} {Ret : RetT ρ} {As : ι → List (Ar S)} {m : ι → Mn S ρ} {n : Nat} (h : ∀ i, (As i).length = n) : ∀ vs H Q E, Prom Ret As m vs H Q E → vs.length = n := fun vs H Q E ⟨i, s, I, F, N, _, _, e, _⟩ => by
  have l := e.len
  rw [List.length_map, List.length_map, h i] at l
  exact l

section
variable {K : PySem.W.Frag}
/-! ### calls -/
section
variable {S S' ρ ι ζ α : Type} {Γ : S → List Sl} {ta tk : TA} {E : XK} {i : ι} {ps : List PV}
theorem call_all {Ret : RetT ρ} {As : ι → List (Ar Unit)} {m : ι → Mn Unit ρ} {I N : Hp} {vs : List V} {Q : VK} (d : Dis N I) (r : All2 (fun (p : PV) v => p.r I v) ps vs) (hA : (As i).map (Ar.sl ()) = ps.map Sl.im)
    (q : (m i ()).sat fun x _ => ∀ v H' I', Ex I I' → Ret x v I' N H' → Q v H') : Prom Ret As m vs (ov N I) Q E := by
  refine ⟨i, (), I, N, N, rfl, d, ?_, R.sat_imp q fun x s' q v H' I' N' a1 e1 r1 => ?_⟩
  · rw [hA]; exact EnvOk.ims r
  · cases s'
    rw [hA] at e1
    cases EnvOk.of_ims e1
    exact q v H' I' a1 r1
/-- what an expression hands back: a value, or something owned -/
def EO {S ρ : Type} (te : TE) (Γ : S → List Sl) (m : Mn S ρ) (Ret : RetT ρ) : Prop := ∀ (s : S) (I F N : Hp) (σ : L2.St), EnvOk I F N σ (Γ s) → Dis N I → ∀ Q : VK,
  (m s).sat (fun x s' => ∀ v H' I' N', Ex I I' → EnvOk I' F N' σ (Γ s') → Ret x v I' N' H' → Q v H') → te σ (ov N I) Q
theorem em_of_eo [Rp α] {te : TE} {m : Mn S α} (h : EO te Γ m (rIm K)) : EM K te Γ m := fun s I F N σ e d Q q => h s I F N σ e d Q (R.sat_imp q fun x s' q v H' I' N' a1 e1 ⟨d1, h1, r1⟩ => by
  rw [h1]
  exact q v I' N' a1 d1 e1 r1)
/-- all arguments known -/
theorem eo_call0 {Ret : RetT ρ} {As : ι → List (Ar Unit)} {m : ι → Mn Unit ρ} (h : ∀ s, AP ta (Γ s) ps) (hA : (As i).map (Ar.sl ()) = ps.map Sl.im) : EO (tCall (Prom Ret As m) [] E ta) Γ (mu (m i)) Ret := fun s I F N σ e d Q q =>
  h s I F N σ e d _ fun vs I1 a1 d1 r1 => by
    show Prom Ret As m (vs ++ []) _ _ _
    rw [List.append_nil]
    exact call_all d1 r1 hA (R.sat_imp (sat_mu.mp q) fun x _ q v H' I' a2 r2 => q v H' I' N (a1.trans a2) (e.up (a1.trans a2)) r2)
theorem eo_call0M {Ret : RetT ρ} {As : ι → List (Ar Unit)} {m : ι → Mn Unit ρ} {mm : Mn S ζ} {psf : ζ → List PV} {f : ζ → ι} (h : AM ta Γ mm psf) (hA : ∀ z, (As (f z)).map (Ar.sl ()) = (psf z).map Sl.im) : EO (tCall (Prom Ret As m) [] E ta) Γ (mb mm fun z => mu (m (f z))) Ret := fun s I F N σ e d Q q =>
  h s I F N σ e d _ (R.sat_imp (sat_mb.mp q) fun z s1 q vs I1 N1 a1 d1 e1 r1 => by
    show Prom Ret As m (vs ++ []) _ _ _
    rw [List.append_nil]
    exact call_all d1 r1 (hA z) (R.sat_imp (sat_mu.mp q) fun x _ q v H' I' a2 r2 => q v H' I' N1 (a1.trans a2) (e1.up a2) r2))
/-- by names alone: gV puts the values in the parameters' order -/
theorem eo_callK {Ret : RetT ρ} {As : ι → List (Ar Unit)} {m : ι → Mn Unit ρ} {gV : List V → List V → List V} {qs : List PV} (h : ∀ s, AP tk (Γ s) ps) (hg : ∀ I vs, All2 (fun (p : PV) v => p.r I v) ps vs → All2 (fun (p : PV) v => p.r I v) qs (gV [] vs)) (hA : (As i).map (Ar.sl ()) = qs.map Sl.im) :
    EO (tCallK (Prom Ret As m) gV E tNil tk) Γ (mu (m i)) Ret := fun s I F N σ e d Q q =>
  h s I F N σ e d _ fun vs I1 a1 d1 r1 => call_all d1 (hg _ _ r1) hA (R.sat_imp (sat_mu.mp q) fun x _ q v H' I' a2 r2 => q v H' I' N (a1.trans a2) (e.up (a1.trans a2)) r2)
theorem eo_callKM {Ret : RetT ρ} {As : ι → List (Ar Unit)} {m : ι → Mn Unit ρ} {gV : List V → List V → List V} {mm : Mn S ζ} {psf qsf : ζ → List PV} {f : ζ → ι} (h : AM tk Γ mm psf) (hg : ∀ z I vs, All2 (fun (p : PV) v => p.r I v) (psf z) vs → All2 (fun (p : PV) v => p.r I v) (qsf z) (gV [] vs)) (hA : ∀ z, (As (f z)).map (Ar.sl ()) = (qsf z).map Sl.im) :
    EO (tCallK (Prom Ret As m) gV E tNil tk) Γ (mb mm fun z => mu (m (f z))) Ret := fun s I F N σ e d Q q =>
  h s I F N σ e d _ (R.sat_imp (sat_mb.mp q) fun z s1 q vs I1 N1 a1 d1 e1 r1 => call_all d1 (hg z _ _ r1) (hA z) (R.sat_imp (sat_mu.mp q) fun x _ q v H' I' a2 r2 => q v H' I' N1 (a1.trans a2) (e1.up a2) r2))
/-- an argument: a value, or what a slot owns -/
inductive AK where
  | im (p : PV)
  | sl (j : Nat)
def AkOk (σ : L2.St) (I : Hp) (k : AK) (v : V) : Prop := match k with
  | .im p => p.r I v
  | .sl j => σ[j]? = some (some v)
def AKm (ta : TA) (Γ : S → List Sl) (m : Mn S ζ) (ks : ζ → List AK) : Prop := ∀ (s : S) (I F N : Hp) (σ : L2.St), EnvOk I F N σ (Γ s) → Dis N I → ∀ Q : List V → Hp → Prop,
  (m s).sat (fun x s' => ∀ vs I' N', Ex I I' → Dis N' I' → EnvOk I' F N' σ (Γ s') → All2 (AkOk σ I') (ks x) vs → Q vs (ov N' I')) → ta σ (ov N I) Q
theorem akOk_up {σ : L2.St} {I I' : Hp} (e : Ex I I') {ks : List AK} {vs : List V} (h : All2 (AkOk σ I) ks vs) : All2 (AkOk σ I') ks vs := h.imp fun k v q => by
  cases k with
  | im p => exact p.up e q
  | sl j => exact q
theorem ak_nil : AKm tNil Γ (mp ()) fun _ => [] := fun s I F N σ e d Q k => k [] I N (Ex.refl I) d e .nil
theorem ak_sl {te : TE} {j : Nat} {P : S → OP} {m : Mn S ζ} {ks : ζ → List AK} (hj : ∀ s, (Γ s)[j]? = some (.ow (P s))) (t : AKm ta Γ m ks) : AKm (tCons (tVar j) ta) Γ m fun z => .sl j :: ks z := fun s I F N σ e d Q q => by
  obtain ⟨a, Ma, M', h1, _⟩ := e.foc (hj s)
  refine ⟨_, h1, ?_⟩
  exact t s I F N σ e d _ (R.sat_imp q fun z s1 q vs I1 N1 a1 d1 e1 r1 => q _ I1 N1 a1 d1 e1 (.cons h1 r1))
theorem ak_p {te : TE} {p : PV} {m : Mn S ζ} {ks : ζ → List AK} (h : ∀ s, EP te (Γ s) p) (t : AKm ta Γ m ks) : AKm (tCons te ta) Γ m fun z => .im p :: ks z := fun s I F N σ e d Q q =>
  h s I F N σ e d _ fun v I1 a1 d1 r1 => t s I1 F N σ (e.up a1) d1 _ (R.sat_imp q fun z s1 q vs I2 N2 a2 d2 e2 r2 => q _ I2 N2 (a1.trans a2) d2 e2 (.cons (p.up a2 r1) r2))
theorem ak_m [Rp α] {te : TE} {m1 : Mn S α} {m : Mn S ζ} {ks : ζ → List AK} (h : EM K te Γ m1) (t : AKm ta Γ m ks) : AKm (tCons te ta) Γ (mb m1 fun x => mb m fun z => mp (x, z)) fun y => .im (pv K y.1) :: ks y.2 := fun s I F N σ e d Q q =>
  h s I F N σ e d _ (R.sat_imp (sat_mb.mp q) fun x s1 q v I1 N1 a1 d1 e1 r1 => t s1 I1 F N1 σ e1 d1 _ (R.sat_imp (sat_mb.mp q) fun z s2 q vs I2 N2 a2 d2 e2 r2 => q _ I2 N2 (a1.trans a2) d2 e2 (.cons (Rp.up a2 r1) r2)))
/-- one argument is owned, that of slot j -/
def OneSl (j : Nat) : List AK → Prop
  | [] => False
  | .im _ :: ks => OneSl j ks
  | .sl i :: ks => i = j ∧ ∃ ps : List PV, ks = ps.map AK.im
def AK.to (P : OP) : AK → Sl
  | .im p => .im p
  | .sl _ => .ow P
theorem ak_ims {σ : L2.St} {I : Hp} : ∀ {ps : List PV} {vs : List V}, All2 (AkOk σ I) (ps.map AK.im) vs → All2 (fun (p : PV) v => p.r I v) ps vs
  | [], _, .nil => .nil
  | _ :: _, _, .cons h t => .cons h (ak_ims t)
theorem to_ims (P : OP) : ∀ ps : List PV, (ps.map AK.im).map (AK.to P) = ps.map Sl.im
  | [] => rfl
  | p :: ps => congrArg (Sl.im p :: ·) (to_ims P ps)
theorem one_in {σ : L2.St} {I F : Hp} {j : Nat} {P : OP} {a : Addr} {Ma : Hp} (hj : σ[j]? = some (some (.ref a))) (hP : P.r I a Ma) (d : Dis Ma F) : ∀ {ks : List AK} {vs : List V}, OneSl j ks → All2 (AkOk σ I) ks vs → EnvOk I F (ov Ma F) (vs.map some) (ks.map (AK.to P))
  | .im _ :: _, _, o, .cons h t => .im h (one_in hj hP d o t)
  | .sl _ :: _, v :: vs, ⟨e, ps, e2⟩, .cons h t => by
    subst e e2
    have h1 : σ[_]? = some (some v) := h
    rw [hj] at h1
    cases h1
    refine .ow hP d ?_
    rw [to_ims]
    exact EnvOk.ims (ak_ims t)
theorem one_out {σ : L2.St} {I I' F N : Hp} {j : Nat} {P : OP} {a : Addr} (hj : σ[j]? = some (some (.ref a))) : ∀ {ks : List AK} {vs : List V}, OneSl j ks → All2 (AkOk σ I) ks vs → EnvOk I' F N (vs.map some) (ks.map (AK.to P)) → ∃ Ma, N = ov Ma F ∧ Dis Ma F ∧ P.r I' a Ma
  | .im p :: ks, v :: vs, o, .cons h t, e => by
    have e2 : EnvOk I' F N (some v :: vs.map some) (.im p :: ks.map (AK.to P)) := e
    cases e2 with
    | im _ e3 => exact one_out (ks := ks) hj o t e3
  | .sl _ :: _, v :: vs, ⟨e, ps, e2⟩, .cons h t, e3 => by
    subst e e2
    have h1 : σ[_]? = some (some v) := h
    rw [hj] at h1
    cases h1
    have e4 : EnvOk I' F N (some (V.ref a) :: vs.map some) (.ow P :: (ps.map AK.im).map (AK.to P)) := e3
    rw [to_ims] at e4
    cases e4 with
    | ow q d e5 =>
      cases EnvOk.of_ims e5
      exact ⟨_, rfl, d, q⟩
/-- what a slot owns is what the callee wants, and stays so -/
def Cv (P Pc : S' → OP) : Prop := ∀ s I a Ma, (Pc s).r I a Ma → (P s).r I a Ma ∧ ∀ s' I' Ma', (P s').r I' a Ma' → (Pc s').r I' a Ma'
theorem cv_rfl {P : S' → OP} : Cv P P := fun _ _ _ _ h => ⟨h, fun _ _ _ q => q⟩
theorem cv_at {P : S' → OP} {v : V} : Cv P fun s => (P s).at v := fun _ _ _ _ h => ⟨h.2, fun _ _ _ q => ⟨h.1, q⟩⟩
/-- one argument is owned -/
theorem eo_call1 {Ret : RetT ρ} {As : ι → List (Ar S')} {m : ι → Mn S' ρ} {mm : Mn S ζ} {ks : ζ → List AK} {f : ζ → ι} {j : Nat} {P Pc : S' → OP} {g : S → S'} {p : S → S' → S} (h : AKm ta Γ mm ks) (o : ∀ z, OneSl j (ks z)) (cv : Cv P Pc) (hj : ∀ s, (Γ s)[j]? = some (.ow (Pc (g s))))
    (hp : ∀ s s', (Γ s).set j (.ow (Pc s')) = Γ (p s s')) (hA : ∀ z s', (As (f z)).map (Ar.sl s') = (ks z).map (AK.to (P s'))) : EO (tCall (Prom Ret As m) [] E ta) Γ (mb mm fun z => ml g p (m (f z))) Ret := fun s I F N σ e d Q q =>
  h s I F N σ e d _ (R.sat_imp (sat_mb.mp q) fun z s1 q vs I1 N1 a1 d1 e1 r1 => by
    show Prom Ret As m (vs ++ []) _ _ _
    rw [List.append_nil]
    obtain ⟨a, Ma, M', h1, h2, h3, h4, h5, _⟩ := e1.foc (hj s1)
    obtain ⟨c1, c2⟩ := cv _ _ _ _ h2
    subst h4
    refine ⟨f z, g s1, I1, M', ov Ma M', rfl, d1, ?_, R.sat_imp (sat_ml.mp q) fun x s2 q v H2 I2 N2 a2 e2 r2 => ?_⟩
    · rw [hA z]
      exact one_in h1 c1 h3 (o z) r1
    · rw [hA z] at e2
      obtain ⟨Mb, h6, h7, h8⟩ := one_out h1 (o z) r1 e2
      subst h6
      refine q v H2 I2 _ (a1.trans a2) ?_ r2
      rw [← hp]
      exact h5 I2 _ Mb a2 h7 (c2 _ _ _ h8))
end

/-! ### statements -/
/-- a statement that goes on, behind it x and the slots by x and the state -/
def RP {S τ : Type} (t : TS) (Γ : S → List Sl) (m : Mn S τ) (Γ' : τ → S → List Sl) : Prop := ∀ (s : S) (I F N : Hp) (σ : L2.St), EnvOk I F N σ (Γ s) → Dis N I → ∀ D : Ends,
  (m s).sat (fun x s' => ∀ I' N' σ', Ex I I' → Dis N' I' → EnvOk I' F N' σ' (Γ' x s') → D.nx σ' (ov N' I')) → t D σ (ov N I)
/-- statements that end in a return -/
def RT {S ρ : Type} (Ret : RetT ρ) (t : TS) (Γ : S → List Sl) (m : Mn S ρ) (Γr : S → List Sl) : Prop := ∀ (s : S) (I F N : Hp) (σ : L2.St), EnvOk I F N σ (Γ s) → Dis N I → ∀ D : Ends,
  (m s).sat (fun x s' => ∀ v H' I' N' σ', Ex I I' → EnvOk I' F N' σ' (Γr s') → Ret x v I' N' H' → D.rt v H') → t D σ (ov N I)
/-- .. or at the def's end -/
def RN {S ρ : Type} (Ret : RetT ρ) (t : TS) (Γ : S → List Sl) (m : Mn S ρ) (Γr : S → List Sl) : Prop := ∀ (s : S) (I F N : Hp) (σ : L2.St), EnvOk I F N σ (Γ s) → Dis N I → ∀ D : Ends, (∀ σ H, D.rt .non H → D.nx σ H) →
  (m s).sat (fun x s' => ∀ v H' I' N' σ', Ex I I' → EnvOk I' F N' σ' (Γr s') → Ret x v I' N' H' → D.rt v H') → t D σ (ov N I)
/-- ways out of a statement -/
inductive Ct (ρ τ β : Type) where
  | rt (x : ρ)
  | nx (t : τ)
  | br (b : β)
def CtQ {S ρ τ β : Type} (Ret : RetT ρ) (D : Ends) (F : Hp) (Γr : S → List Sl) (Γn : τ → S → List Sl) (Γb : β → S → List Sl) (I : Hp) (c : Ct ρ τ β) (s' : S) : Prop :=
  match c with
    | .rt x => ∀ v H' I' N' σ', Ex I I' → EnvOk I' F N' σ' (Γr s') → Ret x v I' N' H' → D.rt v H'
    | .nx x => ∀ I' N' σ', Ex I I' → Dis N' I' → EnvOk I' F N' σ' (Γn x s') → D.nx σ' (ov N' I')
    | .br x => ∀ I' N' σ', Ex I I' → Dis N' I' → EnvOk I' F N' σ' (Γb x s') → D.bk σ' (ov N' I')
def CxQ {S ρ τ β : Type} (Ret : RetT ρ) (D : Ends) (F : Hp) (Γr : S → List Sl) (Γb : β → S → List Sl) (I : Hp) (c : Ct ρ τ β) (s' : S) : Prop :=
  match c with
    | .rt x => ∀ v H' I' N' σ', Ex I I' → EnvOk I' F N' σ' (Γr s') → Ret x v I' N' H' → D.rt v H'
    | .nx x => True
    | .br x => ∀ I' N' σ', Ex I I' → Dis N' I' → EnvOk I' F N' σ' (Γb x s') → D.bk σ' (ov N' I')
def RC {S ρ τ β : Type} (Ret : RetT ρ) (t : TS) (Γ : S → List Sl) (m : Mn S (Ct ρ τ β)) (Γr : S → List Sl) (Γn : τ → S → List Sl) (Γb : β → S → List Sl) : Prop := ∀ (s : S) (I F N : Hp) (σ : L2.St), EnvOk I F N σ (Γ s) → Dis N I → ∀ D : Ends,
  (m s).sat (CtQ Ret D F Γr Γn Γb I) → t D σ (ov N I)
/-- .. that doesn't go on behind itself -/
def RX {S ρ τ β : Type} (Ret : RetT ρ) (t : TS) (Γ : S → List Sl) (m : Mn S (Ct ρ τ β)) (Γr : S → List Sl) (Γb : β → S → List Sl) : Prop := ∀ (s : S) (I F N : Hp) (σ : L2.St), EnvOk I F N σ (Γ s) → Dis N I → ∀ D : Ends,
  (m s).sat (CxQ Ret D F Γr Γb I) → t D σ (ov N I)
section
variable {S ρ τ τ' β α : Type} {Ret : RetT ρ} [Rp α] {t t1 t2 : TS} {te : TE} {tc : TT} {Γ Γr Γ1 : S → List Sl} {Γ' Γ2 : τ → S → List Sl} {Γt : τ' → S → List Sl}
theorem rn_of {m : Mn S ρ} (h : RT Ret t Γ m Γr) : RN Ret t Γ m Γr := fun s I F N σ e d D _ q => h s I F N σ e d D q
/-- forgetting ahead -/
theorem rp_pre {m : Mn S τ} (w : ∀ s, Wk (Γ s) (Γ1 s)) (h : RP t Γ1 m Γ') : RP t Γ m Γ' := fun s I F N σ e d D q => by
  obtain ⟨I1, N1, x1, x2, x3, x4⟩ := e.wk (w s) d
  rw [← x3]
  exact h s I1 F N1 σ x4 x2 D (R.sat_imp q fun x s' q I' N' σ' a1 d1 e1 => q I' N' σ' (x1.trans a1) d1 e1)
theorem rt_pre {m : Mn S ρ} (w : ∀ s, Wk (Γ s) (Γ1 s)) (h : RT Ret t Γ1 m Γr) : RT Ret t Γ m Γr := fun s I F N σ e d D q => by
  obtain ⟨I1, N1, x1, x2, x3, x4⟩ := e.wk (w s) d
  rw [← x3]
  exact h s I1 F N1 σ x4 x2 D (R.sat_imp q fun x s' q v H' I' N' σ' a1 e1 r1 => q v H' I' N' σ' (x1.trans a1) e1 r1)
theorem rn_pre {m : Mn S ρ} (w : ∀ s, Wk (Γ s) (Γ1 s)) (h : RN Ret t Γ1 m Γr) : RN Ret t Γ m Γr := fun s I F N σ e d D hn q => by
  obtain ⟨I1, N1, x1, x2, x3, x4⟩ := e.wk (w s) d
  rw [← x3]
  exact h s I1 F N1 σ x4 x2 D hn (R.sat_imp q fun x s' q v H' I' N' σ' a1 e1 r1 => q v H' I' N' σ' (x1.trans a1) e1 r1)
/-- forgetting behind -/
theorem rp_post {m : Mn S τ} {f : τ → τ'} (h : RP t Γ m Γ') (w : ∀ x s, Wk (Γ' x s) (Γt (f x) s)) : RP t Γ (mb m fun x => mp (f x)) Γt := fun s I F N σ e d D q =>
  h s I F N σ e d D (R.sat_imp (sat_mb.mp q) fun x s' q I' N' σ' a1 d1 e1 => by
    obtain ⟨I1, N1, x1, x2, x3, x4⟩ := e1.wk (w x s') d1
    rw [← x3]
    exact q I1 N1 σ' (a1.trans x1) x2 x4)
theorem rp_next {x : τ} (w : ∀ s, Wk (Γ s) (Γ' x s)) : RP tNext Γ (mp x) Γ' := fun s I F N σ e d D q => by
  obtain ⟨I1, N1, x1, x2, x3, x4⟩ := e.wk (w s) d
  show D.nx σ (ov N I)
  rw [← x3]
  exact q I1 N1 σ x1 x2 x4
theorem rp_never : RP (τ := τ) tNever Γ mbad Γ' := fun s I F N σ e d D q => q
theorem rt_never : RT Ret tNever Γ (mbad : Mn S ρ) Γr := fun s I F N σ e d D q => q
theorem rc_never {Γb : β → S → List Sl} : RC Ret (ρ := ρ) (τ := τ) (β := β) tNever Γ mbad Γr Γ' Γb := fun s I F N σ e d D q => q
theorem rx_never {Γb : β → S → List Sl} : RX Ret (ρ := ρ) (τ := τ) (β := β) tNever Γ mbad Γr Γb := fun s I F N σ e d D q => q
theorem rt_ret {m : Mn S α} (h : EM K te Γ m) (w : ∀ s, Wk (Γ s) (Γr s)) : RT (rIm K) (tRet te) Γ m Γr := fun s I F N σ e d D q =>
  h s I F N σ e d _ (R.sat_imp q fun x s' q v I' N' a1 d1 e1 r1 => by
    obtain ⟨I1, N1, x1, x2, x3, x4⟩ := e1.wk (w s') d1
    exact q v _ I1 N1 σ (a1.trans x1) x4 ⟨x2, x3.symm, Rp.up x1 r1⟩)
/-- something owned is handed on -/
theorem rt_reto {m : Mn S ρ} {P : ρ → OP} (h : EO te Γ m (rOw P)) (w : ∀ s, Wk (Γ s) (Γr s)) : RT (rOw P) (tRet te) Γ m Γr := fun s I F N σ e d D q =>
  h s I F N σ e d _ (R.sat_imp q fun x s' q v H' I' N' a1 e1 ⟨a, Ma, h1, h2, h3, h4, h5⟩ => by
    obtain ⟨y1, y2⟩ := dis_ov_l h3
    obtain ⟨I1, N1, x1, x2, x3, x4⟩ := e1.wk (w s') y2
    have z := dis_ov_r h2 y1
    rw [← x3] at z
    obtain ⟨z1, z2⟩ := dis_r_ov z
    refine q v H' I1 N1 σ (a1.trans x1) x4 ⟨a, Ma, h1, z1, dis_ov z2 x2, ?_, (P x).up x1 h5⟩
    rw [h4, ← ov_assoc, ← ov_assoc, x3])
/-- what a slot owns is handed on -/
theorem rt_retv {i : Nat} {P Pr : S → OP} {f : S → ρ} {Pρ : ρ → OP} (hi : ∀ s, (Γ s)[i]? = some (.ow (P s))) (hP : ∀ s I a Ma, (P s).r I a Ma → (Pρ (f s)).r I a Ma) (w : ∀ s, Wk ((Γ s).set i .no) (Γr s)) : RT (rOw Pρ) (tRet (tVar i)) Γ (mg f) Γr := fun s I F N σ e d D q => by
  obtain ⟨a, Ma, M', h1, h2, h3, h4, h5, h6, h7⟩ := e.foc (hi s)
  subst h4
  refine ⟨_, h1, ?_⟩
  obtain ⟨y1, y2⟩ := dis_ov_l d
  obtain ⟨I1, N1, x1, x2, x3, x4⟩ := (h7 I (Ex.refl I)).wk (w s) y2
  have z := dis_ov_r h3 y1
  rw [← x3] at z
  obtain ⟨z1, z2⟩ := dis_r_ov z
  refine q _ _ I1 N1 σ x1 x4 ⟨a, Ma, rfl, z1, dis_ov z2 x2, ?_, (Pρ (f s)).up x1 (hP s _ _ _ h2)⟩
  rw [← ov_assoc, ← ov_assoc, x3]
theorem rt_retN (w : ∀ s, Wk (Γ s) (Γr s)) : RT (rIm K) tRetN Γ (mp ()) Γr := fun s I F N σ e d D q => by
  obtain ⟨I1, N1, x1, x2, x3, x4⟩ := e.wk (w s) d
  exact q _ _ I1 N1 σ x1 x4 ⟨x2, x3.symm, rfl⟩
theorem rc_ret {Γb : β → S → List Sl} {m : Mn S ρ} (h : RT Ret t Γ m Γr) : RC Ret (τ := τ) (β := β) t Γ (mb m fun x => mp (.rt x)) Γr Γ' Γb := fun s I F N σ e d D q => h s I F N σ e d D (sat_mb.mp q)
theorem rx_ret {Γb : β → S → List Sl} {m : Mn S ρ} (h : RT Ret t Γ m Γr) : RX Ret (τ := τ) (β := β) t Γ (mb m fun x => mp (.rt x)) Γr Γb := fun s I F N σ e d D q => h s I F N σ e d D (sat_mb.mp q)
theorem rx_brk {Γb : β → S → List Sl} {b : β} (w : ∀ s, Wk (Γ s) (Γb b s)) : RX Ret (ρ := ρ) (τ := τ) tBreak Γ (mp (.br b)) Γr Γb := fun s I F N σ e d D q => by
  obtain ⟨I1, N1, x1, x2, x3, x4⟩ := e.wk (w s) d
  show D.bk σ (ov N I)
  rw [← x3]
  exact q I1 N1 σ x1 x2 x4
theorem rc_of_x {Γb : β → S → List Sl} {m : Mn S (Ct ρ τ β)} (h : RX Ret t Γ m Γr Γb) : RC Ret t Γ m Γr Γ' Γb := fun s I F N σ e d D q => h s I F N σ e d D (R.sat_imp q fun c s' q => by
  cases c with
  | rt x => exact q
  | nx x => trivial
  | br x => exact q)
theorem rc_of_p {Γb : β → S → List Sl} {m : Mn S τ} (h : RP t Γ m Γ') : RC Ret (ρ := ρ) t Γ (mb m fun x => mp (.nx x)) Γr Γ' Γb := fun s I F N σ e d D q => h s I F N σ e d D (sat_mb.mp q)
/-! statements in a row -/
theorem rp_seq {m1 : Mn S τ'} {m2 : τ' → Mn S τ} (h1 : RP t1 Γ m1 Γt) (h2 : ∀ x, RP t2 (Γt x) (m2 x) Γ') : RP (tSeq t1 t2) Γ (mb m1 m2) Γ' := fun s I F N σ e d D q =>
  h1 s I F N σ e d _ (R.sat_imp (sat_mb.mp q) fun x s1 q I1 N1 σ1 a1 d1 e1 => h2 x s1 I1 F N1 σ1 e1 d1 D (R.sat_imp q fun y s2 q I2 N2 σ2 a2 d2 e2 => q I2 N2 σ2 (a1.trans a2) d2 e2))
theorem rt_seq {m1 : Mn S τ'} {m2 : τ' → Mn S ρ} (h1 : RP t1 Γ m1 Γt) (h2 : ∀ x, RT Ret t2 (Γt x) (m2 x) Γr) : RT Ret (tSeq t1 t2) Γ (mb m1 m2) Γr := fun s I F N σ e d D q =>
  h1 s I F N σ e d _ (R.sat_imp (sat_mb.mp q) fun x s1 q I1 N1 σ1 a1 d1 e1 => h2 x s1 I1 F N1 σ1 e1 d1 D (R.sat_imp q fun y s2 q v H2 I2 N2 σ2 a2 e2 r2 => q v H2 I2 N2 σ2 (a1.trans a2) e2 r2))
theorem rn_seq {m1 : Mn S τ'} {m2 : τ' → Mn S ρ} (h1 : RP t1 Γ m1 Γt) (h2 : ∀ x, RN Ret t2 (Γt x) (m2 x) Γr) : RN Ret (tSeq t1 t2) Γ (mb m1 m2) Γr := fun s I F N σ e d D hn q =>
  h1 s I F N σ e d _ (R.sat_imp (sat_mb.mp q) fun x s1 q I1 N1 σ1 a1 d1 e1 => h2 x s1 I1 F N1 σ1 e1 d1 D hn (R.sat_imp q fun y s2 q v H2 I2 N2 σ2 a2 e2 r2 => q v H2 I2 N2 σ2 (a1.trans a2) e2 r2))
theorem rn_last {m : Mn S τ} (h : RP t Γ m Γ') (w : ∀ x s, Wk (Γ' x s) (Γr s)) : RN (rIm K) t Γ (mb m fun _ => mp ()) Γr := fun s I F N σ e d D hn q =>
  h s I F N σ e d _ (R.sat_imp (sat_mb.mp q) fun x s1 q I1 N1 σ1 a1 d1 e1 => by
    obtain ⟨I2, N2, x1, x2, x3, x4⟩ := e1.wk (w x s1) d1
    exact hn σ1 _ (q _ _ I2 N2 σ1 (a1.trans x1) x4 ⟨x2, x3.symm, rfl⟩))
theorem rn_next (w : ∀ s, Wk (Γ s) (Γr s)) : RN (rIm K) tNext Γ (mp ()) Γr := fun s I F N σ e d D hn q => by
  obtain ⟨I2, N2, x1, x2, x3, x4⟩ := e.wk (w s) d
  exact hn σ _ (q _ _ I2 N2 σ x1 x4 ⟨x2, x3.symm, rfl⟩)
theorem rc_seqP {Γb : β → S → List Sl} {m1 : Mn S τ'} {m2 : τ' → Mn S (Ct ρ τ β)} (h1 : RP t1 Γ m1 Γt) (h2 : ∀ x, RC Ret t2 (Γt x) (m2 x) Γr Γ' Γb) : RC Ret (tSeq t1 t2) Γ (mb m1 m2) Γr Γ' Γb := fun s I F N σ e d D q =>
  h1 s I F N σ e d _ (R.sat_imp (sat_mb.mp q) fun x s1 q I1 N1 σ1 a1 d1 e1 => h2 x s1 I1 F N1 σ1 e1 d1 D (R.sat_imp q fun c s2 q => by
    cases c with
    | rt x => exact fun v H2 I2 N2 σ2 a2 e2 r2 => q v H2 I2 N2 σ2 (a1.trans a2) e2 r2
    | nx x => exact fun I2 N2 σ2 a2 d2 e2 => q I2 N2 σ2 (a1.trans a2) d2 e2
    | br x => exact fun I2 N2 σ2 a2 d2 e2 => q I2 N2 σ2 (a1.trans a2) d2 e2))
theorem rx_seqP {Γb : β → S → List Sl} {m1 : Mn S τ'} {m2 : τ' → Mn S (Ct ρ τ β)} (h1 : RP t1 Γ m1 Γt) (h2 : ∀ x, RX Ret t2 (Γt x) (m2 x) Γr Γb) : RX Ret (tSeq t1 t2) Γ (mb m1 m2) Γr Γb := fun s I F N σ e d D q =>
  h1 s I F N σ e d _ (R.sat_imp (sat_mb.mp q) fun x s1 q I1 N1 σ1 a1 d1 e1 => h2 x s1 I1 F N1 σ1 e1 d1 D (R.sat_imp q fun c s2 q => by
    cases c with
    | rt x => exact fun v H2 I2 N2 σ2 a2 e2 r2 => q v H2 I2 N2 σ2 (a1.trans a2) e2 r2
    | nx x => trivial
    | br x => exact fun I2 N2 σ2 a2 d2 e2 => q I2 N2 σ2 (a1.trans a2) d2 e2))
/-- what follows a statement with ways out -/
def ctk {S ρ τ β : Type} (k : τ → Mn S ρ) (j : β → Mn S ρ) : Ct ρ τ β → Mn S ρ
  | .rt x => mp x
  | .nx x => k x
  | .br x => j x
def ctc {S ρ τ τ' β : Type} (k : τ' → Mn S (Ct ρ τ β)) : Ct ρ τ' β → Mn S (Ct ρ τ β)
  | .rt x => mp (.rt x)
  | .nx x => k x
  | .br x => mp (.br x)
theorem rt_seqC {Γb : β → S → List Sl} {m1 : Mn S (Ct ρ τ' β)} {m2 : τ' → Mn S ρ} (h1 : RC Ret t1 Γ m1 Γr Γt Γb) (h2 : ∀ x, RT Ret t2 (Γt x) (m2 x) Γr) : RT Ret (tSeq t1 t2) Γ (mb m1 (ctk m2 fun _ => mbad)) Γr := fun s I F N σ e d D q =>
  h1 s I F N σ e d _ (R.sat_imp (sat_mb.mp q) fun c s1 q => by
    cases c with
    | rt x => exact q
    | nx x => exact fun I1 N1 σ1 a1 d1 e1 => h2 x s1 I1 F N1 σ1 e1 d1 D (R.sat_imp q fun y s2 q v H2 I2 N2 σ2 a2 e2 r2 => q v H2 I2 N2 σ2 (a1.trans a2) e2 r2)
    | br x => exact q.elim)
theorem rn_seqC {Γb : β → S → List Sl} {m1 : Mn S (Ct ρ τ' β)} {m2 : τ' → Mn S ρ} (h1 : RC Ret t1 Γ m1 Γr Γt Γb) (h2 : ∀ x, RN Ret t2 (Γt x) (m2 x) Γr) : RN Ret (tSeq t1 t2) Γ (mb m1 (ctk m2 fun _ => mbad)) Γr := fun s I F N σ e d D hn q =>
  h1 s I F N σ e d _ (R.sat_imp (sat_mb.mp q) fun c s1 q => by
    cases c with
    | rt x => exact q
    | nx x => exact fun I1 N1 σ1 a1 d1 e1 => h2 x s1 I1 F N1 σ1 e1 d1 D hn (R.sat_imp q fun y s2 q v H2 I2 N2 σ2 a2 e2 r2 => q v H2 I2 N2 σ2 (a1.trans a2) e2 r2)
    | br x => exact q.elim)
theorem rc_seq {Γb : β → S → List Sl} {m1 : Mn S (Ct ρ τ' β)} {m2 : τ' → Mn S (Ct ρ τ β)} (h1 : RC Ret t1 Γ m1 Γr Γt Γb) (h2 : ∀ x, RC Ret t2 (Γt x) (m2 x) Γr Γ' Γb) : RC Ret (tSeq t1 t2) Γ (mb m1 (ctc m2)) Γr Γ' Γb := fun s I F N σ e d D q =>
  h1 s I F N σ e d _ (R.sat_imp (sat_mb.mp q) fun c s1 q => by
    cases c with
    | rt x => exact q
    | nx x => exact fun I1 N1 σ1 a1 d1 e1 => h2 x s1 I1 F N1 σ1 e1 d1 D (R.sat_imp q fun c s2 q => by
        cases c with
        | rt x => exact fun v H2 I2 N2 σ2 a2 e2 r2 => q v H2 I2 N2 σ2 (a1.trans a2) e2 r2
        | nx x => exact fun I2 N2 σ2 a2 d2 e2 => q I2 N2 σ2 (a1.trans a2) d2 e2
        | br x => exact fun I2 N2 σ2 a2 d2 e2 => q I2 N2 σ2 (a1.trans a2) d2 e2)
    | br x => exact q)
/-! if -/
theorem ifS {mc : Mn S Bool} {α : Type} {m1 m2 : Mn S α} {G : Mn S α → TS → Prop} (hc : TM tc Γ mc) {s : S} {I F N : Hp} {σ : L2.St} {D : Ends} (e : EnvOk I F N σ (Γ s)) (d : Dis N I) {Q : α → S → Prop} (q : (mb mc (fun b => mi b m1 m2) s).sat Q)
    (h1 : ∀ s1 I1 N1, Ex I I1 → Dis N1 I1 → EnvOk I1 F N1 σ (Γ s1) → (m1 s1).sat Q → t1 D σ (ov N1 I1)) (h2 : ∀ s1 I1 N1, Ex I I1 → Dis N1 I1 → EnvOk I1 F N1 σ (Γ s1) → (m2 s1).sat Q → t2 D σ (ov N1 I1)) : tIfS tc t1 t2 D σ (ov N I) :=
  hc s I F N σ e d _ (R.sat_imp (sat_mb.mp q) fun b s1 q I1 N1 a1 d1 e1 => by
    cases b with
    | true => exact h1 s1 I1 N1 a1 d1 e1 q
    | false => exact h2 s1 I1 N1 a1 d1 e1 q)
theorem rp_if {mc : Mn S Bool} {m1 m2 : Mn S τ} (hc : TM tc Γ mc) (h1 : RP t1 Γ m1 Γ') (h2 : RP t2 Γ m2 Γ') : RP (tIfS tc t1 t2) Γ (mb mc fun b => mi b m1 m2) Γ' := fun s I F N σ e d D q =>
  ifS (G := fun _ _ => True) hc e d q (fun s1 I1 N1 a1 d1 e1 q => h1 s1 I1 F N1 σ e1 d1 D (R.sat_imp q fun y s2 q I2 N2 σ2 a2 d2 e2 => q I2 N2 σ2 (a1.trans a2) d2 e2)) (fun s1 I1 N1 a1 d1 e1 q => h2 s1 I1 F N1 σ e1 d1 D (R.sat_imp q fun y s2 q I2 N2 σ2 a2 d2 e2 => q I2 N2 σ2 (a1.trans a2) d2 e2))
theorem rt_if {mc : Mn S Bool} {m1 m2 : Mn S ρ} (hc : TM tc Γ mc) (h1 : RT Ret t1 Γ m1 Γr) (h2 : RT Ret t2 Γ m2 Γr) : RT Ret (tIfS tc t1 t2) Γ (mb mc fun b => mi b m1 m2) Γr := fun s I F N σ e d D q =>
  ifS (G := fun _ _ => True) hc e d q (fun s1 I1 N1 a1 d1 e1 q => h1 s1 I1 F N1 σ e1 d1 D (R.sat_imp q fun y s2 q v H2 I2 N2 σ2 a2 e2 r2 => q v H2 I2 N2 σ2 (a1.trans a2) e2 r2)) (fun s1 I1 N1 a1 d1 e1 q => h2 s1 I1 F N1 σ e1 d1 D (R.sat_imp q fun y s2 q v H2 I2 N2 σ2 a2 e2 r2 => q v H2 I2 N2 σ2 (a1.trans a2) e2 r2))
theorem rn_if {mc : Mn S Bool} {m1 m2 : Mn S ρ} (hc : TM tc Γ mc) (h1 : RN Ret t1 Γ m1 Γr) (h2 : RN Ret t2 Γ m2 Γr) : RN Ret (tIfS tc t1 t2) Γ (mb mc fun b => mi b m1 m2) Γr := fun s I F N σ e d D hn q =>
  ifS (G := fun _ _ => True) hc e d q (fun s1 I1 N1 a1 d1 e1 q => h1 s1 I1 F N1 σ e1 d1 D hn (R.sat_imp q fun y s2 q v H2 I2 N2 σ2 a2 e2 r2 => q v H2 I2 N2 σ2 (a1.trans a2) e2 r2)) (fun s1 I1 N1 a1 d1 e1 q => h2 s1 I1 F N1 σ e1 d1 D hn (R.sat_imp q fun y s2 q v H2 I2 N2 σ2 a2 e2 r2 => q v H2 I2 N2 σ2 (a1.trans a2) e2 r2))
/-- if c: .. that returns; the rest -/
theorem rt_ifr {mc : Mn S Bool} {m1 m2 : Mn S ρ} (hc : TM tc Γ mc) (h1 : RT Ret t1 Γ m1 Γr) (h2 : RT Ret t2 Γ m2 Γr) : RT Ret (tSeq (tIfS tc t1 tNext) t2) Γ (mb mc fun b => mi b m1 m2) Γr := fun s I F N σ e d D q =>
  ifS (t2 := tNext) (D := { D with nx := t2 D }) (G := fun _ _ => True) hc e d q (fun s1 I1 N1 a1 d1 e1 q => h1 s1 I1 F N1 σ e1 d1 _ (R.sat_imp q fun y s2 q v H2 I2 N2 σ2 a2 e2 r2 => q v H2 I2 N2 σ2 (a1.trans a2) e2 r2)) (fun s1 I1 N1 a1 d1 e1 q => h2 s1 I1 F N1 σ e1 d1 D (R.sat_imp q fun y s2 q v H2 I2 N2 σ2 a2 e2 r2 => q v H2 I2 N2 σ2 (a1.trans a2) e2 r2))
theorem rn_ifr {mc : Mn S Bool} {m1 m2 : Mn S ρ} (hc : TM tc Γ mc) (h1 : RT Ret t1 Γ m1 Γr) (h2 : RN Ret t2 Γ m2 Γr) : RN Ret (tSeq (tIfS tc t1 tNext) t2) Γ (mb mc fun b => mi b m1 m2) Γr := fun s I F N σ e d D hn q =>
  ifS (t2 := tNext) (D := { D with nx := t2 D }) (G := fun _ _ => True) hc e d q (fun s1 I1 N1 a1 d1 e1 q => h1 s1 I1 F N1 σ e1 d1 _ (R.sat_imp q fun y s2 q v H2 I2 N2 σ2 a2 e2 r2 => q v H2 I2 N2 σ2 (a1.trans a2) e2 r2)) (fun s1 I1 N1 a1 d1 e1 q => h2 s1 I1 F N1 σ e1 d1 D hn (R.sat_imp q fun y s2 q v H2 I2 N2 σ2 a2 e2 r2 => q v H2 I2 N2 σ2 (a1.trans a2) e2 r2))
theorem ctup {S : Type} {D : Ends} {Γr : S → List Sl} {F : Hp} {Γ' : τ → S → List Sl} {Γb : β → S → List Sl} {I I1 : Hp} (a1 : Ex I I1) {c : Ct ρ τ β} {s' : S} (q : CtQ Ret D F Γr Γ' Γb I c s') : CtQ Ret D F Γr Γ' Γb I1 c s' := by
  cases c with
  | rt x => exact fun v H2 I2 N2 σ2 a2 e2 r2 => q v H2 I2 N2 σ2 (a1.trans a2) e2 r2
  | nx x => exact fun I2 N2 σ2 a2 d2 e2 => q I2 N2 σ2 (a1.trans a2) d2 e2
  | br x => exact fun I2 N2 σ2 a2 d2 e2 => q I2 N2 σ2 (a1.trans a2) d2 e2
theorem rc_if {Γb : β → S → List Sl} {mc : Mn S Bool} {m1 m2 : Mn S (Ct ρ τ β)} (hc : TM tc Γ mc) (h1 : RC Ret t1 Γ m1 Γr Γ' Γb) (h2 : RC Ret t2 Γ m2 Γr Γ' Γb) : RC Ret (tIfS tc t1 t2) Γ (mb mc fun b => mi b m1 m2) Γr Γ' Γb := fun s I F N σ e d D q =>
  ifS (G := fun _ _ => True) hc e d q (fun s1 I1 N1 a1 d1 e1 q => h1 s1 I1 F N1 σ e1 d1 D (R.sat_imp q fun c s2 q => ctup a1 q)) (fun s1 I1 N1 a1 d1 e1 q => h2 s1 I1 F N1 σ e1 d1 D (R.sat_imp q fun c s2 q => ctup a1 q))
theorem rx_if {Γb : β → S → List Sl} {mc : Mn S Bool} {m1 m2 : Mn S (Ct ρ τ β)} (hc : TM tc Γ mc) (h1 : RX Ret t1 Γ m1 Γr Γb) (h2 : RX Ret t2 Γ m2 Γr Γb) : RX Ret (tIfS tc t1 t2) Γ (mb mc fun b => mi b m1 m2) Γr Γb := fun s I F N σ e d D q =>
  ifS (G := fun _ _ => True) hc e d q (fun s1 I1 N1 a1 d1 e1 q => h1 s1 I1 F N1 σ e1 d1 D (R.sat_imp q fun c s2 q => by
      cases c with
      | rt x => exact fun v H2 I2 N2 σ2 a2 e2 r2 => q v H2 I2 N2 σ2 (a1.trans a2) e2 r2
      | nx x => trivial
      | br x => exact fun I2 N2 σ2 a2 d2 e2 => q I2 N2 σ2 (a1.trans a2) d2 e2))
    (fun s1 I1 N1 a1 d1 e1 q => h2 s1 I1 F N1 σ e1 d1 D (R.sat_imp q fun c s2 q => by
      cases c with
      | rt x => exact fun v H2 I2 N2 σ2 a2 e2 r2 => q v H2 I2 N2 σ2 (a1.trans a2) e2 r2
      | nx x => trivial
      | br x => exact fun I2 N2 σ2 a2 d2 e2 => q I2 N2 σ2 (a1.trans a2) d2 e2))
theorem rc_ifr {Γb : β → S → List Sl} {mc : Mn S Bool} {m1 m2 : Mn S (Ct ρ τ β)} (hc : TM tc Γ mc) (h1 : RX Ret t1 Γ m1 Γr Γb) (h2 : RC Ret t2 Γ m2 Γr Γ' Γb) : RC Ret (tSeq (tIfS tc t1 tNext) t2) Γ (mb mc fun b => mi b m1 m2) Γr Γ' Γb := fun s I F N σ e d D q =>
  ifS (t2 := tNext) (D := { D with nx := t2 D }) (G := fun _ _ => True) hc e d q (fun s1 I1 N1 a1 d1 e1 q => h1 s1 I1 F N1 σ e1 d1 _ (R.sat_imp q fun c s2 q => by
      cases c with
      | rt x => exact fun v H2 I2 N2 σ2 a2 e2 r2 => q v H2 I2 N2 σ2 (a1.trans a2) e2 r2
      | nx x => trivial
      | br x => exact fun I2 N2 σ2 a2 d2 e2 => q I2 N2 σ2 (a1.trans a2) d2 e2))
    (fun s1 I1 N1 a1 d1 e1 q => h2 s1 I1 F N1 σ e1 d1 D (R.sat_imp q fun c s2 q => ctup a1 q))
/-! assignments -/
theorem rp_asg {i : Nat} {m : Mn S α} {Γ' : α → S → List Sl} (h : EM K te Γ m) (hn : ∀ s, NotOw (Γ s) i) (hΓ : ∀ x s, (Γ s).set i (.im (pv K x)) = Γ' x s) : RP (tAsg te (gName i)) Γ m Γ' := fun s I F N σ e d D q =>
  h s I F N σ e d _ (R.sat_imp q fun x s' q v I' N' a1 d1 e1 r1 => q I' N' _ a1 d1 (by rw [← hΓ]; exact e1.set r1 (hn s')))
theorem rp_drop {m : Mn S α} (h : EM K te Γ m) : RP (tDrop te) Γ m (fun _ => Γ) := fun s I F N σ e d D q =>
  h s I F N σ e d _ (R.sat_imp q fun x s' q v I' N' a1 d1 e1 r1 => q I' N' σ a1 d1 e1)
end
end
end Mir

/-! Mir5: what is walked; loops; comprehensions; a def's body and its promise -/
namespace Mir
open PySem L2
section
variable {K : PySem.W.Frag}
/-! ### what is walked -/
def ItOk (K : PySem.W.Frag) {α : Type} [Rp α] (J : It) (I : Hp) (xs : List α) : Prop := ∀ I1 N1, Ex I I1 → Dis N1 I1 →
  (∀ (i : Nat) (x : α), xs[i]? = some x → J.go i (ov N1 I1) ∧ ∀ v H', J.yld i (ov N1 I1) v H' → ∃ I2, H' = ov N1 I2 ∧ Ex I1 I2 ∧ Dis N1 I2 ∧ Rp.r K x I2 v) ∧ J.stop xs.length (ov N1 I1)
def IM (K : PySem.W.Frag) {S α : Type} [Rp α] (wi : TI) (Γ : S → List Sl) (m : Mn S (List α)) : Prop := ∀ (s : S) (I F N : Hp) (σ : L2.St), EnvOk I F N σ (Γ s) → Dis N I → ∀ Rr : It → Hp → Prop,
  (m s).sat (fun xs s' => ∀ J I' N', Ex I I' → Dis N' I' → EnvOk I' F N' σ (Γ s') → ItOk K J I' xs → Rr J (ov N' I')) → wi σ (ov N I) Rr
section
variable {S α β γ : Type} [Rp α] [Rp β] {Γ : S → List Sl} {te : TE} {ta : TA}
theorem it_list {a : Addr} {xs : List α} {vs : List V} {I : Hp} (h : SqL K I a vs) (r : Rs K xs I vs) : ItOk K (Itl K a) I xs := fun I1 N1 a1 d1 => by
  have h1 : SqL K (ov N1 I1) a vs := sql_up (a1.trans (ex_ov d1)) h
  refine ⟨fun i x hx => ?_, ⟨vs, h1, by rw [r.length]; exact Nat.le_refl _⟩⟩
  obtain ⟨v, e1, e2⟩ := r.get hx
  refine ⟨⟨vs, v, h1, e1⟩, fun u H' ⟨y1, y2⟩ => ?_⟩
  have e3 := y2 vs h1
  rw [e1] at e3
  cases e3
  exact ⟨I1, y1, Ex.refl I1, d1, Rp.up a1 e2⟩
theorem it_tup {a : Addr} {xs : List α} {vs : List V} {I : Hp} (h : SqT K I a vs) (r : Rs K xs I vs) : ItOk K (Itt K a) I xs := fun I1 N1 a1 d1 => by
  have h1 : SqT K (ov N1 I1) a vs := sqt_up (a1.trans (ex_ov d1)) h
  refine ⟨fun i x hx => ?_, ⟨vs, h1, by rw [r.length]; exact Nat.le_refl _⟩⟩
  obtain ⟨v, e1, e2⟩ := r.get hx
  refine ⟨⟨vs, v, h1, e1⟩, fun u H' ⟨y1, y2⟩ => ?_⟩
  have e3 := y2 vs h1
  rw [e1] at e3
  cases e3
  exact ⟨I1, y1, Ex.refl I1, d1, Rp.up a1 e2⟩
/-- lo, lo + 1, .. -/
def rng (lo : Int) (n : Nat) : List Int := (List.range n).map fun i => lo + (i : Nat)
theorem rng_len {lo : Int} {n : Nat} : (rng lo n).length = n := by unfold rng; rw [List.length_map, List.length_range]
theorem rng_get {lo : Int} {n i : Nat} {x : Int} (h : (rng lo n)[i]? = some x) : i < n ∧ x = lo + (i : Nat) := by
  have hi : i < n := by
    have := (List.getElem?_eq_some_iff.mp h).1
    rw [rng_len] at this
    exact this
  unfold rng at h
  rw [List.getElem?_map, List.getElem?_range hi] at h
  exact ⟨hi, (Option.some.inj h).symm⟩
theorem it_rng {lo : Int} {n : Nat} {I : Hp} : ItOk K (Itr lo n) I (rng lo n) := fun I1 N1 a1 d1 => by
  refine ⟨fun i x hx => ?_, by rw [rng_len]; exact Nat.le_refl _⟩
  obtain ⟨h1, h2⟩ := rng_get hx
  refine ⟨h1, fun u H' ⟨y1, y2⟩ => ⟨I1, y1, Ex.refl I1, d1, ?_⟩⟩
  rw [h2]
  exact y2
theorem im_list {xs : List α} (h : ∀ s, EP te (Γ s) (pv K xs)) : IM K (iList K te) Γ (mp xs) := fun s I F N σ e d Rr q =>
  h s I F N σ e d _ fun v I1 a1 d1 ⟨a, vs, h1, h2, h3⟩ => ⟨a, h1, ⟨vs, SqL.of (ex_ov d1 _ _ h2)⟩, q _ I1 N a1 d1 (e.up a1) (it_list (SqL.of h2) h3)⟩
theorem im_listM {m : Mn S (List α)} (h : EM K te Γ m) : IM K (iList K te) Γ m := fun s I F N σ e d Rr q =>
  h s I F N σ e d _ (R.sat_imp q fun xs s1 q v I1 N1 a1 d1 e1 ⟨a, vs, h1, h2, h3⟩ => ⟨a, h1, ⟨vs, SqL.of (ex_ov d1 _ _ h2)⟩, q _ I1 N1 a1 d1 e1 (it_list (SqL.of h2) h3)⟩)
theorem im_tup {xs : Tu α} (h : ∀ s, EP te (Γ s) (pv K xs)) : IM K (iTup K te) Γ (mp xs.l) := fun s I F N σ e d Rr q =>
  h s I F N σ e d _ fun v I1 a1 d1 ⟨a, vs, h1, h2, h3⟩ => ⟨a, h1, ⟨vs, sqt_ov d1 h2⟩, q _ I1 N a1 d1 (e.up a1) (it_tup h2 h3)⟩
theorem im_tupM {m : Mn S (Tu α)} (h : EM K te Γ m) : IM K (iTup K te) Γ (mb m fun x => mp x.l) := fun s I F N σ e d Rr q =>
  h s I F N σ e d _ (R.sat_imp (sat_mb.mp q) fun xs s1 q v I1 N1 a1 d1 e1 ⟨a, vs, h1, h2, h3⟩ => ⟨a, h1, ⟨vs, sqt_ov d1 h2⟩, q _ I1 N1 a1 d1 e1 (it_tup h2 h3)⟩)
/-- range(n), range(lo, n): bounds within 2 ^ 62 -/
def b62 (i : Int) : Bool := decide (-(2 ^ 62) ≤ i ∧ i < 2 ^ 62)
theorem im_rng1 {n : Int} (h : ∀ s, AP ta (Γ s) [pv K n]) : IM K (iRng1 ta) Γ (mc (b62 n) (rng 0 n.toNat)) := fun s I F N σ e d Rr q => by
  obtain ⟨c, q⟩ := sat_mc.mp q
  have c := of_decide_eq_true c
  refine h s I F N σ e d _ fun vs I1 a1 d1 r1 => ?_
  obtain ⟨v, _, rfl, r, r1⟩ := all2_c r1
  cases all2_n r1
  cases (show v = V.int n from r)
  exact ⟨n, rfl, c.1, c.2, q _ I1 N a1 d1 (e.up a1) it_rng⟩
theorem im_rng1M {ζ : Type} {m : Mn S ζ} {f : ζ → Int} (h : AM ta Γ m fun z => [pv K (f z)]) : IM K (iRng1 ta) Γ (mb m fun z => mc (b62 (f z)) (rng 0 (f z).toNat)) := fun s I F N σ e d Rr q => by
  refine h s I F N σ e d _ (R.sat_imp (sat_mb.mp q) fun z s1 q vs I1 N1 a1 d1 e1 r1 => ?_)
  obtain ⟨c, q⟩ := sat_mc.mp q
  have c := of_decide_eq_true c
  obtain ⟨v, _, rfl, r, r1⟩ := all2_c r1
  cases all2_n r1
  cases (show v = V.int (f z) from r)
  exact ⟨f z, rfl, c.1, c.2, q _ I1 N1 a1 d1 e1 it_rng⟩
theorem im_rng2 {lo n : Int} (h : ∀ s, AP ta (Γ s) [pv K lo, pv K n]) : IM K (iRng2 ta) Γ (mc (b62 lo && b62 n) (rng lo (n - lo).toNat)) := fun s I F N σ e d Rr q => by
  obtain ⟨c, q⟩ := sat_mc.mp q
  obtain ⟨c1, c2⟩ := Bool.and_eq_true_iff.mp c
  have c1 := of_decide_eq_true c1
  have c2 := of_decide_eq_true c2
  refine h s I F N σ e d _ fun vs I1 a1 d1 r1 => ?_
  obtain ⟨v, _, rfl, r, r1⟩ := all2_c r1
  obtain ⟨w, _, rfl, r', r1⟩ := all2_c r1
  cases all2_n r1
  cases (show v = V.int lo from r)
  cases (show w = V.int n from r')
  exact ⟨lo, n, rfl, ⟨c1.1, c1.2, c2.1, c2.2⟩, q _ I1 N a1 d1 (e.up a1) it_rng⟩
theorem im_rng2M {ζ : Type} {m : Mn S ζ} {f g : ζ → Int} (h : AM ta Γ m fun z => [pv K (f z), pv K (g z)]) : IM K (iRng2 ta) Γ (mb m fun z => mc (b62 (f z) && b62 (g z)) (rng (f z) (g z - f z).toNat)) := fun s I F N σ e d Rr q => by
  refine h s I F N σ e d _ (R.sat_imp (sat_mb.mp q) fun z s1 q vs I1 N1 a1 d1 e1 r1 => ?_)
  obtain ⟨c, q⟩ := sat_mc.mp q
  obtain ⟨c1, c2⟩ := Bool.and_eq_true_iff.mp c
  have c1 := of_decide_eq_true c1
  have c2 := of_decide_eq_true c2
  obtain ⟨v, _, rfl, r, r1⟩ := all2_c r1
  obtain ⟨w, _, rfl, r', r1⟩ := all2_c r1
  cases all2_n r1
  cases (show v = V.int (f z) from r)
  cases (show w = V.int (g z) from r')
  exact ⟨f z, g z, rfl, ⟨c1.1, c1.2, c2.1, c2.2⟩, q _ I1 N1 a1 d1 e1 it_rng⟩
end

/-! ### targets -/
/-- the item x is bound; js: the slots -/
def GT (K : PySem.W.Frag) {α : Type} [Rp α] (g : TG) (Γ : List Sl) (x : α) (Γ' : List Sl) (js : List Nat) : Prop := ∀ (I F N : Hp) (σ : L2.St) (v : V), EnvOk I F N σ Γ → Dis N I → Rp.r K x I v → ∀ Q : L2.St → Hp → Prop,
  (∀ σ', EnvOk I F N σ' Γ' → (∀ vs : List Nat, (∀ j ∈ js, j ∈ vs) → wipe σ' vs = wipe σ vs) → Q σ' (ov N I)) → g v σ (ov N I) Q
theorem wipe_get {σ : L2.St} {i : Nat} : ∀ vs : List Nat, (wipe σ vs)[i]? = if i ∈ vs then σ[i]?.map fun _ => none else σ[i]?
  | [] => by simp [wipe]
  | v :: vs => by
    unfold wipe
    rw [List.getElem?_set, wipe_get vs, wipe_length]
    by_cases h : v = i
    · subst h
      by_cases hl : v < σ.length
      · simp [hl, List.getElem?_eq_getElem hl]
      · simp [hl, List.getElem?_eq_none (Nat.le_of_not_lt hl)]
    · have h' : ¬ i = v := fun q => h q.symm
      rw [if_neg h]
      simp only [List.mem_cons, h', false_or]
theorem wipe_set {σ : L2.St} {j : Nat} {y : Option V} {vs : List Nat} (h : j ∈ vs) : wipe (σ.set j y) vs = wipe σ vs := by
  refine List.ext_getElem? fun i => ?_
  rw [wipe_get, wipe_get, List.getElem?_set]
  by_cases e : j = i
  · subst e
    by_cases hl : j < σ.length
    · simp [h, hl, List.getElem?_eq_getElem hl]
    · simp [h, hl, List.getElem?_eq_none (Nat.le_of_not_lt hl)]
  · rw [if_neg e]
theorem wipe_wipe {σ : L2.St} {vs : List Nat} : wipe (wipe σ vs) vs = wipe σ vs := by
  refine List.ext_getElem? fun i => ?_
  rw [wipe_get, wipe_get]
  by_cases e : i ∈ vs
  · rw [if_pos e, if_pos e, Option.map_map]
    rfl
  · rw [if_neg e, if_neg e]
section
variable {α β γ δ ε : Type} [Rp α] [Rp β] [Rp γ] [Rp δ] [Rp ε] {Γ Γ' : List Sl} {i j k l : Nat}
theorem gt_name {x : α} (hn : NotOw Γ i) (hΓ : Γ.set i (.im (pv K x)) = Γ') : GT K (gName i) Γ x Γ' [i] := fun I F N σ v e d r Q q => by
  refine q _ ?_ fun vs h => wipe_set (h i (List.mem_cons_self ..))
  rw [← hΓ]
  exact e.set r hn
/-- a name that nobody reads -/
theorem gt_nameNo {x : α} (hn : NotOw Γ i) (hΓ : Γ.set i .no = Γ') : GT K (gName i) Γ x Γ' [i] := fun I F N σ v e d r Q q => by
  refine q _ ?_ fun vs h => wipe_set (h i (List.mem_cons_self ..))
  rw [← hΓ]
  exact e.setNo hn
theorem gt_2 {x : α × β} {Γ1 : List Sl} {g1 g2 : TG} {js ks : List Nat} (h1 : GT K g1 Γ x.1 Γ1 js) (h2 : GT K g2 Γ1 x.2 Γ' ks) : GT K (gTup K 2 (gCons g1 (gCons g2 gNil))) Γ x Γ' (js ++ ks) := fun I F N σ v e d ⟨a, v1, v2, r1, r2, r3, r4⟩ Q q =>
  ⟨a, _, r1, sqt_ov d r2, rfl, v1, _, rfl, h1 I F N σ v1 e d r3 _ fun σ1 e1 w1 => ⟨v2, _, rfl, h2 I F N σ1 v2 e1 d r4 _ fun σ2 e2 w2 => ⟨rfl, q σ2 e2 fun vs h => (w2 vs fun j hj => h j (List.mem_append_right _ hj)).trans (w1 vs fun j hj => h j (List.mem_append_left _ hj))⟩⟩⟩
theorem gt_3 {x : T3 α β γ} {Γ1 Γ2 : List Sl} {g1 g2 g3 : TG} {js ks ls : List Nat} (h1 : GT K g1 Γ x.a Γ1 js) (h2 : GT K g2 Γ1 x.b Γ2 ks) (h3 : GT K g3 Γ2 x.c Γ' ls) : GT K (gTup K 3 (gCons g1 (gCons g2 (gCons g3 gNil)))) Γ x Γ' (js ++ (ks ++ ls)) := fun I F N σ v e d ⟨a, v1, v2, v3, r1, r2, r3, r4, r5⟩ Q q =>
  ⟨a, _, r1, sqt_ov d r2, rfl, v1, _, rfl, h1 I F N σ v1 e d r3 _ fun σ1 e1 w1 => ⟨v2, _, rfl, h2 I F N σ1 v2 e1 d r4 _ fun σ2 e2 w2 => ⟨v3, _, rfl, h3 I F N σ2 v3 e2 d r5 _ fun σ3 e3 w3 => ⟨rfl, q σ3 e3 fun vs h =>
    ((w3 vs fun j hj => h j (List.mem_append_right _ (List.mem_append_right _ hj))).trans (w2 vs fun j hj => h j (List.mem_append_right _ (List.mem_append_left _ hj)))).trans (w1 vs fun j hj => h j (List.mem_append_left _ hj))⟩⟩⟩⟩
theorem gt_4 {x : T4 α β γ δ} {Γ1 Γ2 Γ3 : List Sl} {g1 g2 g3 g4 : TG} {js ks ls ms : List Nat} (h1 : GT K g1 Γ x.a Γ1 js) (h2 : GT K g2 Γ1 x.b Γ2 ks) (h3 : GT K g3 Γ2 x.c Γ3 ls) (h4 : GT K g4 Γ3 x.d Γ' ms) : GT K (gTup K 4 (gCons g1 (gCons g2 (gCons g3 (gCons g4 gNil))))) Γ x Γ' (js ++ (ks ++ (ls ++ ms))) := fun I F N σ v e d ⟨a, v1, v2, v3, v4, r1, r2, r3, r4, r5, r6⟩ Q q =>
  ⟨a, _, r1, sqt_ov d r2, rfl, v1, _, rfl, h1 I F N σ v1 e d r3 _ fun σ1 e1 w1 => ⟨v2, _, rfl, h2 I F N σ1 v2 e1 d r4 _ fun σ2 e2 w2 => ⟨v3, _, rfl, h3 I F N σ2 v3 e2 d r5 _ fun σ3 e3 w3 => ⟨v4, _, rfl, h4 I F N σ3 v4 e3 d r6 _ fun σ4 e4 w4 => ⟨rfl, q σ4 e4 fun vs h =>
    (((w4 vs fun j hj => h j (List.mem_append_right _ (List.mem_append_right _ (List.mem_append_right _ hj)))).trans (w3 vs fun j hj => h j (List.mem_append_right _ (List.mem_append_right _ (List.mem_append_left _ hj))))).trans (w2 vs fun j hj => h j (List.mem_append_right _ (List.mem_append_left _ hj)))).trans (w1 vs fun j hj => h j (List.mem_append_left _ hj))⟩⟩⟩⟩⟩
theorem gt_5 {x : T5 α β γ δ ε} {Γ1 Γ2 Γ3 Γ4 : List Sl} {g1 g2 g3 g4 g5 : TG} {js ks ls ms ns : List Nat} (h1 : GT K g1 Γ x.a Γ1 js) (h2 : GT K g2 Γ1 x.b Γ2 ks) (h3 : GT K g3 Γ2 x.c Γ3 ls) (h4 : GT K g4 Γ3 x.d Γ4 ms) (h5 : GT K g5 Γ4 x.e Γ' ns) : GT K (gTup K 5 (gCons g1 (gCons g2 (gCons g3 (gCons g4 (gCons g5 gNil)))))) Γ x Γ' (js ++ (ks ++ (ls ++ (ms ++ ns)))) := fun I F N σ v e d ⟨a, v1, v2, v3, v4, v5, r1, r2, r3, r4, r5, r6, r7⟩ Q q =>
  ⟨a, _, r1, sqt_ov d r2, rfl, v1, _, rfl, h1 I F N σ v1 e d r3 _ fun σ1 e1 w1 => ⟨v2, _, rfl, h2 I F N σ1 v2 e1 d r4 _ fun σ2 e2 w2 => ⟨v3, _, rfl, h3 I F N σ2 v3 e2 d r5 _ fun σ3 e3 w3 => ⟨v4, _, rfl, h4 I F N σ3 v4 e3 d r6 _ fun σ4 e4 w4 => ⟨v5, _, rfl, h5 I F N σ4 v5 e4 d r7 _ fun σ5 e5 w5 => ⟨rfl, q σ5 e5 fun vs h =>
    ((((w5 vs fun j hj => h j (List.mem_append_right _ (List.mem_append_right _ (List.mem_append_right _ (List.mem_append_right _ hj))))).trans (w4 vs fun j hj => h j (List.mem_append_right _ (List.mem_append_right _ (List.mem_append_right _ (List.mem_append_left _ hj)))))).trans (w3 vs fun j hj => h j (List.mem_append_right _ (List.mem_append_right _ (List.mem_append_left _ hj))))).trans (w2 vs fun j hj => h j (List.mem_append_right _ (List.mem_append_left _ hj)))).trans (w1 vs fun j hj => h j (List.mem_append_left _ hj))⟩⟩⟩⟩⟩⟩
/-- a, b = e and its like -/
theorem rp_tup {S : Type} {Γ : S → List Sl} {te : TE} {g : TG} {m : Mn S α} {Γ' : α → S → List Sl} {js : List Nat} (h : EM K te Γ m) (hg : ∀ x s, GT K g (Γ s) x (Γ' x s) js) : RP (tAsg te g) Γ m Γ' := fun s I F N σ e d D q =>
  h s I F N σ e d _ (R.sat_imp q fun x s' q v I' N' a1 d1 e1 r1 => hg x s' I' F N' σ v e1 d1 r1 _ fun σ' e2 _ => q I' N' σ' a1 d1 e2)
/-- a, b = e1, e2 -/
theorem rp_par {S : Type} {Γ : S → List Sl} {ta : TA} {m : Mn S (α × (β × Unit))} {Γ' : α × (β × Unit) → S → List Sl} (h : AM ta Γ m fun z => [pv K z.1, pv K z.2.1]) (hi : ∀ s, NotOw (Γ s) i) (hj : ∀ x s, NotOw ((Γ s).set i (.im (pv K (x : α)))) j)
    (hΓ : ∀ x y s, ((Γ s).set i (.im (pv K x))).set j (.im (pv K y)) = Γ' (x, (y, ())) s) : RP (tPar i j ta) Γ m Γ' := fun s I F N σ e d D q =>
  h s I F N σ e d _ (R.sat_imp q fun z s' q vs I' N' a1 d1 e1 r1 => by
    obtain ⟨v, _, rfl, r, r1⟩ := all2_c r1
    obtain ⟨w, _, rfl, r', r1⟩ := all2_c r1
    cases all2_n r1
    obtain ⟨x, y, u⟩ := z
    refine ⟨v, w, rfl, q I' N' _ a1 d1 ?_⟩
    rw [show Γ' (x, y, u) s' = ((Γ s').set i (.im (pv K x))).set j (.im (pv K y)) from (hΓ x y s').symm]
    exact (e1.set (p := pv K x) r (hi s')).set (p := pv K y) r' (hj x s'))
end

/-! ### loops -/
section
variable {S α τ τ' ρ β : Type} [Rp α] {Ret : RetT ρ}
def forP {S α τ : Type} : List α → τ → (α → τ → Mn S τ) → Mn S τ
  | [], t, _ => mp t
  | x :: xs, t, b => mb (b x t) fun t' => forP xs t' b
/-- with ways out; a break ends the loop -/
def forC {S α τ ρ β : Type} : List α → τ → (α → τ → Mn S (Ct ρ τ τ)) → Mn S (Ct ρ τ β)
  | [], t, _ => mp (.nx t)
  | x :: xs, t, b => mb (b x t) fun c => match c with
    | .rt y => mp (.rt y)
    | .nx t' => forC xs t' b
    | .br t' => mp (.nx t')
theorem rp_for {wi : TI} {g : TG} {tb : TS} {Γ : S → List Sl} {mx : Mn S (List α)} {t0 : τ} {body : α → τ → Mn S τ} {ΓL : τ → S → List Sl} {Γx : α → τ → S → List Sl} {js : List Nat} (hi : IM K wi Γ mx) (w : ∀ s, Wk (Γ s) (ΓL t0 s)) (hg : ∀ x t s, GT K g (ΓL t s) x (Γx x t s) js)
    (hb : ∀ x t, RP tb (Γx x t) (body x t) ΓL) : RP (tFor wi g tb) Γ (mb mx fun xs => forP xs t0 body) ΓL := fun s I F N σ e d D q =>
  hi s I F N σ e d _ (R.sat_imp (sat_mb.mp q) fun xs s1 q J I1 N1 a1 d1 e1 jt => by
    obtain ⟨I2, N2, x1, x2, x3, x4⟩ := e1.wk (w s1) d1
    refine ⟨fun i m σ' H' => m = xs.length - i ∧ i ≤ xs.length ∧ ∃ (t : τ) (s' : S) (I' N' : Hp), H' = ov N' I' ∧ Ex I2 I' ∧ Dis N' I' ∧ EnvOk I' F N' σ' (ΓL t s') ∧ (forP (xs.drop i) t body s').sat (fun x s' => ∀ I' N' σ', Ex I I' → Dis N' I' → EnvOk I' F N' σ' (ΓL x s') → D.nx σ' (ov N' I')),
      ⟨xs.length, rfl, Nat.zero_le _, t0, s1, I2, N2, x3.symm, Ex.refl I2, x2, x4, q⟩, ?_⟩
    rintro i m σ' H' ⟨rfl, hle, t, s', I', N', rfl, y1, y2, y3, y4⟩
    by_cases hlt : i < xs.length
    · have hx : xs[i]? = some xs[i] := List.getElem?_eq_getElem hlt
      have j1 := (jt I' N' (x1.trans y1) y2).1 i _ hx
      refine .inr ⟨j1.1, fun σ2 H2 => ∃ (t : τ) (s' : S) (I' N' : Hp), H2 = ov N' I' ∧ Ex I2 I' ∧ Dis N' I' ∧ EnvOk I' F N' σ2 (ΓL t s') ∧ (forP (xs.drop (i + 1)) t body s').sat (fun x s' => ∀ I' N' σ', Ex I I' → Dis N' I' → EnvOk I' F N' σ' (ΓL x s') → D.nx σ' (ov N' I')),
        fun σ2 H2 hN => ⟨xs.length - (i + 1), by omega, rfl, hlt, hN⟩, fun v H2 hy => ?_⟩
      obtain ⟨I3, rfl, z1, z2, z3⟩ := j1.2 v H2 hy
      refine hg xs[i] t s' I3 F N' σ' v (y3.up z1) z2 z3 _ fun σ3 e3 _ => ?_
      rw [List.drop_eq_getElem_cons hlt] at y4
      refine hb xs[i] t s' I3 F N' σ3 e3 z2 _ (R.sat_imp (sat_mb.mp y4) fun t' s2 q2 I4 N4 σ4 a4 d4 e4 => ?_)
      exact ⟨t', s2, I4, N4, rfl, (y1.trans z1).trans a4, d4, e4, q2⟩
    · have hi : i = xs.length := by omega
      subst hi
      rw [List.drop_length] at y4
      exact .inl ⟨(jt I' N' (x1.trans y1) y2).2, y4 I' N' σ' ((a1.trans x1).trans y1) y2 y3⟩)
theorem rc_for {wi : TI} {g : TG} {tb : TS} {Γ Γr : S → List Sl} {mx : Mn S (List α)} {t0 : τ} {body : α → τ → Mn S (Ct ρ τ τ)} {ΓL : τ → S → List Sl} {Γb : β → S → List Sl} {Γx : α → τ → S → List Sl} {js : List Nat} (hi : IM K wi Γ mx) (w : ∀ s, Wk (Γ s) (ΓL t0 s)) (hg : ∀ x t s, GT K g (ΓL t s) x (Γx x t s) js)
    (hb : ∀ x t, RC Ret tb (Γx x t) (body x t) Γr ΓL ΓL) : RC Ret (tFor wi g tb) Γ (mb mx fun xs => forC xs t0 body) Γr ΓL Γb := fun s I F N σ e d D q =>
  hi s I F N σ e d _ (R.sat_imp (sat_mb.mp q) fun xs s1 q J I1 N1 a1 d1 e1 jt => by
    obtain ⟨I2, N2, x1, x2, x3, x4⟩ := e1.wk (w s1) d1
    refine ⟨fun i m σ' H' => m = xs.length - i ∧ i ≤ xs.length ∧ ∃ (t : τ) (s' : S) (I' N' : Hp), H' = ov N' I' ∧ Ex I2 I' ∧ Dis N' I' ∧ EnvOk I' F N' σ' (ΓL t s') ∧ (forC (xs.drop i) t body s').sat (CtQ Ret D F Γr ΓL Γb I),
      ⟨xs.length, rfl, Nat.zero_le _, t0, s1, I2, N2, x3.symm, Ex.refl I2, x2, x4, q⟩, ?_⟩
    rintro i m σ' H' ⟨rfl, hle, t, s', I', N', rfl, y1, y2, y3, y4⟩
    by_cases hlt : i < xs.length
    · have hx : xs[i]? = some xs[i] := List.getElem?_eq_getElem hlt
      have j1 := (jt I' N' (x1.trans y1) y2).1 i _ hx
      refine .inr ⟨j1.1, fun σ2 H2 => ∃ (t : τ) (s' : S) (I' N' : Hp), H2 = ov N' I' ∧ Ex I2 I' ∧ Dis N' I' ∧ EnvOk I' F N' σ2 (ΓL t s') ∧ (forC (xs.drop (i + 1)) t body s').sat (CtQ Ret D F Γr ΓL Γb I),
        fun σ2 H2 hN => ⟨xs.length - (i + 1), by omega, rfl, hlt, hN⟩, fun v H2 hy => ?_⟩
      obtain ⟨I3, rfl, z1, z2, z3⟩ := j1.2 v H2 hy
      refine hg xs[i] t s' I3 F N' σ' v (y3.up z1) z2 z3 _ fun σ3 e3 _ => ?_
      rw [List.drop_eq_getElem_cons hlt] at y4
      refine hb xs[i] t s' I3 F N' σ3 e3 z2 _ (R.sat_imp (sat_mb.mp y4) fun c s2 q2 => ?_)
      have ex3 : Ex I I3 := ((a1.trans x1).trans y1).trans z1
      cases c with
      | rt y => exact fun v H4 I4 N4 σ4 a4 e4 r4 => q2 v H4 I4 N4 σ4 (ex3.trans a4) e4 r4
      | nx t' => exact fun I4 N4 σ4 a4 d4 e4 => ⟨t', s2, I4, N4, rfl, (y1.trans z1).trans a4, d4, e4, q2⟩
      | br t' => exact fun I4 N4 σ4 a4 d4 e4 => q2 I4 N4 σ4 (ex3.trans a4) d4 e4
    · have hi : i = xs.length := by omega
      subst hi
      rw [List.drop_length] at y4
      exact .inl ⟨(jt I' N' (x1.trans y1) y2).2, y4 I' N' σ' ((a1.trans x1).trans y1) y2 y3⟩)
/-- while, of so many turns at most -/
def whP {S τ : Type} : Nat → τ → (τ → Mn S Bool) → (τ → Mn S τ) → Mn S τ
  | 0, _, _, _ => mbad
  | n + 1, t, c, b => mb (c t) fun k => mi k (mb (b t) fun t' => whP n t' c b) (mp t)
theorem rp_while {tc : TT} {tb : TS} {Γ : S → List Sl} {n : Nat} {t0 : τ} {mc : τ → Mn S Bool} {body : τ → Mn S τ} {ΓL : τ → S → List Sl} (w : ∀ s, Wk (Γ s) (ΓL t0 s)) (hc : ∀ t, TM tc (ΓL t) (mc t)) (hb : ∀ t, RP tb (ΓL t) (body t) ΓL) :
    RP (tWhile tc tb) Γ (whP n t0 mc body) ΓL := fun s I F N σ e d D q => by
  obtain ⟨I2, N2, x1, x2, x3, x4⟩ := e.wk (w s) d
  refine ⟨fun m σ' H' => ∃ (t : τ) (s' : S) (I' N' : Hp), H' = ov N' I' ∧ Ex I2 I' ∧ Dis N' I' ∧ EnvOk I' F N' σ' (ΓL t s') ∧ (whP m t mc body s').sat (fun x s' => ∀ I' N' σ', Ex I I' → Dis N' I' → EnvOk I' F N' σ' (ΓL x s') → D.nx σ' (ov N' I')),
    ⟨n, t0, s, I2, N2, x3.symm, Ex.refl I2, x2, x4, q⟩, ?_⟩
  rintro m σ' H' ⟨t, s', I', N', rfl, y1, y2, y3, y4⟩
  cases m with
  | zero => exact y4.elim
  | succ m =>
    refine hc t s' I' F N' σ' y3 y2 _ (R.sat_imp (sat_mb.mp y4) fun k s2 q2 I3 N3 a3 d3 e3 => ?_)
    cases k with
    | true =>
      refine ⟨fun σ2 H2 => ∃ (t : τ) (s' : S) (I' N' : Hp), H2 = ov N' I' ∧ Ex I2 I' ∧ Dis N' I' ∧ EnvOk I' F N' σ2 (ΓL t s') ∧ (whP m t mc body s').sat (fun x s' => ∀ I' N' σ', Ex I I' → Dis N' I' → EnvOk I' F N' σ' (ΓL x s') → D.nx σ' (ov N' I')),
        fun σ2 H2 hN => ⟨m, Nat.lt_succ_self m, hN⟩, ?_⟩
      exact hb t s2 I3 F N3 σ' e3 d3 _ (R.sat_imp (sat_mb.mp q2) fun t' s3 q3 I4 N4 σ4 a4 d4 e4 => ⟨t', s3, I4, N4, rfl, (y1.trans a3).trans a4, d4, e4, q3⟩)
    | false => exact q2 I3 N3 σ' ((x1.trans y1).trans a3) d3 e3
/-- .. with ways out -/
def whC {S τ ρ β : Type} : Nat → τ → (τ → Mn S Bool) → (τ → Mn S (Ct ρ τ τ)) → Mn S (Ct ρ τ β)
  | 0, _, _, _ => mbad
  | n + 1, t, c, b => mb (c t) fun k => mi k (mb (b t) fun u => match u with
    | .rt y => mp (.rt y)
    | .nx t' => whC n t' c b
    | .br t' => mp (.nx t')) (mp (.nx t))
theorem rc_while {tc : TT} {tb : TS} {Γ Γr : S → List Sl} {n : Nat} {t0 : τ} {mc : τ → Mn S Bool} {body : τ → Mn S (Ct ρ τ τ)} {ΓL : τ → S → List Sl} {Γb : β → S → List Sl} (w : ∀ s, Wk (Γ s) (ΓL t0 s)) (hc : ∀ t, TM tc (ΓL t) (mc t)) (hb : ∀ t, RC Ret tb (ΓL t) (body t) Γr ΓL ΓL) :
    RC Ret (tWhile tc tb) Γ (whC n t0 mc body) Γr ΓL Γb := fun s I F N σ e d D q => by
  obtain ⟨I2, N2, x1, x2, x3, x4⟩ := e.wk (w s) d
  refine ⟨fun m σ' H' => ∃ (t : τ) (s' : S) (I' N' : Hp), H' = ov N' I' ∧ Ex I2 I' ∧ Dis N' I' ∧ EnvOk I' F N' σ' (ΓL t s') ∧ (whC m t mc body s').sat (CtQ Ret D F Γr ΓL Γb I),
    ⟨n, t0, s, I2, N2, x3.symm, Ex.refl I2, x2, x4, q⟩, ?_⟩
  rintro m σ' H' ⟨t, s', I', N', rfl, y1, y2, y3, y4⟩
  cases m with
  | zero => exact y4.elim
  | succ m =>
    refine hc t s' I' F N' σ' y3 y2 _ (R.sat_imp (sat_mb.mp y4) fun k s2 q2 I3 N3 a3 d3 e3 => ?_)
    cases k with
    | true =>
      refine ⟨fun σ2 H2 => ∃ (t : τ) (s' : S) (I' N' : Hp), H2 = ov N' I' ∧ Ex I2 I' ∧ Dis N' I' ∧ EnvOk I' F N' σ2 (ΓL t s') ∧ (whC m t mc body s').sat (CtQ Ret D F Γr ΓL Γb I),
        fun σ2 H2 hN => ⟨m, Nat.lt_succ_self m, hN⟩, ?_⟩
      refine hb t s2 I3 F N3 σ' e3 d3 _ (R.sat_imp (sat_mb.mp q2) fun u s3 q3 => ?_)
      have ex3 : Ex I I3 := (x1.trans y1).trans a3
      cases u with
      | rt y => exact fun v H4 I4 N4 σ4 a4 e4 r4 => q3 v H4 I4 N4 σ4 (ex3.trans a4) e4 r4
      | nx t' => exact fun I4 N4 σ4 a4 d4 e4 => ⟨t', s3, I4, N4, rfl, (y1.trans a3).trans a4, d4, e4, q3⟩
      | br t' => exact fun I4 N4 σ4 a4 d4 e4 => q3 I4 N4 σ4 (ex3.trans a4) d4 e4
    | false => exact q2 I3 N3 σ' ((x1.trans y1).trans a3) d3 e3
end

/-! ### comprehensions -/
theorem EnvOk.sub {I F : Hp} : ∀ {N : Hp} {σ : L2.St} {Γ : List Sl}, EnvOk I F N σ Γ → ∀ {a : Addr}, N a = none → F a = none
  | _, _, _, .nil, a, h => h
  | _, _, _, .no o e, a, h => EnvOk.sub e h
  | _, _, _, .im q e, a, h => EnvOk.sub e h
  | _, _, _, .ow q d e, a, h => EnvOk.sub e (ov_none h).2
def NoAt (Γ : List Sl) (vs : List Nat) : Prop := vs.all (fun v => match Γ[v]? with | some .no => true | _ => false) = true
theorem NoAt.at {Γ : List Sl} {vs : List Nat} (h : NoAt Γ vs) {v : Nat} (hv : v ∈ vs) : Γ[v]? = some .no := by
  have q := List.all_eq_true.mp h v hv
  cases e : Γ[v]? with
  | none => rw [e] at q; cases q
  | some a =>
    cases a with
    | no => rfl
    | im p => rw [e] at q; cases q
    | ow p => rw [e] at q; cases q
/-- slots of which nothing is known may hold anything -/
theorem EnvOk.ext {I F : Hp} : ∀ {N : Hp} {σ : L2.St} {Γ : List Sl} {σ' : L2.St}, EnvOk I F N σ Γ → σ.length = σ'.length → (∀ i : Nat, Γ[i]? ≠ some Sl.no → σ[i]? = σ'[i]?) → EnvOk I F N σ' Γ
  | _, _, _, σ', .nil, h, _ => by
    cases σ' with
    | nil => exact .nil
    | cons a b => simp at h
  | _, _, _, [], .no o e, h, _ => by simp at h
  | _, _, _, a :: σ', .no o e, h, g => .no a (EnvOk.ext e (by simpa using h) fun i hi => by have q := g (i + 1) (by simpa using hi); simpa using q)
  | _, _, _, [], .im q e, h, _ => by simp at h
  | _, _, _, a :: σ', .im q e, h, g => by
    have q0 := g 0 (by simp)
    have q1 : some _ = a := Option.some.inj q0
    subst q1
    exact .im q (EnvOk.ext e (by simpa using h) fun i hi => by have q := g (i + 1) (by simpa using hi); simpa using q)
  | _, _, _, [], .ow q d e, h, _ => by simp at h
  | _, _, _, a :: σ', .ow q d e, h, g => by
    have q0 := g 0 (by simp)
    have q1 : some _ = a := Option.some.inj q0
    subst q1
    exact .ow q d (EnvOk.ext e (by simpa using h) fun i hi => by have q := g (i + 1) (by simpa using hi); simpa using q)
theorem EnvOk.rewipe {I F N : Hp} {σ σ' : L2.St} {Γ : List Sl} {vs : List Nat} (e : EnvOk I F N σ Γ) (h : NoAt Γ vs) (w : wipe σ vs = wipe σ' vs) : EnvOk I F N σ' Γ := by
  refine e.ext ?_ fun i hi => ?_
  · have l := congrArg List.length w
    rw [wipe_length, wipe_length] at l
    exact l
  · have hv : i ∉ vs := fun q => hi (h.at q)
    have g := congrArg (fun z : L2.St => z[i]?) w
    have g2 : (wipe σ vs)[i]? = (wipe σ' vs)[i]? := g
    rw [wipe_get, wipe_get, if_neg hv, if_neg hv] at g2
    exact g2
section
variable {S α β : Type} [Rp α] [Rp β]
def cmGo {S α β : Type} : List α → List β → (α → Mn S Bool) → (α → Mn S β) → Mn S (List β)
  | [], acc, _, _ => mp acc
  | x :: xs, acc, c, f => mb (c x) fun k => mi k (mb (f x) fun y => cmGo xs (acc ++ [y]) c f) (cmGo xs acc c f)
/-- [f(x) for x in xs if c(x)] -/
def cmP {S α β : Type} (xs : List α) (c : α → Mn S Bool) (f : α → Mn S β) : Mn S (List β) := mb (mc (decide (xs.length ≤ 16000000)) ()) fun _ => cmGo xs [] c f
theorem em_lc {wi : TI} {g : TG} {tt : TT} {te : TE} {vs : List Nat} {Γ : S → List Sl} {mx : Mn S (List α)} {c : α → Mn S Bool} {f : α → Mn S β} {Γx : α → S → List Sl} {js : List Nat} (hi : IM K wi Γ mx) (hv : ∀ s, NoAt (Γ s) vs)
    (hg : ∀ x s, GT K g (Γ s) x (Γx x s) js) (hj : js.all (fun j => vs.contains j) = true) (hc : ∀ x, TM tt (Γx x) (c x)) (hf : ∀ x, EM K te (Γx x) (f x)) (wb : ∀ x s, Wk (Γx x s) (Γ s)) : EM K (tLc wi g tt te vs) Γ (mb mx fun xs => cmP xs c f) := fun s I F N σ e d Q q =>
  hi s I F N σ e d _ (R.sat_imp (sat_mb.mp q) fun xs s1 q J I1 N1 a1 d1 e1 jt => by
    obtain ⟨hlen, q⟩ := sat_mc.mp (sat_mb.mp q)
    have hlen := of_decide_eq_true hlen
    intro D hD
    obtain ⟨hD1, hD2⟩ := ov_none hD
    have hDF : F D = none := e1.sub hD1
    have hjs : ∀ j ∈ js, j ∈ vs := fun j hj' => by simpa using List.all_eq_true.mp hj j hj'
    refine ⟨fun i m H' => m = xs.length - i ∧ i ≤ xs.length ∧ ∃ (s' : S) (I' N' : Hp) (acc : List β) (us : List V), H' = ov (ov (sing D (.lst us)) N') I' ∧ Ex I1 I' ∧ Dis N' I' ∧ I' D = none ∧ N' D = none ∧ EnvOk I' F N' σ (Γ s') ∧ Rs K acc I' us ∧ acc.length ≤ i ∧
      (cmGo (xs.drop i) acc c f s').sat (fun x s' => ∀ v I' M', Ex I I' → Dis M' I' → EnvOk I' F M' σ (Γ s') → Rp.r K x I' v → Q v (ov M' I')),
      ⟨xs.length, rfl, Nat.zero_le _, s1, I1, N1, [], [], by rw [upd_sing, ov_assoc], Ex.refl I1, d1, hD2, hD1, e1, .nil, Nat.le_refl _, q⟩, ?_⟩
    rintro i m H' ⟨rfl, hle, s', I', N', acc, us, rfl, y1, y2, y3, y4, y5, y6, y7, y8⟩
    have dG : Dis (sing D (.lst us)) N' := dis_sing y4
    have dGI : Dis (ov (sing D (.lst us)) N') I' := dis_ov (dis_sing y3) y2
    by_cases hlt : i < xs.length
    · have hx : xs[i]? = some xs[i] := List.getElem?_eq_getElem hlt
      have j1 := (jt I' _ y1 dGI).1 i _ hx
      refine .inr ⟨j1.1, fun H' => ∃ (s' : S) (I' N' : Hp) (acc : List β) (us : List V), H' = ov (ov (sing D (.lst us)) N') I' ∧ Ex I1 I' ∧ Dis N' I' ∧ I' D = none ∧ N' D = none ∧ EnvOk I' F N' σ (Γ s') ∧ Rs K acc I' us ∧ acc.length ≤ i + 1 ∧
        (cmGo (xs.drop (i + 1)) acc c f s').sat (fun x s' => ∀ v I' M', Ex I I' → Dis M' I' → EnvOk I' F M' σ (Γ s') → Rp.r K x I' v → Q v (ov M' I')), fun H' hN => ⟨xs.length - (i + 1), by omega, rfl, hlt, hN⟩, fun v H2 hy => ?_⟩
      obtain ⟨I3, rfl, z1, z2, z3⟩ := j1.2 v H2 hy
      have ew : EnvOk I3 (ov (sing D (.lst us)) F) (ov (sing D (.lst us)) N') (wipe σ vs) (Γ s') := by
        have e3 := (y5.up z1).frame dG
        refine e3.rewipe (hv s') ?_
        rw [wipe_wipe]
      refine hg xs[i] s' I3 _ _ _ v ew z2 z3 _ fun σ3 e3 w3 => ?_
      have w4 : wipe σ3 vs = wipe σ vs := by rw [w3 vs hjs, wipe_wipe]
      refine ⟨w4, ?_⟩
      rw [List.drop_eq_getElem_cons hlt] at y8
      refine hc xs[i] s' I3 _ _ σ3 e3 z2 _ (R.sat_imp (sat_mb.mp y8) fun k s2 q2 I4 N4 a4 d4 e4 => ?_)
      have back : ∀ {I5 M5 : Hp} {s5 : S}, EnvOk I5 (ov (sing D (.lst us)) F) M5 σ3 (Γx xs[i] s5) → Dis M5 I5 → ∃ I6 N6, Ex I5 I6 ∧ ov M5 I5 = ov (ov (sing D (.lst us)) N6) I6 ∧ Dis N6 I6 ∧ I6 D = none ∧ N6 D = none ∧ EnvOk I6 F N6 σ (Γ s5) := fun {I5 M5 s5} e5 d5 => by
        obtain ⟨I6, M6, x1, x2, x3, x4⟩ := e5.wk (wb xs[i] s5) d5
        obtain ⟨N6, h1, h2, h3⟩ := x4.unframe (dis_sing hDF)
        subst h1
        obtain ⟨x5, x6⟩ := dis_ov_l x2
        exact ⟨I6, N6, x1, x3.symm, x6, x5.some_l sing_same, h2.some_l sing_same, h3.rewipe (hv s5) w4⟩
      cases k with
      | true =>
        show te σ3 (ov N4 I4) _
        refine hf xs[i] s2 I4 _ N4 σ3 e4 d4 _ (R.sat_imp (sat_mb.mp q2) fun y s3 q3 u I5 N5 a5 d5 e5 r5 => ?_)
        obtain ⟨I6, N6, b1, b2, b3, b4, b5, b6⟩ := back e5 d5
        refine ⟨us, ?_, ?_, s3, I6, N6, acc ++ [y], us ++ [u], ?_, ((((y1.trans z1).trans a4).trans a5).trans b1), b3, b4, b5, b6, (rs_up (((z1.trans a4).trans a5).trans b1) y6).append (.cons (Rp.up b1 r5) .nil), by rw [List.length_append]; simpa using y7, q3⟩
        · rw [b2]; exact ov_l (ov_l sing_same)
        · rw [← y6.length]
          exact Nat.lt_of_le_of_lt (Nat.le_trans y7 (Nat.le_trans (Nat.le_of_lt hlt) hlen)) (by decide)
        · rw [b2, upd_own]
      | false =>
        obtain ⟨I6, N6, b1, b2, b3, b4, b5, b6⟩ := back e4 d4
        exact ⟨s2, I6, N6, acc, us, b2, ((y1.trans z1).trans a4).trans b1, b3, b4, b5, b6, rs_up ((z1.trans a4).trans b1) y6, by omega, q2⟩
    · have hi : i = xs.length := by omega
      subst hi
      rw [List.drop_length] at y8
      refine .inl ⟨(jt I' _ y1 dGI).2, ?_⟩
      have dG2 : Dis (sing D (.lst us)) I' := dis_sing y3
      have e9 : ov (ov (sing D (.lst us)) N') I' = ov N' (ov (sing D (.lst us)) I') := by rw [ov_comm dG, ov_assoc]
      rw [e9]
      exact y8 _ _ N' ((a1.trans y1).trans (ex_ov dG2)) (dis_ov_r dG.symm y2) (y5.up (ex_ov dG2)) ⟨D, us, rfl, ov_l sing_same, rs_up (ex_ov dG2) y6⟩)
theorem tm_yes {Γ : S → List Sl} : TM tYes Γ (mp true) := fun s I F N σ e d Q q => q I N (Ex.refl I) d e
end

/-! ### a def's body keeps its promise -/
def tagL : List V → List Sl → List Sl
  | v :: vs, .ow P :: Γ => .ow (P.at v) :: tagL vs Γ
  | _ :: vs, a :: Γ => a :: tagL vs Γ
  | _, Γ => Γ
def tagR : List V → List Sl → List Sl
  | v :: vs, .ow P :: Γ => .ow (P.at v) :: tagR vs Γ
  | _ :: vs, .im _ :: Γ => .no :: tagR vs Γ
  | _ :: vs, a :: Γ => a :: tagR vs Γ
  | _, Γ => Γ
theorem EnvOk.tag {I F : Hp} : ∀ {vs : List V} {N : Hp} {Γ : List Sl}, EnvOk I F N (vs.map some) Γ → EnvOk I F N (vs.map some) (tagL vs Γ)
  | [], _, _, .nil => .nil
  | v :: vs, N, Γ, e => by
    have e1 : EnvOk I F N (some v :: vs.map some) Γ := e
    show EnvOk I F N (some v :: vs.map some) (tagL (v :: vs) Γ)
    cases e1 with
    | no o e2 => exact .no _ (EnvOk.tag e2)
    | im q e2 => exact .im q (EnvOk.tag e2)
    | ow q d e2 => exact .ow ⟨rfl, q⟩ d (EnvOk.tag e2)
theorem EnvOk.untag {S : Type} {s s' : S} {I I' F F' : Hp} (x : Ex I I') {k : Nat} : ∀ {As : List (Ar S)} {vs : List V} {N N' : Hp} {σ' : L2.St}, EnvOk I F N (vs.map some) (As.map (Ar.sl s)) → EnvOk I' F' N' σ' (tagR vs (As.map (Ar.sl s')) ++ List.replicate k .no) → EnvOk I' F' N' (vs.map some) (As.map (Ar.sl s'))
  | [], [], _, _, _, _, e' => by
    cases EnvOk.nos (k := k) e'
    exact .nil
  | [], _ :: _, _, _, _, e, _ => by cases e
  | .im p :: As, v :: vs, _, _, σ', e, e' => by
    have e1 : EnvOk I F _ (some v :: vs.map some) (.im p :: As.map (Ar.sl s)) := e
    have e2 : EnvOk I' F' _ σ' (.no :: (tagR vs (As.map (Ar.sl s')) ++ List.replicate k .no)) := e'
    cases e1 with
    | im q e1 =>
      cases e2 with
      | no o e2 => exact .im (p.up x q) (EnvOk.untag x e1 e2)
  | .im p :: As, [], _, _, _, e, _ => by cases e
  | .ow P :: As, [], _, _, _, e, _ => by cases e
  | .ow P :: As, v :: vs, _, _, σ', e, e' => by
    have e1 : EnvOk I F _ (some v :: vs.map some) (.ow (P s) :: As.map (Ar.sl s)) := e
    have e2 : EnvOk I' F' _ σ' (.ow ((P s').at v) :: (tagR vs (As.map (Ar.sl s')) ++ List.replicate k .no)) := e'
    cases e1 with
    | ow q d e1 =>
      cases e2 with
      | ow q2 d2 e2 =>
        obtain ⟨q3, q4⟩ := q2
        cases q3
        exact .ow q4 d2 (EnvOk.untag x e1 e2)
theorem prom_ok {S ρ ι : Type} {Ret : RetT ρ} {As : ι → List (Ar S)} {m : ι → Mn S ρ} {t : TS} {N : List Str} {vs : List V} {H : Hp} {Q : VK} {E : XK} {n : Nat} (k : Nat) (hA : ∀ i, (As i).length = n) (hk : N.length - n = k)
    (h : ∀ i, RN Ret t (fun s => tagL vs ((As i).map (Ar.sl s)) ++ List.replicate k .no) (m i) (fun s => tagR vs ((As i).map (Ar.sl s)) ++ List.replicate k .no)) (p : Prom Ret As m vs H Q E) : t { nx := fun _ H' => Q .non H', rt := Q } (L2.start N vs) H := by
  have hl := prom_len hA vs H Q E p
  obtain ⟨i, s, I, F, M, rfl, d, e, q⟩ := p
  have e0 : L2.start N vs = vs.map some ++ List.replicate k none := by unfold L2.start; rw [hl, hk]
  rw [e0]
  exact h i s I F M _ (e.tag.app k) d _ (fun σ H q => q) (R.sat_imp q fun x s' q v H' I' N' σ' a1 e1 r1 => q v H' I' N' a1 (e.untag a1 e1) r1)
end
end Mir

/-! Mir6: owned things made, stored, changed; built-ins; calls by names -/
namespace Mir
open PySem L2
section
variable {K : PySem.W.Frag}
/-! ### owned things -/
section
variable {S ρ α β ζ τ : Type} [Rp α] [Rp β] {Γ : S → List Sl} {te ta tb : TE} {tl : TA} {xs : List α}
/-- handed back as owned: so it may be kept as it is -/
theorem em_own {m : Mn S α} {P : α → OP} (h : EO te Γ m (rOw P)) (fr : ∀ x I a Ma, Dis Ma I → (P x).r I a Ma → Rp.r K x (ov Ma I) (.ref a)) : EM K te Γ m := fun s I F N σ e d Q q => h s I F N σ e d Q (R.sat_imp q fun x s' q v H' I' N' a1 e1 ⟨a, Ma, h1, h2, h3, h4, h5⟩ => by
  obtain ⟨y1, y2⟩ := dis_ov_l h3
  subst h1 h4
  have e9 : ov (ov Ma N') I' = ov N' (ov Ma I') := by rw [ov_comm h2, ov_assoc]
  rw [e9]
  exact q _ _ N' (a1.trans (ex_ov y1)) (dis_ov_r h2.symm y2) (e1.up (ex_ov y1)) (fr x I' a Ma y1 h5))
theorem em_ownL {m : Mn S (List α)} (h : EO te Γ m (rOw (ol K))) : EM K te Γ m := em_own h fun x I a Ma d q => fr_ol I a Ma d q
/-- a new list -/
theorem new_list {I N : Hp} {p : Addr} {vs : List V} (d : Dis N I) (hp : ov N I p = none) (r : Rs K xs I vs) : rOw (ol K) xs (.ref p) I N (upd (ov N I) p (.lst vs)) := by
  obtain ⟨h1, h2⟩ := ov_none hp
  exact ⟨p, sing p (.lst vs), rfl, dis_sing h1, dis_ov (dis_sing h2) d, by rw [upd_sing, ov_assoc], vs, rfl, r⟩
theorem eo_lst (h : ∀ s, AP tl (Γ s) (xs.map (pv K))) (hl : xs.length ≤ 1000 := by decide) : EO (tLst tl) Γ (mp xs) (rOw (ol K)) := fun s I F N σ e d Q q => h s I F N σ e d _ fun vs I1 a1 d1 r1 => by
  have r := rs_of r1
  exact ⟨by rw [← r.length]; exact sz2 hl, fun p hp => q _ _ I1 N a1 (e.up a1) (new_list d1 hp r)⟩
theorem eo_lstM {m : Mn S ζ} {f : ζ → List α} (h : AM tl Γ m fun z => (f z).map (pv K)) (hl : ∀ z, (f z).length ≤ 1000 := by intro _; decide) : EO (tLst tl) Γ (mb m fun z => mp (f z)) (rOw (ol K)) := fun s I F N σ e d Q q => h s I F N σ e d _ (R.sat_imp (sat_mb.mp q) fun z s1 q vs I1 N1 a1 d1 e1 r1 => by
  have r := rs_of r1
  exact ⟨by rw [← r.length]; exact sz2 (hl z), fun p hp => q _ _ I1 N1 a1 e1 (new_list d1 hp r)⟩)
/-- a list of written values of several types -/
theorem eo_hl {x : ρ} {P : ρ → OP} {ps : List PV} {us : List V} (h : ∀ s, AP tl (Γ s) ps) (hu : ∀ I vs, All2 (fun (p : PV) v => p.r I v) ps vs → vs = us) (hP : P x = hl us) (hl : us.length ≤ 1000 := by decide) : EO (tLst tl) Γ (mp x) (rOw P) := fun s I F N σ e d Q q => h s I F N σ e d _ fun vs I1 a1 d1 r1 => by
  have e1 := hu _ _ r1
  subst e1
  refine ⟨sz2 hl, fun p hp => ?_⟩
  obtain ⟨h1, h2⟩ := ov_none hp
  refine q _ _ I1 N a1 (e.up a1) ⟨p, sing p (.lst vs), rfl, dis_sing h1, dis_ov (dis_sing h2) d1, by rw [upd_sing, ov_assoc], ?_⟩
  rw [hP]
  rfl
theorem eo_hlM {m : Mn S ζ} {f : ζ → ρ} {P : ρ → OP} {ps : ζ → List PV} {us : ζ → List V} (h : AM tl Γ m ps) (hu : ∀ z I vs, All2 (fun (p : PV) v => p.r I v) (ps z) vs → vs = us z) (hP : ∀ z, P (f z) = Mir.hl (us z)) (hl : ∀ z, (us z).length ≤ 1000 := by intro _; decide) : EO (tLst tl) Γ (mb m fun z => mp (f z)) (rOw P) := fun s I F N σ e d Q q => h s I F N σ e d _ (R.sat_imp (sat_mb.mp q) fun z s1 q vs I1 N1 a1 d1 e1 r1 => by
  have e2 := hu z _ _ r1
  subst e2
  refine ⟨sz2 (hl z), fun p hp => ?_⟩
  obtain ⟨h1, h2⟩ := ov_none hp
  refine q _ _ I1 N1 a1 e1 ⟨p, sing p (.lst _), rfl, dis_sing h1, dis_ov (dis_sing h2) d1, by rw [upd_sing, ov_assoc], ?_⟩
  rw [hP]
  rfl)
/-- x = e, e something owned -/
theorem rp_take {i : Nat} {m : Mn S ρ} {P : ρ → OP} {Γ' : ρ → S → List Sl} (h : EO te Γ m (rOw P)) (hn : ∀ s, NotOw (Γ s) i) (hl : ∀ s, i < (Γ s).length) (hΓ : ∀ x s, (Γ s).set i (.ow (P x)) = Γ' x s) : RP (tAsg te (gName i)) Γ m Γ' := fun s I F N σ e d D q =>
  h s I F N σ e d _ (R.sat_imp q fun x s' q v H' I' N' a1 e1 ⟨a, Ma, h1, h2, h3, h4, h5⟩ => by
    subst h1 h4
    refine q I' _ _ a1 h3 ?_
    rw [← hΓ]
    exact e1.take h5 (hn s') (hl s') h2)
/-- .. and from there on it is the state -/
def mrun {S α : Type} (s : S) (m : Mn S α) : Mn Unit α := fun _ => match m s with
  | .ok a _ => .ok a ()
  | .bad => .bad
theorem sat_mrun {S α : Type} {s : S} {m : Mn S α} {Q : α → Unit → Prop} : (mrun s m ()).sat Q ↔ (m s).sat fun a _ => Q a () := by
  unfold mrun
  cases m s <;> exact Iff.rfl
section
variable {Γ0 : Unit → List Sl} {Γ2 : S → List Sl} {i : Nat} {m : Mn Unit S} {P : S → OP} {t2 : TS} {Ret : RetT ρ}
theorem op_take (h : EO te Γ0 m (rOw P)) (hn : NotOw (Γ0 ()) i) (hl : i < (Γ0 ()).length) (hΓ : ∀ b, (Γ0 ()).set i (.ow (P b)) = Γ2 b) {I F N : Hp} {σ : L2.St} (e : EnvOk I F N σ (Γ0 ())) (d : Dis N I) {D : Ends} {Q : S → Unit → Prop} (q : (m ()).sat Q) (k : ∀ b I1 N1 σ1, Ex I I1 → Dis N1 I1 → EnvOk I1 F N1 σ1 (Γ2 b) → Q b () → t2 D σ1 (ov N1 I1)) : tSeq (tAsg te (gName i)) t2 D σ (ov N I) :=
  h () I F N σ e d _ (R.sat_imp q fun b s' q v H' I' N' a1 e1 ⟨a, Ma, h1, h2, h3, h4, h5⟩ => by
    subst h1 h4
    refine k b I' _ _ a1 h3 ?_ q
    rw [← hΓ]
    exact e1.take h5 hn hl h2)
theorem rt_open {Γr : Unit → List Sl} {m2 : Mn S ρ} (h : EO te Γ0 m (rOw P)) (hn : NotOw (Γ0 ()) i) (hl : i < (Γ0 ()).length) (hΓ : ∀ b, (Γ0 ()).set i (.ow (P b)) = Γ2 b) (h2 : RT Ret t2 Γ2 m2 fun _ => Γr ()) : RT Ret (tSeq (tAsg te (gName i)) t2) Γ0 (mb m fun b => mrun b m2) Γr := fun s I F N σ e d D q =>
  op_take h hn hl hΓ e d (sat_mb.mp q) fun b I1 N1 σ1 a1 d1 e1 q => h2 b I1 F N1 σ1 e1 d1 D (R.sat_imp (sat_mrun.mp q) fun y s2 q v H2 I2 N2 σ2 a2 e2 r2 => q v H2 I2 N2 σ2 (a1.trans a2) e2 r2)
theorem rp_open {Γ' : τ → Unit → List Sl} {m2 : Mn S τ} (h : EO te Γ0 m (rOw P)) (hn : NotOw (Γ0 ()) i) (hl : i < (Γ0 ()).length) (hΓ : ∀ b, (Γ0 ()).set i (.ow (P b)) = Γ2 b) (h2 : RP t2 Γ2 m2 fun x _ => Γ' x ()) : RP (tSeq (tAsg te (gName i)) t2) Γ0 (mb m fun b => mrun b m2) Γ' := fun s I F N σ e d D q =>
  op_take h hn hl hΓ e d (sat_mb.mp q) fun b I1 N1 σ1 a1 d1 e1 q => h2 b I1 F N1 σ1 e1 d1 D (R.sat_imp (sat_mrun.mp q) fun y s2 q I2 N2 σ2 a2 d2 e2 => q I2 N2 σ2 (a1.trans a2) d2 e2)
theorem rc_open {β : Type} {Γr : Unit → List Sl} {Γ' : τ → Unit → List Sl} {Γb : β → Unit → List Sl} {m2 : Mn S (Ct ρ τ β)} (h : EO te Γ0 m (rOw P)) (hn : NotOw (Γ0 ()) i) (hl : i < (Γ0 ()).length) (hΓ : ∀ b, (Γ0 ()).set i (.ow (P b)) = Γ2 b) (h2 : RC Ret t2 Γ2 m2 (fun _ => Γr ()) (fun x _ => Γ' x ()) fun x _ => Γb x ()) : RC Ret (tSeq (tAsg te (gName i)) t2) Γ0 (mb m fun b => mrun b m2) Γr Γ' Γb := fun s I F N σ e d D q =>
  op_take h hn hl hΓ e d (sat_mb.mp q) fun b I1 N1 σ1 a1 d1 e1 q => h2 b I1 F N1 σ1 e1 d1 D (R.sat_imp (sat_mrun.mp q) fun c s2 q => by
    cases c with
    | rt x => exact fun v H2 I2 N2 σ2 a2 e2 r2 => q v H2 I2 N2 σ2 (a1.trans a2) e2 r2
    | nx x => exact fun I2 N2 σ2 a2 d2 e2 => q I2 N2 σ2 (a1.trans a2) d2 e2
    | br x => exact fun I2 N2 σ2 a2 d2 e2 => q I2 N2 σ2 (a1.trans a2) d2 e2)
end

/-! ### what is owned, read: an expression of a written type -/
def noOw (Γ : List Sl) : Bool := Γ.all fun a => !isOw a
theorem EnvOk.noOw {I F : Hp} : ∀ {N : Hp} {σ : L2.St} {Γ : List Sl}, EnvOk I F N σ Γ → Mir.noOw Γ = true → N = F
  | _, _, _, .nil, _ => rfl
  | _, _, _, .no o e, h => EnvOk.noOw e h
  | _, _, _, .im q e, h => EnvOk.noOw e h
  | _, _, _, .ow q d e, h => by cases h
theorem EnvOk.subF {I F : Hp} : ∀ {N : Hp} {σ : L2.St} {Γ : List Sl}, EnvOk I F N σ Γ → ∀ {a : Addr} {o : HO}, F a = some o → N a = some o
  | _, _, _, .nil, a, o, h => h
  | _, _, _, .no _ e, a, o, h => EnvOk.subF e h
  | _, _, _, .im q e, a, o, h => EnvOk.subF e h
  | _, _, _, .ow q d e, a, o, h => by
    have h1 := EnvOk.subF e h
    rw [ov_r (d.some_r h1)]
    exact h1
theorem bor {I F N : Hp} {σ : L2.St} {Γs Γ0 : List Sl} (e : EnvOk I F N σ Γs) (d : Dis N I) (w : Wk Γs Γ0) (n : noOw Γ0 = true) : ∃ I1, Dis F I1 ∧ EnvOk I1 F F σ Γ0 ∧ ov F I1 = ov N I ∧ (∀ I2, Ex I1 I2 → Dis F I2 → ∃ I3, Ex I I3 ∧ Dis N I3 ∧ ov N I3 = ov F I2) := by
  obtain ⟨I1, N1, x1, x2, x3, x4⟩ := e.wk w d
  cases x4.noOw n
  refine ⟨I1, x2, x4, x3, fun I2 a2 d2 => ⟨fun a => match N a with
    | some _ => none
    | none => I2 a, fun a o h => ?_, fun a => ?_, ?_⟩⟩
  · have hN := d.some_r h
    show (match N a with | some _ => none | none => I2 a) = some o
    rw [hN]
    exact a2 a o (x1 a o h)
  · cases hN : N a with
    | none => exact .inl rfl
    | some o =>
      refine .inr ?_
      show (match N a with | some _ => none | none => I2 a) = none
      rw [hN]
  · funext a
    cases hN : N a with
    | none =>
      rw [ov_r hN]
      show (match N a with | some _ => none | none => I2 a) = _
      rw [hN, ov_r (e.sub hN)]
    | some o =>
      rw [ov_l hN]
      cases hF : F a with
      | some u =>
        rw [ov_l hF]
        have := e.subF hF
        rw [hN] at this
        exact this
      | none =>
        rw [ov_r hF]
        have h1 : ov F I1 a = ov N I a := by rw [x3]
        rw [ov_l hN, ov_r hF] at h1
        exact (a2 a o h1).symm
theorem em_bor [Sc α] {Γ0 : List Sl} {m0 : Mn Unit α} (w : ∀ s, Wk (Γ s) Γ0) (n : noOw Γ0 = true) (h : EM K te (fun _ : Unit => Γ0) m0) : EM K te Γ (mu m0) := fun s I F N σ e d Q q => by
  obtain ⟨I1, x1, x2, x3, x4⟩ := bor e d (w s) n
  rw [← x3]
  refine h () I1 F F σ x2 x1 Q (R.sat_imp (sat_mu.mp q) fun x _ q v I2 N2 a2 d2 e2 r2 => ?_)
  cases e2.noOw n
  obtain ⟨I3, y1, y2, y3⟩ := x4 I2 a2 d2
  rw [← y3]
  exact q v I3 N y1 y2 (e.up y1) (Sc.eq.mpr (Sc.eq.mp r2))
theorem tm_bor {tt : TT} {Γ0 : List Sl} {m0 : Mn Unit Bool} (w : ∀ s, Wk (Γ s) Γ0) (n : noOw Γ0 = true) (h : TM tt (fun _ : Unit => Γ0) m0) : TM tt Γ (mu m0) := fun s I F N σ e d Q q => by
  obtain ⟨I1, x1, x2, x3, x4⟩ := bor e d (w s) n
  rw [← x3]
  refine h () I1 F F σ x2 x1 Q (R.sat_imp (sat_mu.mp q) fun x _ q I2 N2 a2 d2 e2 => ?_)
  cases e2.noOw n
  obtain ⟨I3, y1, y2, y3⟩ := x4 I2 a2 d2
  rw [← y3]
  exact q I3 N y1 y2 (e.up y1)
theorem ep_bor [Sc α] {Γ1 Γ0 : List Sl} {x : α} (w : Wk Γ1 Γ0) (n : noOw Γ0 = true) (h : EP te Γ0 (pv K x)) : EP te Γ1 (pv K x) := fun I F N σ e d Q q => by
  obtain ⟨I1, x1, x2, x3, x4⟩ := bor e d w n
  rw [← x3]
  refine h I1 F F σ x2 x1 Q fun v I2 a2 d2 r2 => ?_
  obtain ⟨I3, y1, y2, y3⟩ := x4 I2 a2 d2
  rw [← y3]
  exact q v I3 y1 y2 (Sc.eq.mpr (Sc.eq.mp r2))
theorem tp_bor {tt : TT} {Γ1 Γ0 : List Sl} {b : Bool} (w : Wk Γ1 Γ0) (n : noOw Γ0 = true) (h : TP tt Γ0 b) : TP tt Γ1 b := fun I F N σ e d Q q => by
  obtain ⟨I1, x1, x2, x3, x4⟩ := bor e d w n
  rw [← x3]
  refine h I1 F F σ x2 x1 Q fun I2 a2 d2 => ?_
  obtain ⟨I3, y1, y2, y3⟩ := x4 I2 a2 d2
  rw [← y3]
  exact q I3 y1 y2

/-! ### an owned list changes -/
/-- what a slot owns changes in place: j the slot -/
theorem own_upd {P' : OP} {I F N I' N' : Hp} {Γs : List Sl} {σ : L2.St} {j : Nat} {a : Addr} {vs us : List V} (e : EnvOk I F N σ Γs) (d : Dis N I) {P : OP} (hj : Γs[j]? = some (.ow P)) (hσ : σ[j]? = some (some (.ref a))) (hP : ∀ I a Ma, P.r I a Ma → ∃ vs, Ma = sing a (.lst vs)) (hP' : P'.r I a (sing a (.lst us))) :
    ∃ N', upd (ov N I) a (.lst us) = ov N' I ∧ Dis N' I ∧ EnvOk I F N' σ (Γs.set j (.ow P')) := by
  obtain ⟨a', Ma, M', h1, h2, h3, h4, h5, _⟩ := e.foc hj
  rw [hσ] at h1
  cases h1
  obtain ⟨ws, hw⟩ := hP _ _ _ h2
  subst hw h4
  obtain ⟨y1, y2⟩ := dis_ov_l d
  have z : Dis (sing a (.lst us)) I := dis_sing (y1.some_l sing_same)
  exact ⟨_, upd_own, dis_ov z y2, h5 I P' _ (Ex.refl I) (dis_sing (h3.some_l sing_same)) hP'⟩
theorem own_at {I F N : Hp} {Γs : List Sl} {σ : L2.St} {j : Nat} (e : EnvOk I F N σ Γs) (hj : Γs[j]? = some (.ow (ol K xs))) : ∃ a vs, σ[j]? = some (some (.ref a)) ∧ N a = some (.lst vs) ∧ Rs K xs I vs := by
  obtain ⟨a, Ma, M', h1, ⟨vs, h2, h3⟩, _, h4, _⟩ := e.foc hj
  exact ⟨a, vs, h1, by rw [h4, h2]; exact ov_l sing_same, h3⟩
theorem ol_sing : ∀ I a Ma, (ol K xs).r I a Ma → ∃ vs, Ma = sing a (.lst vs) := fun I a Ma ⟨vs, h, _⟩ => ⟨vs, h⟩
theorem sz16 {n : Nat} (h : n ≤ 16000000) : n < sizeLine := Nat.lt_of_le_of_lt h (by decide)
theorem sz16' {n : Nat} (h : n ≤ 16000000) : n ≤ sizeLine := Nat.le_of_lt (sz16 h)
def lenOk (n : Nat) : Bool := decide (n ≤ 16000000)
/-- xs.append(e) -/
theorem rp_app {j : Nat} {m : Mn S α} {Γ' : List α → S → List Sl} (hj : ∀ s, (Γ s)[j]? = some (.ow (ol K xs))) (h : EM K te Γ m) (hΓ : ∀ ys s, (Γ s).set j (.ow (ol K ys)) = Γ' ys s) : RP (tDrop (tBM K "list" rAppend (tVar j) (tCons te tNil))) Γ (mb m fun x => mc (lenOk xs.length) (xs ++ [x])) Γ' := fun s I F N σ e d D q => by
  obtain ⟨a, vs, h1, h2, h3⟩ := own_at e (hj s)
  refine ⟨_, h1, .inl ⟨rfl, vs, SqL.of (ov_l h2)⟩, h s I F N σ e d _ (R.sat_imp (sat_mb.mp q) fun x s1 q v I1 N1 a1 d1 e1 r1 => ?_)⟩
  obtain ⟨c, q⟩ := sat_mc.mp q
  have c := of_decide_eq_true c
  obtain ⟨a', us, h1', h2', h3'⟩ := own_at e1 (hj s1)
  rw [h1] at h1'
  cases h1'
  refine ⟨a, us, v, rfl, rfl, ov_l h2', sz16 (by rw [← h3'.length]; exact c), ?_⟩
  obtain ⟨N2, x1, x2, x3⟩ := own_upd (P' := ol K (xs ++ [x])) (us := us ++ [v]) (vs := us) (I' := I1) (N' := N1) e1 d1 (hj s1) h1 ol_sing ⟨_, rfl, h3'.append (.cons r1 .nil)⟩
  rw [x1]
  exact q I1 N2 σ a1 x2 (by rw [← hΓ]; exact x3)
/-- xs[i] = e -/
theorem rp_seti {j : Nat} {m : Mn S α} {mi' : Mn S Int} {Γ' : List α → S → List Sl} (hj : ∀ s, (Γ s)[j]? = some (.ow (ol K xs))) (h : EM K te Γ m) (h2 : EM K tb Γ mi') (hΓ : ∀ ys s, (Γ s).set j (.ow (ol K ys)) = Γ' ys s) : RP (tAsg te (gSub (tVar j) tb rSetL)) Γ (mb m fun x => mb mi' fun i => mo ((ixN xs.length i).map fun k => xs.set k x)) Γ' := fun s I F N σ e d D q =>
  h s I F N σ e d _ (R.sat_imp (sat_mb.mp q) fun x s1 q v I1 N1 a1 d1 e1 r1 => by
    obtain ⟨a, vs, g1, g2, g3⟩ := own_at e1 (hj s1)
    refine ⟨_, g1, h2 s1 I1 F N1 σ e1 d1 _ (R.sat_imp (sat_mb.mp q) fun i s2 q w I2 N2 a2 d2 e2 r2 => ?_)⟩
    obtain ⟨ys, hy, q⟩ := sat_mo.mp q
    obtain ⟨k, hk, rfl⟩ := Option.map_eq_some_iff.mp hy
    obtain ⟨a', us, g1', g2', g3'⟩ := own_at e2 (hj s2)
    rw [g1] at g1'
    cases g1'
    refine ⟨a, us, i, k, rfl, r2, ov_l g2', by rw [← g3'.length]; exact hk, ?_⟩
    obtain ⟨N3, x1, x2, x3⟩ := own_upd (P' := ol K (xs.set k x)) (us := us.set k v) (vs := us) (I' := I2) (N' := N2) e2 d2 (hj s2) g1 ol_sing ⟨_, rfl, All2.set (F := fun x v => Rp.r K x I2 v) (Rp.up a2 r1) k g3'⟩
    rw [x1]
    exact q I2 N3 σ (a1.trans a2) x2 (by rw [← hΓ]; exact x3))
/-- xs.pop(i), the item thrown away -/
theorem rp_popD {j : Nat} {m : Mn S Int} {Γ' : List α → S → List Sl} (hj : ∀ s, (Γ s)[j]? = some (.ow (ol K xs))) (h : EM K te Γ m) (hΓ : ∀ ys s, (Γ s).set j (.ow (ol K ys)) = Γ' ys s) : RP (tDrop (tBM K "list" rPopAt (tVar j) (tCons te tNil))) Γ (mb m fun i => mo (if decide (-(2 ^ 63) ≤ i ∧ i < 2 ^ 63) = true then (ixN xs.length i).map fun k => xs.eraseIdx k else none)) Γ' := fun s I F N σ e d D q => by
  obtain ⟨a, vs, h1, h2, h3⟩ := own_at e (hj s)
  refine ⟨_, h1, .inl ⟨rfl, vs, SqL.of (ov_l h2)⟩, h s I F N σ e d _ (R.sat_imp (sat_mb.mp q) fun i s1 q v I1 N1 a1 d1 e1 r1 => ?_)⟩
  obtain ⟨ys, hy, q⟩ := sat_mo.mp q
  by_cases c : decide (-(2 ^ 63) ≤ i ∧ i < 2 ^ 63) = true
  · rw [if_pos c] at hy
    have c := of_decide_eq_true c
    obtain ⟨k, hk, rfl⟩ := Option.map_eq_some_iff.mp hy
    obtain ⟨a', us, h1', h2', h3'⟩ := own_at e1 (hj s1)
    rw [h1] at h1'
    cases h1'
    rw [h3'.length] at hk
    obtain ⟨k1, k2, _⟩ := ixN_seq hk
    refine ⟨a, us, i, k, us[k], rfl, by rw [show v = V.int i from r1], ov_l h2', c.1, c.2, k1, List.getElem?_eq_getElem k2, ?_⟩
    obtain ⟨N2, x1, x2, x3⟩ := own_upd (P' := ol K (xs.eraseIdx k)) (us := us.eraseIdx k) (vs := us) (I' := I1) (N' := N1) e1 d1 (hj s1) h1 ol_sing ⟨_, rfl, All2.eraseIdx k h3'⟩
    rw [x1]
    exact q I1 N2 σ a1 x2 (by rw [← hΓ]; exact x3)
  · rw [if_neg c] at hy
    cases hy
/-- an owned list of written values: xs[i] = e, i written; b the state -/
theorem rp_hset {j : Nat} {m : Mn S α} {P : S → OP} {us : S → List V} {i : Int} {k : Nat} {sv : α → V} {f : α → S → S} (hj : ∀ s, (Γ s)[j]? = some (.ow (P s))) (hP : ∀ s I a M, (P s).r I a M → M = sing a (.lst (us s))) (hP' : ∀ x s I a M, (P s).r I a M → (P (f x s)).r I a (sing a (.lst ((us s).set k (sv x))))) (h : EM K te Γ m) (h2 : ∀ s, EP tb (Γ s) (pv K i)) (hk : ∀ s, ixN (us s).length i = some k) (hv : ∀ H x v, Rp.r K x H v → v = sv x)
    (hΓ : ∀ x s, (Γ s).set j (.ow (P (f x s))) = Γ (f x s)) : RP (tAsg te (gSub (tVar j) tb rSetL)) Γ (mb m fun x => ms (f x)) fun _ => Γ := fun s I F N σ e d D q =>
  h s I F N σ e d _ (R.sat_imp (sat_mb.mp q) fun x s1 q v I1 N1 a1 d1 e1 r1 => by
    obtain ⟨a, Ma, M', g1, g2, g3, g4, _⟩ := e1.foc (hj s1)
    refine ⟨_, g1, h2 s1 I1 F N1 σ e1 d1 _ fun w I2 a2 d2 r2 => ?_⟩
    have em := hP _ _ _ _ g2
    have e2 := e1.up a2
    refine ⟨a, us s1, i, k, rfl, r2, ?_, hk s1, ?_⟩
    · rw [g4, em]; exact ov_l (ov_l sing_same)
    · obtain ⟨N3, x1, x2, x3⟩ := own_upd (P' := P (f x s1)) (us := (us s1).set k (sv x)) (vs := []) (I' := I2) (N' := N1) e2 d2 (hj s1) g1 (fun I a M q => ⟨_, hP _ _ _ _ q⟩) (hP' x s1 I2 a Ma ((P s1).up a2 g2))
      rw [hv _ _ _ r1, x1]
      exact q I2 N3 σ (a1.trans a2) x2 (by show EnvOk I2 F N3 σ (Γ (f x s1)); rw [← hΓ]; exact x3))
end

/-! ### built-ins -/
section
variable {S α ζ : Type} [Rp α] {Γ1 : List Sl} {Γ : S → List Sl} {te ta tb : TE} {tl : TA} {ps : List PV} {w : PV} {I : Hp}
def Cb (r : List V → Hp → VK → Prop) (ps : List PV) (w : PV) : Prop := ∀ (I N : Hp) (vs : List V) (Q : VK), Dis N I → All2 (fun (p : PV) v => p.r I v) ps vs → (∀ v I', Ex I I' → Dis N I' → w.r I' v → Q v (ov N I')) → r vs (ov N I) Q
theorem ep_cb {r : List V → Hp → VK → Prop} (h : AP tl Γ1 ps) (c : Cb r ps w) : EP (tCB r tl) Γ1 w := fun I F N σ e d Q q => h I F N σ e d _ fun vs I1 a1 d1 r1 => c I1 N vs Q d1 r1 fun v I2 a2 d2 r2 => q v I2 (a1.trans a2) d2 r2
theorem em_cb {r : List V → Hp → VK → Prop} {m : Mn S ζ} {psf : ζ → List PV} {f : ζ → α} (h : AM tl Γ m psf) (c : ∀ z, Cb r (psf z) (pv K (f z))) : EM K (tCB r tl) Γ (mb m fun z => mp (f z)) := fun s I F N σ e d Q q =>
  h s I F N σ e d _ (R.sat_imp (sat_mb.mp q) fun z s1 q vs I1 N1 a1 d1 e1 r1 => c z I1 N1 vs Q d1 r1 fun v I2 a2 d2 r2 => q v I2 N1 (a1.trans a2) d2 (e1.up a2) r2)
theorem em_cbC {r : List V → Hp → VK → Prop} {m : Mn S ζ} {psf : ζ → List PV} {f : ζ → α} {g : ζ → Bool} (h : AM tl Γ m psf) (c : ∀ z, g z = true → Cb r (psf z) (pv K (f z))) : EM K (tCB r tl) Γ (mb m fun z => mc (g z) (f z)) := fun s I F N σ e d Q q =>
  h s I F N σ e d _ (R.sat_imp (sat_mb.mp q) fun z s1 q vs I1 N1 a1 d1 e1 r1 => c z (sat_mc.mp q).1 I1 N1 vs Q d1 r1 fun v I2 a2 d2 r2 => (sat_mc.mp q).2 v I2 N1 (a1.trans a2) d2 (e1.up a2) r2)
/-- one argument -/
theorem cb1 {r : List V → Hp → VK → Prop} {p : PV} (h : ∀ (I N : Hp) (v : V) (Q : VK), Dis N I → p.r I v → (∀ v I', Ex I I' → Dis N I' → w.r I' v → Q v (ov N I')) → r [v] (ov N I) Q) : Cb r [p] w := fun I N vs Q d a q => by
  obtain ⟨v, _, rfl, r1, a⟩ := all2_c a
  cases all2_n a
  exact h I N v Q d r1 q
theorem cb2 {r : List V → Hp → VK → Prop} {p p2 : PV} (h : ∀ (I N : Hp) (v u : V) (Q : VK), Dis N I → p.r I v → p2.r I u → (∀ v I', Ex I I' → Dis N I' → w.r I' v → Q v (ov N I')) → r [v, u] (ov N I) Q) : Cb r [p, p2] w := fun I N vs Q d a q => by
  obtain ⟨v, _, rfl, r1, a⟩ := all2_c a
  obtain ⟨u, _, rfl, r2, a⟩ := all2_c a
  cases all2_n a
  exact h I N v u Q d r1 r2 q
theorem c_abs {i : Int} : Cb (fun xs H Q => ∃ i, xs = [.int i] ∧ Q (.int (if i < 0 then -i else i)) H) [pv K i] (pv K (if i < 0 then -i else i)) := cb1 fun I N v Q d h q => ⟨i, by rw [show v = V.int i from h], q _ I (Ex.refl I) d rfl⟩
theorem c_max2 {i j : Int} : Cb (fun xs H Q => ∃ i j, xs = [.int i, .int j] ∧ Q (.int (if j > i then j else i)) H) [pv K i, pv K j] (pv K (if j > i then j else i)) := cb2 fun I N v u Q d h h2 q => ⟨i, j, by rw [show v = V.int i from h, show u = V.int j from h2], q _ I (Ex.refl I) d rfl⟩
theorem c_min2 {i j : Int} : Cb (fun xs H Q => ∃ i j, xs = [.int i, .int j] ∧ Q (.int (if j < i then j else i)) H) [pv K i, pv K j] (pv K (if j < i then j else i)) := cb2 fun I N v u Q d h h2 q => ⟨i, j, by rw [show v = V.int i from h, show u = V.int j from h2], q _ I (Ex.refl I) d rfl⟩
theorem c_int {i : Int} : Cb (fun xs H Q => (∃ i, xs = [.int i] ∧ Q (.int i) H) ∨ ∃ k, xs = [.bl k] ∧ Q (.int (if k then 1 else 0)) H) [pv K i] (pv K i) := cb1 fun I N v Q d h q => .inl ⟨i, by rw [show v = V.int i from h], q _ I (Ex.refl I) d rfl⟩
theorem c_lenL {xs : List α} : Cb (fun xs H Q => ∃ p ys, xs = [.ref p] ∧ (SqL K H p ys ∨ SqT K H p ys) ∧ Q (.int ys.length) H) [pv K xs] (pv K (xs.length : Int)) := cb1 fun I N v Q d ⟨a, vs, h1, h2, h3⟩ q => ⟨a, vs, by rw [h1], .inl (SqL.of (ex_ov d _ _ h2)), q _ I (Ex.refl I) d (by rw [h3.length]; rfl)⟩
theorem c_lenT {xs : Tu α} : Cb (fun xs H Q => ∃ p ys, xs = [.ref p] ∧ (SqL K H p ys ∨ SqT K H p ys) ∧ Q (.int ys.length) H) [pv K xs] (pv K (xs.l.length : Int)) := cb1 fun I N v Q d ⟨a, vs, h1, h2, h3⟩ q => ⟨a, vs, by rw [h1], .inr (sqt_ov d h2), q _ I (Ex.refl I) d (by rw [h3.length]; rfl)⟩
theorem c_lenS {xs : Scr} : Cb (fun xs H Q => ∃ p ys, xs = [.ref p] ∧ (SqL K H p ys ∨ SqT K H p ys) ∧ Q (.int ys.length) H) [pv K xs] (pv K (xs.l.length : Int)) := cb1 fun I N v Q d ⟨a, h1, h2⟩ q => ⟨a, _, by rw [h1], .inl (sql_ov d h2), q _ I (Ex.refl I) d (by rw [List.length_map]; rfl)⟩
theorem c_sum {xs : List Int} : Cb (rSum K) [pv K xs] (pv K xs.sum) := cb1 fun I N v Q d ⟨a, vs, h1, h2, h3⟩ q => ⟨a, xs, by rw [h1], SqL.of (by rw [← rs_int h3]; exact ex_ov d _ _ h2), q _ I (Ex.refl I) d rfl⟩
theorem c_all {xs : List Bool} : Cb (rAll K) [pv K xs] (pv K (xs.all id)) := cb1 fun I N v Q d ⟨a, vs, h1, h2, h3⟩ q => ⟨a, xs, by rw [h1], SqL.of (by rw [show xs.map V.bl = vs from (rs_sc h3).symm]; exact ex_ov d _ _ h2), q _ I (Ex.refl I) d rfl⟩
theorem c_any {xs : List Bool} : Cb (rAny K) [pv K xs] (pv K (xs.any id)) := cb1 fun I N v Q d ⟨a, vs, h1, h2, h3⟩ q => ⟨a, xs, by rw [h1], SqL.of (by rw [show xs.map V.bl = vs from (rs_sc h3).symm]; exact ex_ov d _ _ h2), q _ I (Ex.refl I) d rfl⟩
/-- ascending -/
def srt (xs : List Int) : List Int := xs.mergeSort fun a b => decide (a ≤ b)
theorem srt_perm (xs : List Int) : (srt xs).Perm xs := List.mergeSort_perm _ _
theorem srt_pw (xs : List Int) : (srt xs).Pairwise (· ≤ ·) := by
  have h := List.pairwise_mergeSort (le := fun a b : Int => decide (a ≤ b)) (fun a b c h1 h2 => by simp at *; omega) (fun a b => by simp; omega) xs
  exact h.imp fun h => by simpa using h
theorem srt_eq {xs ys : List Int} (p : ys.Perm xs) (h : ys.Pairwise (· ≤ ·)) : ys = srt xs :=
  List.Perm.eq_of_pairwise (fun a b _ _ h1 h2 => Int.le_antisymm h1 h2) h (srt_pw xs) (p.trans (srt_perm xs).symm)
theorem c_sorted {xs : List Int} : Cb (rSortedI K) [pv K xs] (pv K (srt xs)) := cb1 fun I N v Q d ⟨a, vs, h1, h2, h3⟩ q => ⟨a, xs, by rw [h1], SqL.of (by rw [← rs_int h3]; exact ex_ov d _ _ h2), fun ns' p hp hs hn => by
  have e := srt_eq hp hs
  subst e
  obtain ⟨x1, x2, x3, x4⟩ := mk_list (K := K) (xs := srt xs) (vs := (srt xs).map V.int) d hn rs_of_int
  rw [x4]
  exact q _ _ x1 x2 x3⟩
/-- a type, as a value -/
def tyPV (n : String) : PV := ⟨fun _ v => v = V.ty n, fun _ h => h⟩
theorem ep_ty {n : String} : EP (tC (.ty n)) Γ1 (tyPV n) := fun I F N σ e d Q q => q _ I (Ex.refl I) d rfl
theorem c_isi {p : PV} {n t : String} {b : Bool} (h : ∀ H v, p.r H v → TyX K H v (.type t)) (e : kitB t n = some b) : Cb (rIsi K) [p, tyPV n] (pv K b) := cb2 fun I N v u Q d h1 h2 q => ⟨v, .ty n, .type t, .type n, b, by rw [show u = V.ty n from h2], .ty n, h _ v (p.up (ex_ov d) h1), kit_ty e, q _ I (Ex.refl I) d rfl⟩
theorem ty_int {i : Int} : ∀ H v, (pv K i).r H v → TyX K H v (.type "int") := fun H v h => by rw [show v = V.int i from h]; exact .base (.int i)
theorem ty_bool {i : Bool} : ∀ H v, (pv K i).r H v → TyX K H v (.type "bool") := fun H v h => by rw [show v = V.bl i from h]; exact .base (.bl i)
theorem ty_list {xs : List α} : ∀ H v, (pv K xs).r H v → TyX K H v (.type "list") := fun H v ⟨a, vs, h1, h2, h3⟩ => by rw [h1]; exact .base (.lst h2)
/-! parts of lists -/
def cutL {α : Type} (xs : List α) (lo hi : Option Int) : List α := (xs.drop (HT.sIx xs.length 0 lo)).take (HT.sIx xs.length xs.length hi - HT.sIx xs.length 0 lo)
theorem rs_cut {xs : List α} {vs : List V} {lo hi : Option Int} (h : Rs K xs I vs) : Rs K (cutL xs lo hi) I (cutV vs lo hi) := by
  unfold cutL cutV
  rw [← h.length]
  exact (h.drop _).take _
def OPa (t : TO) (Γ : List Sl) (o : Option Int) : Prop := ∀ (I F N : Hp) (σ : L2.St), EnvOk I F N σ Γ → Dis N I → ∀ Q : Option Int → Hp → Prop, (∀ I', Ex I I' → Dis N I' → Q o (ov N I')) → t σ (ov N I) Q
theorem po_no : OPa tNoPart Γ1 none := fun I F N σ e d Q q => q I (Ex.refl I) d
theorem po_i {i : Int} (h : EP te Γ1 (pv K i)) : OPa (tPart te) Γ1 (some i) := fun I F N σ e d Q q => h I F N σ e d _ fun v I1 a1 d1 r1 => ⟨i, r1, q I1 a1 d1⟩
theorem ep_sl {xs : List α} {lo hi : Option Int} {t1 t2 : TO} (h : EP te Γ1 (pv K xs)) (h1 : OPa t1 Γ1 lo) (h2 : OPa t2 Γ1 hi) : EP (tSl (rSlL K) te t1 t2) Γ1 (pv K (cutL xs lo hi)) := fun I F N σ e d Q q =>
  h I F N σ e d _ fun v I1 a1 d1 r1 => h1 I1 F N σ (e.up a1) d1 _ fun I2 a2 d2 => h2 I2 F N σ (e.up (a1.trans a2)) d2 _ fun I3 a3 d3 => by
    obtain ⟨a, vs, g1, g2, g3⟩ := Rp.up (a2.trans a3) r1
    refine ⟨a, vs, g1, SqL.of (ex_ov d3 _ _ g2), fun p hp => ?_⟩
    obtain ⟨x1, x2, x3, x4⟩ := mk_list d3 hp (rs_cut g3)
    rw [x4]
    exact q _ _ (((a1.trans a2).trans a3).trans x1) x2 x3
theorem ep_slS {xs : Scr} {lo hi : Option Int} {t1 t2 : TO} (h : EP te Γ1 (pv K xs)) (h1 : OPa t1 Γ1 lo) (h2 : OPa t2 Γ1 hi) : EP (tSl (rSlL K) te t1 t2) Γ1 (pv K (cutL xs.l lo hi)) := fun I F N σ e d Q q =>
  h I F N σ e d _ fun v I1 a1 d1 r1 => h1 I1 F N σ (e.up a1) d1 _ fun I2 a2 d2 => h2 I2 F N σ (e.up (a1.trans a2)) d2 _ fun I3 a3 d3 => by
    obtain ⟨a, g1, g2⟩ := Rp.up (a2.trans a3) r1
    refine ⟨a, _, g1, sql_ov d3 g2, fun p hp => ?_⟩
    obtain ⟨x1, x2, x3, x4⟩ := mk_list d3 hp (rs_cut (lo := lo) (hi := hi) (rs_of_int (K := K) (H := I3)))
    rw [x4]
    exact q _ _ (((a1.trans a2).trans a3).trans x1) x2 x3
/-- an item of the script -/
theorem o_ixS {xs : Scr} {i x : Int} (e : atI xs.l i = some x) : Op2 (rIxL K) (pv K xs) (pv K i) (pv K x) := fun I N u v Q d ⟨a, h1, h2⟩ hy k => by
  obtain ⟨w, q1, q2⟩ := rs_at (rs_of_int (K := K) (H := I)) e
  exact ⟨a, _, i, w, h1, hy, sql_ov d h2, q1, k w I (Ex.refl I) d q2⟩
theorem em_ixSp {xs : Scr} {i : Int} (ha : ∀ s, EP ta (Γ s) (pv K xs)) (hb : ∀ s, EP tb (Γ s) (pv K i)) : EM K (tOp (rIxL K) ta tb) Γ (mo (atI xs.l i)) := fun s I F N σ e d Q q => by
  obtain ⟨z, hz, q⟩ := sat_mo.mp q
  exact ep_op (ha s) (hb s) (o_ixS hz) I F N σ e d Q fun v I3 a3 d3 r3 => q v I3 N a3 d3 (e.up a3) r3
/-- x in xs, of written values -/
class Fl (α : Type) [Rp α] [Sc α] where
  fl : ∀ x : α, flatV (Sc.s x) = true
  eq : ∀ x y : α, eqV (Sc.s x) (Sc.s y) = true ↔ x = y
instance flInt : Fl Int := ⟨fun _ => rfl, fun x y => by simp [Sc.s, eqV]⟩
instance flStr : Fl Str := ⟨fun _ => rfl, fun x y => by simp [Sc.s, eqV]⟩
instance flBool : Fl Bool := ⟨fun _ => rfl, fun x y => by simp [Sc.s, eqV]⟩
theorem in_fl {β : Type} [Rp β] [Sc β] [Fl β] [DecidableEq β] (x : β) : ∀ xs : List β, inV (Sc.s x) (xs.map Sc.s) = decide (x ∈ xs)
  | [] => by simp [inV]
  | y :: ys => by
    have ih := in_fl x ys
    unfold inV at ih ⊢
    rw [List.map_cons, List.any_cons, ih]
    by_cases h : y = x
    · rw [(Fl.eq y x).mpr h]; simp [h]
    · have h1 : eqV (Sc.s y) (Sc.s x) = false := by
        cases q : eqV (Sc.s y) (Sc.s x) with
        | false => rfl
        | true => exact absurd ((Fl.eq y x).mp q) h
      rw [h1]
      have h2 : ¬ x = y := fun q => h q.symm
      simp [h2]
theorem all_fl {β : Type} [Rp β] [Sc β] [Fl β] : ∀ xs : List β, (xs.map (Sc.s (α := β))).all flatV = true
  | [] => rfl
  | y :: ys => by rw [List.map_cons, List.all_cons, Fl.fl, all_fl ys]; rfl
theorem o_in {β : Type} [Rp β] [Sc β] [Fl β] [DecidableEq β] {x : β} {xs : List β} : Op2 (rIn K false) (pv K x) (pv K xs) (pv K (decide (x ∈ xs))) := fun I N u v Q d hx ⟨a, vs, h1, h2, h3⟩ q => by
  cases Sc.eq.mp hx
  have e := rs_sc h3
  subst e
  refine ⟨a, _, h1, .inl (SqL.of (ex_ov d _ _ h2)), Fl.fl x, all_fl xs, ?_⟩
  rw [if_neg Bool.false_ne_true, in_fl]
  exact q _ I (Ex.refl I) d rfl
theorem o_notIn {β : Type} [Rp β] [Sc β] [Fl β] [DecidableEq β] {x : β} {xs : List β} : Op2 (rIn K true) (pv K x) (pv K xs) (pv K (!decide (x ∈ xs))) := fun I N u v Q d hx ⟨a, vs, h1, h2, h3⟩ q => by
  cases Sc.eq.mp hx
  have e := rs_sc h3
  subst e
  refine ⟨a, _, h1, .inl (SqL.of (ex_ov d _ _ h2)), Fl.fl x, all_fl xs, ?_⟩
  rw [if_pos rfl, in_fl]
  exact q _ I (Ex.refl I) d rfl
theorem o_inT {β : Type} [Rp β] [Sc β] [Fl β] [DecidableEq β] {x : β} {xs : Tu β} : Op2 (rIn K false) (pv K x) (pv K xs) (pv K (decide (x ∈ xs.l))) := fun I N u v Q d hx ⟨a, vs, h1, h2, h3⟩ q => by
  cases Sc.eq.mp hx
  have e := rs_sc h3
  subst e
  refine ⟨a, _, h1, .inr (sqt_ov d h2), Fl.fl x, all_fl xs.l, ?_⟩
  rw [if_neg Bool.false_ne_true, in_fl]
  exact q _ I (Ex.refl I) d rfl
theorem o_notInT {β : Type} [Rp β] [Sc β] [Fl β] [DecidableEq β] {x : β} {xs : Tu β} : Op2 (rIn K true) (pv K x) (pv K xs) (pv K (!decide (x ∈ xs.l))) := fun I N u v Q d hx ⟨a, vs, h1, h2, h3⟩ q => by
  cases Sc.eq.mp hx
  have e := rs_sc h3
  subst e
  refine ⟨a, _, h1, .inr (sqt_ov d h2), Fl.fl x, all_fl xs.l, ?_⟩
  rw [if_pos rfl, in_fl]
  exact q _ I (Ex.refl I) d rfl
/-! lists from lists -/
def repOk (n : Nat) (k : Int) : Bool := decide (-(2 ^ 63) ≤ k ∧ k < 2 ^ 63 ∧ n * k.toNat ≤ 16000000)
def repL {α : Type} (xs : List α) (k : Int) : List α := (List.replicate k.toNat xs).flatten
theorem rs_flat {xs : List α} {vs : List V} (h : Rs K xs I vs) : ∀ n : Nat, Rs K (List.replicate n xs).flatten I (List.replicate n vs).flatten
  | 0 => .nil
  | n + 1 => by
    rw [List.replicate_succ, List.replicate_succ, List.flatten_cons, List.flatten_cons]
    exact h.append (rs_flat h n)
theorem eo_rep {xs : List α} {k : Int} (ha : ∀ s, EP ta (Γ s) (pv K xs)) (hb : ∀ s, EP tb (Γ s) (pv K k)) : EO (tOp rRep ta tb) Γ (mc (repOk xs.length k) (repL xs k)) (rOw (ol K)) := fun s I F N σ e d Q q => by
  obtain ⟨c, q⟩ := sat_mc.mp q
  have c := of_decide_eq_true c
  refine ha s I F N σ e d _ fun v I1 a1 d1 r1 => hb s I1 F N σ (e.up a1) d1 _ fun w I2 a2 d2 r2 => ?_
  obtain ⟨a, vs, g1, g2, g3⟩ := Rp.up a2 r1
  exact ⟨a, k, vs, g1, r2, ex_ov d2 _ _ g2, c.1, c.2.1, by rw [← g3.length]; exact sz16' c.2.2, fun p hp => q _ _ I2 N (a1.trans a2) (e.up (a1.trans a2)) (new_list d2 hp (rs_flat g3 _))⟩
theorem o_cat {xs ys : List α} (c : lenOk (xs.length + ys.length) = true) : Op2 rCat (pv K xs) (pv K ys) (pv K (xs ++ ys)) := fun I N u v Q d ⟨a, vs, h1, h2, h3⟩ ⟨b, us, g1, g2, g3⟩ q => ⟨a, b, vs, us, h1, g1, ex_ov d _ _ h2, ex_ov d _ _ g2, by rw [← h3.length, ← g3.length]; exact sz16' (of_decide_eq_true c), fun p hp => by
  obtain ⟨x1, x2, x3, x4⟩ := mk_list d hp (h3.append g3)
  rw [x4]
  exact q _ _ x1 x2 x3⟩
/-- list(xs) -/
def rListOf (K : PySem.W.Frag) : List V → Hp → VK → Prop := fun xs H Q => ∃ p ys, xs = [.ref p] ∧ (SqL K H p ys ∨ SqT K H p ys) ∧ ∀ l, H l = none → Q (.ref l) (upd H l (.lst ys))
theorem eo_listL {xs : List α} (h : ∀ s, AP tl (Γ s) [pv K xs]) : EO (tCB (rListOf K) tl) Γ (mp xs) (rOw (ol K)) := fun s I F N σ e d Q q => h s I F N σ e d _ fun vs I1 a1 d1 r1 => by
  obtain ⟨v, _, rfl, r, r1⟩ := all2_c r1
  cases all2_n r1
  obtain ⟨a, us, g1, g2, g3⟩ := r
  exact ⟨a, us, by rw [g1], .inl (SqL.of (ex_ov d1 _ _ g2)), fun p hp => q _ _ I1 N a1 (e.up a1) (new_list d1 hp g3)⟩
theorem eo_listT {xs : Tu α} (h : ∀ s, AP tl (Γ s) [pv K xs]) : EO (tCB (rListOf K) tl) Γ (mp xs.l) (rOw (ol K)) := fun s I F N σ e d Q q => h s I F N σ e d _ fun vs I1 a1 d1 r1 => by
  obtain ⟨v, _, rfl, r, r1⟩ := all2_c r1
  cases all2_n r1
  obtain ⟨a, us, g1, g2, g3⟩ := r
  exact ⟨a, us, by rw [g1], .inr (sqt_ov d1 g2), fun p hp => q _ _ I1 N a1 (e.up a1) (new_list d1 hp g3)⟩
/-- list(range(n)), list(range(a, b)) -/
def rgOk (a b : Int) : Bool := decide (-(2 ^ 62) ≤ a ∧ a < 2 ^ 62 ∧ -(2 ^ 62) ≤ b ∧ b < 2 ^ 62 ∧ (b - a).toNat ≤ 2 ^ 24)
theorem rgV_eq {a b : Int} : rgV a b = (rng a (b - a).toNat).map V.int := by
  unfold rgV rng
  rw [List.map_map]
  rfl
theorem eo_listRg1 {n : Int} (h : ∀ s, EP te (Γ s) (pv K n)) : EO (tLstRg (tRg1 te)) Γ (mc (rgOk 0 n) (rng 0 n.toNat)) (rOw (ol K)) := fun s I F N σ e d Q q => by
  obtain ⟨c, q⟩ := sat_mc.mp q
  have c := of_decide_eq_true c
  refine h s I F N σ e d _ fun v I1 a1 d1 r1 => ⟨n, r1, c, fun p hp => q _ _ I1 N a1 (e.up a1) (new_list d1 hp ?_)⟩
  rw [rgV_eq, Int.sub_zero]
  exact rs_of_int
end
/-! ### calls by names alone -/
section
variable {X : Cx} {CX : CXT} {k : Nat} {f : Addr} {fd : FuncData} {ps ks : List Str} {sp : Sp} {E : XK} {x : Str} {p pos : Pos} {kws : List Keyword} {tk : TA} {g : List Value → List Value → List Value} {gV : List V → List V → List V}
theorem pe_callK0 (F : FnOk X.prog X.w X.K X.mg X.base CX k f fd ps sp) (hr : Room k X.A) (hg : Gl X x) (hm : X.mg x = some (.ref f)) (hk : PySem.W.keepIn X.K (.ref f) = true) (hb : KBinds X.K fd ps ks g gV) (hx : Passes CX X E)
    (hkw : PK X kws tk) (hall : (backToKw pos (keywordEach kws X.env)).all (·.1.isSome) = true := by rfl) (hks : (backToKw pos (keywordEach kws X.env)).filterMap (·.1) = ks := by rfl)
    (hdb : (x == ("__debug__" : Str)) = false := by decide) (hpl : ((backTo pos (starEach [] X.env)).any (·.1) || (backToKw pos (keywordEach kws X.env)).any (·.1.isNone)) = false := by rfl) :
    PE X (.Call (.Name x p) [] kws pos) (tCallK sp gV E tNil tk) := by
  refine ⟨fun pins s σ H Q I h => ?_⟩
  refine wpAny_Call_Name_kw (ld_glob I hg hm ?_ hdb)
  refine PySem.W.callWith_KW0 (h₀ := X.base) I.ok.mod.kin hk hall ?_ hpl
  refine thn (hkw.run pos pins s σ H _ I h) fun ws s2 ⟨zs, H2, I2, rz, q2⟩ => ⟨I2.kIn, ?_⟩
  rw [hks]
  exact run_fnk (us := []) (vs := []) F hr hb hx I2 .nil rz q2
end
end
end Mir

/-! Mir7: several targets; the law's box; calls in the same state; promises packed -/
namespace Mir
open PySem L2
section
variable {K : PySem.W.Frag}
/-! ### several targets -/
def AO {S ζ : Type} (ta : TA) (Γ : S → List Sl) (m : Mn S ζ) (cs : ζ → List Sl) : Prop := ∀ (s : S) (I F N : Hp) (σ : L2.St), EnvOk I F N σ (Γ s) → Dis N I → ∀ Q : List V → Hp → Prop,
  (m s).sat (fun z s' => ∀ vs I' N' M', Ex I I' → EnvOk I' F N' σ (Γ s') → Dis M' I' → EnvOk I' N' M' (vs.map some) (cs z) → Q vs (ov M' I')) → ta σ (ov N I) Q
section
variable {S ζ ρ α : Type} [Rp α] {Γ : S → List Sl} {te : TE} {ta : TA}
theorem ao_nil : AO tNil Γ (mp ()) fun _ => [] := fun s I F N σ e d Q q => q [] I N N (Ex.refl I) e d .nil
theorem ao_p {p : PV} {m : Mn S ζ} {cs : ζ → List Sl} (h : ∀ s, EP te (Γ s) p) (t : AO ta Γ m cs) : AO (tCons te ta) Γ m fun z => .im p :: cs z := fun s I F N σ e d Q q =>
  h s I F N σ e d _ fun v I1 a1 d1 r1 => t s I1 F N σ (e.up a1) d1 _ (R.sat_imp q fun z s2 q vs I2 N2 M2 a2 e2 d2 e3 => q _ I2 N2 M2 (a1.trans a2) e2 d2 (.im (p.up a2 r1) e3))
theorem ao_m {m1 : Mn S α} {m : Mn S ζ} {cs : ζ → List Sl} (h : EM K te Γ m1) (t : AO ta Γ m cs) : AO (tCons te ta) Γ (mb m1 fun x => mb m fun z => mp (x, z)) fun y => .im (pv K y.1) :: cs y.2 := fun s I F N σ e d Q q =>
  h s I F N σ e d _ (R.sat_imp (sat_mb.mp q) fun x s1 q v I1 N1 a1 d1 e1 r1 => t s1 I1 F N1 σ e1 d1 _ (R.sat_imp (sat_mb.mp q) fun z s2 q vs I2 N2 M2 a2 e2 d2 e3 => q _ I2 N2 M2 (a1.trans a2) e2 d2 (.im (p := pv K x) (Rp.up a2 r1) e3)))
theorem ao_o {m1 : Mn S ρ} {m : Mn S ζ} {P : ρ → OP} {cs : ζ → List Sl} (h : EO te Γ m1 (rOw P)) (t : AO ta Γ m cs) : AO (tCons te ta) Γ (mb m1 fun x => mb m fun z => mp (x, z)) fun y => .ow (P y.1) :: cs y.2 := fun s I F N σ e d Q q =>
  h s I F N σ e d _ (R.sat_imp (sat_mb.mp q) fun x s1 q v H1 I1 N1 a1 e1 ⟨a, Ma, h1, h2, h3, h4, h5⟩ => by
    subst h1 h4
    have hF : Dis Ma F := fun b => by
      cases q : F b with
      | none => exact .inr rfl
      | some o => exact .inl (h2.some_r (e1.subF q))
    refine t s1 I1 (ov Ma F) (ov Ma N1) σ (e1.frame h2) h3 _ (R.sat_imp (sat_mb.mp q) fun z s2 q vs I2 N2 M2 a2 e2 d2 e3 => ?_)
    obtain ⟨N3, g1, g2, g3⟩ := e2.unframe hF
    subst g1
    obtain ⟨M3, g4, g5, g6⟩ := e3.unframe g2
    subst g4
    exact q _ I2 N3 _ (a1.trans a2) g3 d2 (.ow ((P x).up a2 h5) g5 g6))
end
theorem notOw_set {Γ : List Sl} {i j : Nat} {a : Sl} (h : NotOw Γ j) (n : i ≠ j) : NotOw (Γ.set i a) j := by
  unfold NotOw
  rw [List.getElem?_set_ne n]
  exact h
theorem dis_sub {I N M1 Ma : Hp} {σ : L2.St} {Γ : List Sl} (d : Dis Ma M1) (e : EnvOk I N M1 σ Γ) : Dis Ma N := fun b => by
  cases q : N b with
  | none => exact .inr rfl
  | some o => exact .inl (d.some_r (e.subF q))
/-- slots take values and owned parts, one behind another -/
def setG : List Sl → List Nat → List Sl → List Sl
  | Γ, j :: js, c :: cs => setG (Γ.set j c) js cs
  | Γ, _, _ => Γ
def setS : L2.St → List Nat → List V → L2.St
  | σ, j :: js, v :: vs => setS (σ.set j (some v)) js vs
  | σ, _, _ => σ
theorem EnvOk.takes {I F : Hp} : ∀ {js : List Nat} {vs : List V} {cs : List Sl} {N M : Hp} {σ : L2.St} {Γ : List Sl}, EnvOk I F N σ Γ → EnvOk I N M (vs.map some) cs → js.length = cs.length → js.Nodup → (∀ j ∈ js, NotOw Γ j ∧ j < Γ.length) → (∀ c ∈ cs, c ≠ .no) → EnvOk I F M (setS σ js vs) (setG Γ js cs)
  | [], vs, [], N, M, σ, Γ, e, e2, _, _, _, _ => by
    cases vs with
    | nil => cases e2; exact e
    | cons v vs => cases e2
  | [], _, _ :: _, _, _, _, _, _, _, h, _, _, _ => by simp at h
  | _ :: _, _, [], _, _, _, _, _, _, h, _, _, _ => by simp at h
  | j :: js, [], c :: cs, _, _, _, _, _, e2, _, _, _, _ => by cases e2
  | j :: js, v :: vs, c :: cs, N, M, σ, Γ, e, e2, hl, hd, hn, hc => by
    have e3 : EnvOk I N M (some v :: vs.map some) (c :: cs) := e2
    obtain ⟨n1, n2⟩ := List.nodup_cons.mp hd
    have hj := hn j (List.mem_cons_self ..)
    have rest : ∀ a : Sl, ∀ i ∈ js, NotOw (Γ.set j a) i ∧ i < (Γ.set j a).length := fun a i hi => ⟨notOw_set (hn i (List.mem_cons_of_mem _ hi)).1 (fun q => n1 (q ▸ hi)), by rw [List.length_set]; exact (hn i (List.mem_cons_of_mem _ hi)).2⟩
    show EnvOk I F M (setS (σ.set j (some v)) js vs) (setG (Γ.set j c) js cs)
    cases e3 with
    | no _ e4 => exact absurd rfl (hc .no (List.mem_cons_self ..))
    | im q e4 => exact EnvOk.takes (e.set q hj.1) e4 (by simpa using hl) n2 (rest _) fun c hc' => hc c (List.mem_cons_of_mem _ hc')
    | ow q d e4 =>
      exact EnvOk.takes (e.take q hj.1 hj.2 (dis_sub d e4)) (e4.frame d) (by simpa using hl) n2 (rest _) fun c hc' => hc c (List.mem_cons_of_mem _ hc')
def gNames (js : List Nat) : TGs := js.foldr (fun j t => gCons (gName j) t) gNil
theorem gNames_ok : ∀ (js : List Nat) (vs : List V) (σ : L2.St) (H : Hp) (Q : L2.St → Hp → Prop), vs.length = js.length → Q (setS σ js vs) H → gNames js vs σ H Q
  | [], [], σ, H, Q, _, q => ⟨rfl, q⟩
  | [], _ :: _, _, _, _, h, _ => by simp at h
  | _ :: _, [], _, _, _, h, _ => by simp at h
  | j :: js, v :: vs, σ, H, Q, h, q => ⟨v, vs, rfl, gNames_ok js vs (σ.set j (some v)) H Q (by simpa using h) q⟩
def isNo : Sl → Bool
  | .no => true
  | _ => false
def asgOk (Γ : List Sl) (js : List Nat) (n : Nat) : Prop := js.length = n ∧ js.Nodup ∧ ∀ j ∈ js, NotOw Γ j ∧ j < Γ.length
theorem nos_of {cs : List Sl} (h : cs.all (fun c => !isNo c) = true) : ∀ c ∈ cs, c ≠ .no := fun c hc q => by
  have := List.all_eq_true.mp h c hc
  rw [q] at this
  cases this
section
variable {S ζ : Type} {Γ : S → List Sl} {ta : TA} {m : Mn S ζ} {cs : ζ → List Sl} {Γ' : ζ → S → List Sl}
/-- a, b, .. = e1, e2, .. by a tuple -/
theorem rp_asgT {n : Nat} (js : List Nat) (h : AO ta Γ m cs) (hj : ∀ s, asgOk (Γ s) js n) (hc : ∀ z, (cs z).length = n) (hn : ∀ z, (cs z).all (fun c => !isNo c) = true) (h9 : n ≤ 1000) (hΓ : ∀ z s, setG (Γ s) js (cs z) = Γ' z s) : RP (tAsg (tTup ta) (gTup K n (gNames js))) Γ m Γ' := fun s I F N σ e d D q =>
  h s I F N σ e d _ (R.sat_imp q fun z s1 q vs I1 N1 M1 a1 e1 d1 e2 => by
    have hv : vs.length = n := by
      have l := e2.len
      rw [List.length_map, hc z] at l
      exact l
    refine ⟨by rw [hv]; exact sz2 h9, fun p hp => ?_⟩
    obtain ⟨x1, x2, x3, x4⟩ := mk_tup (K := K) (vs := vs) d1 hp
    refine ⟨p, vs, rfl, ?_, hv, gNames_ok js vs σ _ _ (hv.trans (hj s1).1.symm) ?_⟩
    · rw [x4]; exact sqt_ov x2 x3
    · rw [x4]
      refine q _ M1 _ (a1.trans x1) x2 ?_
      rw [← hΓ]
      exact EnvOk.takes (e1.up x1) (e2.up x1) ((hj s1).1.trans (hc z).symm) (hj s1).2.1 (hj s1).2.2 (nos_of (hn z)))
/-- .. two local names: no tuple is made -/
theorem rp_asg2 {i j : Nat} (h : AO ta Γ m cs) (hj : ∀ s, asgOk (Γ s) [i, j] 2) (hc : ∀ z, (cs z).length = 2) (hn : ∀ z, (cs z).all (fun c => !isNo c) = true) (hΓ : ∀ z s, setG (Γ s) [i, j] (cs z) = Γ' z s) : RP (tPar i j ta) Γ m Γ' := fun s I F N σ e d D q =>
  h s I F N σ e d _ (R.sat_imp q fun z s1 q vs I1 N1 M1 a1 e1 d1 e2 => by
    have hv : vs.length = 2 := by
      have l := e2.len
      rw [List.length_map, hc z] at l
      exact l
    match vs, hv, e2 with
    | [v, w], _, e2 =>
      refine ⟨v, w, rfl, q I1 M1 _ a1 d1 ?_⟩
      rw [← hΓ]
      exact EnvOk.takes (js := [i, j]) (vs := [v, w]) e1 e2 ((hj s1).1.trans (hc z).symm) (hj s1).2.1 (hj s1).2.2 (nos_of (hn z)))
theorem rp_asg3 {i j k : Nat} (h : AO ta Γ m cs) (hj : ∀ s, asgOk (Γ s) [i, j, k] 3) (hc : ∀ z, (cs z).length = 3) (hn : ∀ z, (cs z).all (fun c => !isNo c) = true) (hΓ : ∀ z s, setG (Γ s) [i, j, k] (cs z) = Γ' z s) : RP (tPar3 i j k ta) Γ m Γ' := fun s I F N σ e d D q =>
  h s I F N σ e d _ (R.sat_imp q fun z s1 q vs I1 N1 M1 a1 e1 d1 e2 => by
    have hv : vs.length = 3 := by
      have l := e2.len
      rw [List.length_map, hc z] at l
      exact l
    match vs, hv, e2 with
    | [v, w, u], _, e2 =>
      refine ⟨v, w, u, rfl, q I1 M1 _ a1 d1 ?_⟩
      rw [← hΓ]
      exact EnvOk.takes (js := [i, j, k]) (vs := [v, w, u]) e1 e2 ((hj s1).1.trans (hc z).symm) (hj s1).2.1 (hj s1).2.2 (nos_of (hn z)))
end

/-! ### calls in the caller's own state -/
theorem eo_call1i {S ρ ι ζ : Type} {Γ : S → List Sl} {ta : TA} {E : XK} {Ret : RetT ρ} {As : ι → List (Ar S)} {m : ι → Mn S ρ} {mm : Mn S ζ} {ks : ζ → List AK} {f : ζ → ι} {j : Nat} {P Pc : S → OP} (h : AKm ta Γ mm ks) (o : ∀ z, OneSl j (ks z)) (cv : Cv P Pc) (hj : ∀ s, (Γ s)[j]? = some (.ow (Pc s)))
    (hp : ∀ s s', (Γ s).set j (.ow (Pc s')) = Γ s') (hA : ∀ z s', (As (f z)).map (Ar.sl s') = (ks z).map (AK.to (P s'))) : EO (tCall (Prom Ret As m) [] E ta) Γ (mb mm fun z => m (f z)) Ret := fun s I F N σ e d Q q =>
  eo_call1 (g := fun s => s) (p := fun _ s' => s') h o cv hj hp hA s I F N σ e d Q (sat_mb.mpr (R.sat_imp (sat_mb.mp q) fun z s1 q => sat_ml.mpr q))

/-! ### a def and its promise, packed -/
structure Cal (P : Program) (w : World) (K : PySem.W.Frag) (mg : Str → Option Value) (base : Heap) (k : Nat) (x : Str) (ps : List Str) (sp : Sp) : Prop where
  ex : ∃ (f : Addr) (fd : FuncData), FnOk P w K mg base CX0 k f fd ps sp ∧ mg x = some (.ref f) ∧ PySem.W.keepIn K (.ref f) = true ∧ Binds K fd ps []
/-- .. called by names alone -/
structure CalK (P : Program) (w : World) (K : PySem.W.Frag) (mg : Str → Option Value) (base : Heap) (k : Nat) (x : Str) (ps : List Str) (sp : Sp) (ks : List Str) (g : List Value → List Value → List Value) (gV : List V → List V → List V) : Prop where
  ex : ∃ (f : Addr) (fd : FuncData), FnOk P w K mg base CX0 k f fd ps sp ∧ mg x = some (.ref f) ∧ PySem.W.keepIn K (.ref f) = true ∧ KBinds K fd ps ks g gV

/-! ### the law's box -/
structure Box where
  great : Int
  flag : Bool
  mixed : Int
  count : Int
def Box.vs (b : Box) : List V := [.int b.great, .bl b.flag, .int b.mixed, .int b.count]
def boxP (b : Box) : OP := hl b.vs
end
end Mir

/-! Mir8: the box's items; what the printer wants besides -/
namespace Mir
open PySem L2
section
variable {K : PySem.W.Frag}
/-! ### the box -/
section
variable {Γ1 : List Sl} {s : Box} {j : Nat} {v : V}
theorem ep_b0 (hj : Γ1[j]? = some (.ow (boxP s))) : EP (tOp (rIxL K) (tVar j) (tC (.int 0))) Γ1 (pv K s.great) := ep_hl hj (fun _ _ _ h => h) (ep_int (K := K)) rfl fun _ => rfl
theorem ep_b1 (hj : Γ1[j]? = some (.ow (boxP s))) : EP (tOp (rIxL K) (tVar j) (tC (.int 1))) Γ1 (pv K s.flag) := ep_hl hj (fun _ _ _ h => h) (ep_int (K := K)) rfl fun _ => rfl
theorem ep_b2 (hj : Γ1[j]? = some (.ow (boxP s))) : EP (tOp (rIxL K) (tVar j) (tC (.int 2))) Γ1 (pv K s.mixed) := ep_hl hj (fun _ _ _ h => h) (ep_int (K := K)) rfl fun _ => rfl
theorem ep_b3 (hj : Γ1[j]? = some (.ow (boxP s))) : EP (tOp (rIxL K) (tVar j) (tC (.int 3))) Γ1 (pv K s.count) := ep_hl hj (fun _ _ _ h => h) (ep_int (K := K)) rfl fun _ => rfl
theorem ep_b0t (hj : Γ1[j]? = some (.ow ((boxP s).at v))) : EP (tOp (rIxL K) (tVar j) (tC (.int 0))) Γ1 (pv K s.great) := ep_hl hj (fun _ _ _ h => h.2) (ep_int (K := K)) rfl fun _ => rfl
theorem ep_b1t (hj : Γ1[j]? = some (.ow ((boxP s).at v))) : EP (tOp (rIxL K) (tVar j) (tC (.int 1))) Γ1 (pv K s.flag) := ep_hl hj (fun _ _ _ h => h.2) (ep_int (K := K)) rfl fun _ => rfl
theorem ep_b2t (hj : Γ1[j]? = some (.ow ((boxP s).at v))) : EP (tOp (rIxL K) (tVar j) (tC (.int 2))) Γ1 (pv K s.mixed) := ep_hl hj (fun _ _ _ h => h.2) (ep_int (K := K)) rfl fun _ => rfl
theorem ep_b3t (hj : Γ1[j]? = some (.ow ((boxP s).at v))) : EP (tOp (rIxL K) (tVar j) (tC (.int 3))) Γ1 (pv K s.count) := ep_hl hj (fun _ _ _ h => h.2) (ep_int (K := K)) rfl fun _ => rfl
end
section
variable {Γ : Box → List Sl} {j : Nat} {v : V} {te : TE}
theorem rp_b0t {m : Mn Box Int} (hj : ∀ s, (Γ s)[j]? = some (.ow ((boxP s).at v))) (h : EM K te Γ m) (hΓ : ∀ (x : Int) s, (Γ s).set j (.ow ((boxP { s with great := x }).at v)) = Γ { s with great := x }) : RP (tAsg te (gSub (tVar j) (tC (.int 0)) rSetL)) Γ (mb m fun x => ms fun b => { b with great := x }) fun _ => Γ :=
  rp_hset (P := fun s => (boxP s).at v) (us := Box.vs) (sv := V.int) (k := 0) (f := fun x b => { b with great := x }) hj (fun _ _ _ _ h => h.2) (fun _ _ _ _ _ h => ⟨h.1, rfl⟩) h (fun _ => ep_int (K := K)) (fun _ => rfl) (fun _ _ _ h => h) hΓ
theorem rp_b3t {m : Mn Box Int} (hj : ∀ s, (Γ s)[j]? = some (.ow ((boxP s).at v))) (h : EM K te Γ m) (hΓ : ∀ (x : Int) s, (Γ s).set j (.ow ((boxP { s with count := x }).at v)) = Γ { s with count := x }) : RP (tAsg te (gSub (tVar j) (tC (.int 3)) rSetL)) Γ (mb m fun x => ms fun b => { b with count := x }) fun _ => Γ :=
  rp_hset (P := fun s => (boxP s).at v) (us := Box.vs) (sv := V.int) (k := 3) (f := fun x b => { b with count := x }) hj (fun _ _ _ _ h => h.2) (fun _ _ _ _ _ h => ⟨h.1, rfl⟩) h (fun _ => ep_int (K := K)) (fun _ => rfl) (fun _ _ _ h => h) hΓ
end
/-- a new box -/
theorem eo_box {S : Type} {Γ : S → List Sl} {tl : TA} {a c d : Int} {b : Bool} (h : ∀ s, AP tl (Γ s) [pv K a, pv K b, pv K c, pv K d]) : EO (tLst tl) Γ (mp (Box.mk a b c d)) (rOw boxP) :=
  eo_hl (P := boxP) (x := Box.mk a b c d) (us := [.int a, .bl b, .int c, .int d]) h (fun I vs h => by
    obtain ⟨_, _, rfl, r0, h⟩ := all2_c h
    obtain ⟨_, _, rfl, r1, h⟩ := all2_c h
    obtain ⟨_, _, rfl, r2, h⟩ := all2_c h
    obtain ⟨_, _, rfl, r3, h⟩ := all2_c h
    cases all2_n h
    cases r0; cases r1; cases r2; cases r3
    rfl) rfl (Nat.le_of_ble_eq_true rfl)
/-! ### checked, in the state -/
def mcs {S α : Type} (c : S → Bool) (f : S → α) : Mn S α := fun s => match c s with
  | true => .ok (f s) s
  | false => .bad
theorem sat_mcs {S α : Type} {c : S → Bool} {f : S → α} {s : S} {Q : α → S → Prop} : (mcs c f s).sat Q ↔ c s = true ∧ Q (f s) s := by
  unfold mcs
  cases c s with
  | true => exact ⟨fun h => ⟨rfl, h⟩, fun h => h.2⟩
  | false => exact ⟨fun h => h.elim, fun h => nomatch h.1⟩
section
variable {S α β γ : Type} [Rp α] [Rp β] [Rp γ] {ta tb te : TE} {Γ Γr : S → List Sl} {r : R2}
theorem em_opC2s {x : S → α} {y : S → β} {z : S → γ} {c : S → Bool} (ha : ∀ s, EP ta (Γ s) (pv K (x s))) (hb : ∀ s, EP tb (Γ s) (pv K (y s))) (h : ∀ s, c s = true → Op2 r (pv K (x s)) (pv K (y s)) (pv K (z s))) : EM K (tOp r ta tb) Γ (mcs c z) := fun s I F M σ e d Q q =>
  ep_op (ha s) (hb s) (h s (sat_mcs.mp q).1) I F M σ e d Q fun v I3 a3 d3 r3 => (sat_mcs.mp q).2 v I3 M a3 d3 (e.up a3) r3
/-- x op= e -/
theorem rp_aug {i : Nat} {f : Int → Int → Int} {x : Int} {m : Mn S Int} {Γ' : Int → S → List Sl} (hi : ∀ s, (Γ s)[i]? = some (.im (pv K x))) (h : EM K te Γ m) (hn : ∀ s, NotOw (Γ s) i) (hΓ : ∀ y s, (Γ s).set i (.im (pv K y)) = Γ' y s) : RP (tAug i te (ipI f)) Γ (mb m fun y => mp (f x y)) Γ' := fun s I F N σ e d D q => by
  obtain ⟨v, h1, h2⟩ := e.get (hi s)
  refine ⟨v, h1, h s I F N σ e d _ (R.sat_imp (sat_mb.mp q) fun y s1 q w I1 N1 a1 d1 e1 r1 => ⟨x, y, h2, r1, q I1 N1 _ a1 d1 ?_⟩)⟩
  rw [← hΓ]
  exact e1.set (p := pv K (f x y)) rfl (hn s1)
/-- an Optional value where a value is asked for -/
theorem em_unopt {o : Option α} (h : ∀ s, EP te (Γ s) (pv K o)) : EM K te Γ (mo o) := fun s I F N σ e d Q q => h s I F N σ e d Q fun v I1 a1 d1 r1 => by
  obtain ⟨a, ha, q⟩ := sat_mo.mp q
  subst ha
  exact q v I1 N a1 d1 (e.up a1) r1.1
theorem nn_int {i : Int} : ∀ H v, Rp.r K i H v → v ≠ .non := fun H v h q => by
  rw [show v = V.int i from h] at q
  cases q
theorem em_some {m : Mn S α} (hn : ∀ (x : α) H v, Rp.r K x H v → v ≠ .non) (h : EM K te Γ m) : EM K te Γ (mb m fun x => mp (some x)) := fun s I F N σ e d Q q =>
  h s I F N σ e d Q (R.sat_imp (sat_mb.mp q) fun x s1 q v I1 N1 a1 d1 e1 r1 => q v I1 N1 a1 d1 e1 ⟨r1, hn x _ _ r1⟩)
theorem o_isNopt {x : Option α} : Op2 (fun x y H Q => y = .non ∧ Q (.bl (decide (x = .non))) H) (pv K x) (pv K ()) (pv K x.isNone) := o_isN _ isN_opt
theorem o_notNopt {x : Option α} : Op2 (fun x y H Q => y = .non ∧ Q (.bl (!decide (x = .non))) H) (pv K x) (pv K ()) (pv K (!x.isNone)) := fun I M u v Q d hx hy k => by
  refine ⟨hy, ?_⟩
  rw [isN_opt (K := K) _ _ hx]
  exact k _ I (Ex.refl I) d rfl
end
def popAt {α : Type} (xs : List α) (i : Int) : Option (List α) := if decide (-(2 ^ 63) ≤ i ∧ i < 2 ^ 63) = true then (ixN xs.length i).map fun k => xs.eraseIdx k else none
def asgB (Γ : List Sl) (js : List Nat) (n : Nat) : Bool := js.length == n && decide js.Nodup && js.all fun j => !((Γ[j]?.map isOw).getD false) && Nat.blt j Γ.length
theorem asg_ok {Γ : List Sl} {js : List Nat} {n : Nat} (h : asgB Γ js n = true) : asgOk Γ js n := by
  unfold asgB at h
  rw [Bool.and_eq_true, Bool.and_eq_true] at h
  obtain ⟨⟨h1, h2⟩, h3⟩ := h
  refine ⟨by simpa using h1, of_decide_eq_true h2, fun j hj => ?_⟩
  have h4 := List.all_eq_true.mp h3 j hj
  rw [Bool.and_eq_true] at h4
  refine ⟨?_, Nat.blt_eq.mp h4.2⟩
  unfold NotOw
  simpa using h4.1
/-! ### ways out, inside a loop's body -/
section
variable {S ρ τ τ' β α : Type} {Ret : RetT ρ} {t t1 t2 : TS} {Γ Γr Γ1 : S → List Sl} {Γ' : τ → S → List Sl} {Γt : τ' → S → List Sl} {Γb : β → S → List Sl} {Γe : Empty → S → List Sl}
theorem rc_pre {m : Mn S (Ct ρ τ β)} (w : ∀ s, Wk (Γ s) (Γ1 s)) (h : RC Ret t Γ1 m Γr Γ' Γb) : RC Ret t Γ m Γr Γ' Γb := fun s I F N σ e d D q => by
  obtain ⟨I1, N1, x1, x2, x3, x4⟩ := e.wk (w s) d
  rw [← x3]
  exact h s I1 F N1 σ x4 x2 D (R.sat_imp q fun c s' q => ctup x1 q)
def ctb {S ρ τ τ' β : Type} (k : τ' → Mn S (Ct ρ τ β)) : Ct ρ τ' Empty → Mn S (Ct ρ τ β)
  | .rt x => mp (.rt x)
  | .nx x => k x
  | .br x => nomatch x
theorem rc_seqC {m1 : Mn S (Ct ρ τ' Empty)} {m2 : τ' → Mn S (Ct ρ τ β)} (h1 : RC Ret t1 Γ m1 Γr Γt Γe) (h2 : ∀ x, RC Ret t2 (Γt x) (m2 x) Γr Γ' Γb) : RC Ret (tSeq t1 t2) Γ (mb m1 (ctb m2)) Γr Γ' Γb := fun s I F N σ e d D q =>
  h1 s I F N σ e d _ (R.sat_imp (sat_mb.mp q) fun c s1 q => by
    cases c with
    | rt x => exact q
    | nx x => exact fun I1 N1 σ1 a1 d1 e1 => h2 x s1 I1 F N1 σ1 e1 d1 D (R.sat_imp q fun c s2 q => ctup a1 q)
    | br x => exact nomatch x)
theorem rc_lastC {m1 : Mn S (Ct ρ τ' Empty)} {f : τ' → τ} (h1 : RC Ret t Γ m1 Γr Γt Γe) (w : ∀ x s, Wk (Γt x s) (Γ' (f x) s)) : RC Ret t Γ (mb m1 (ctb fun x => mp (.nx (f x)))) Γr Γ' Γb := fun s I F N σ e d D q => by
  refine h1 s I F N σ e d D (R.sat_imp (sat_mb.mp q) fun c s1 q => ?_)
  cases c with
  | rt x => exact q
  | nx x =>
    intro I1 N1 σ1 a1 d1 e1
    obtain ⟨I2, N2, x1, x2, x3, x4⟩ := e1.wk (w x s1) d1
    have q2 : ∀ I' N' σ', Ex I I' → Dis N' I' → EnvOk I' F N' σ' (Γ' (f x) s1) → D.nx σ' (ov N' I') := q
    rw [← x3]
    exact q2 I2 N2 σ1 (a1.trans x1) x2 x4
  | br x => exact nomatch x
end
end
/-! ### the built-ins' names -/
theorem bt_isinstance : bootBuiltins "isinstance" = some (.builtin "isinstance") := by decide +kernel
theorem bt_int : bootBuiltins "int" = some (.type "int") := by decide +kernel
theorem bt_bool : bootBuiltins "bool" = some (.type "bool") := by decide +kernel
theorem bt_list : bootBuiltins "list" = some (.type "list") := by decide +kernel
theorem bt_tuple : bootBuiltins "tuple" = some (.type "tuple") := by decide +kernel
theorem bt_str : bootBuiltins "str" = some (.type "str") := by decide +kernel
theorem bt_len : bootBuiltins "len" = some (.builtin "len") := by decide +kernel
theorem bt_sum : bootBuiltins "sum" = some (.builtin "sum") := by decide +kernel
theorem bt_sorted : bootBuiltins "sorted" = some (.builtin "sorted") := by decide +kernel
theorem bt_abs : bootBuiltins "abs" = some (.builtin "abs") := by decide +kernel
theorem bt_min : bootBuiltins "min" = some (.builtin "min") := by decide +kernel
theorem bt_max : bootBuiltins "max" = some (.builtin "max") := by decide +kernel
theorem bt_all : bootBuiltins "all" = some (.builtin "all") := by decide +kernel
theorem bt_any : bootBuiltins "any" = some (.builtin "any") := by decide +kernel
end Mir

/-! MirM: plain laws used by several claims -/
namespace Mir
open PySem L2
section
variable {S α β τ ρ : Type}
theorem rng_zero {a : Int} : rng a 0 = [] := rfl
theorem rng_succ {a : Int} {n : Nat} : rng a (n + 1) = a :: rng (a + 1) n := by
  unfold rng
  rw [List.range_succ_eq_map, List.map_cons, List.map_map]
  congr 1
  · simp
  · apply List.map_congr_left
    intro i _
    simp only [Function.comp]
    omega
theorem rng_add {a : Int} {m n : Nat} : rng a (m + n) = rng a m ++ rng (a + m) n := by
  induction m generalizing a with
  | zero => simp [rng_zero]
  | succ m ih =>
    have e : a + 1 + (m : Int) = a + ((m + 1 : Nat) : Int) := by omega
    rw [Nat.add_right_comm, rng_succ, rng_succ, ih, List.cons_append, e]
theorem mem_rng {a x : Int} {n : Nat} : x ∈ rng a n ↔ a ≤ x ∧ x < a + n := by
  induction n generalizing a with
  | zero => exact ⟨fun h => (nomatch h), fun h => by omega⟩
  | succ n ih => rw [rng_succ, List.mem_cons, ih]; omega
theorem rng_pw {a : Int} {n : Nat} : (rng a n).Pairwise (· < ·) := by
  induction n generalizing a with
  | zero => exact .nil
  | succ n ih =>
    rw [rng_succ]
    exact .cons (fun x hx => by have := mem_rng.mp hx; omega) ih
/-- a for loop by an invariant of what is left -/
theorem sat_forP {body : α → τ → Mn S τ} {Inv : List α → τ → S → Prop} {Q : τ → S → Prop} (step : ∀ x xs t s, Inv (x :: xs) t s → (body x t s).sat fun t' s' => Inv xs t' s') (fin : ∀ t s, Inv [] t s → Q t s) : ∀ {xs : List α} {t : τ} {s : S}, Inv xs t s → (forP xs t body s).sat Q
  | [], t, s, h => fin t s h
  | x :: xs, t, s, h => sat_mb.mpr (R.sat_imp (step x xs t s h) fun t' s' h' => sat_forP step fin h')
/-- .. with ways out -/
theorem sat_forC {body : α → τ → Mn S (Ct ρ τ τ)} {Inv : List α → τ → S → Prop} {Q : Ct ρ τ β → S → Prop} (step : ∀ x xs t s, Inv (x :: xs) t s → (body x t s).sat fun c s' => match c with | .rt y => Q (.rt y) s' | .nx t' => Inv xs t' s' | .br t' => Q (.nx t') s') (fin : ∀ t s, Inv [] t s → Q (.nx t) s) : ∀ {xs : List α} {t : τ} {s : S}, Inv xs t s → (forC xs t body s).sat Q
  | [], t, s, h => fin t s h
  | x :: xs, t, s, h => sat_mb.mpr (R.sat_imp (step x xs t s h) fun c s' h' => by
      cases c with
      | rt y => exact h'
      | nx t' => exact sat_forC step fin h'
      | br t' => exact h')
theorem sat_cmGo {c : α → Mn S Bool} {f : α → Mn S β} {p : α → Bool} {g : α → β} {s : S} {Q : List β → S → Prop} : ∀ {xs : List α} {acc : List β}, (∀ x ∈ xs, (c x s).sat fun b s' => b = p x ∧ s' = s) → (∀ x ∈ xs, p x = true → (f x s).sat fun y s' => y = g x ∧ s' = s) → Q (acc ++ (xs.filter p).map g) s → (cmGo xs acc c f s).sat Q
  | [], acc, _, _, q => sat_mp.mpr (by simpa using q)
  | x :: xs, acc, hc, hf, q => by
    unfold cmGo
    refine sat_mb.mpr (R.sat_imp (hc x (List.mem_cons_self ..)) fun b s' ⟨hb, hs⟩ => ?_)
    subst hs
    rw [List.filter_cons] at q
    cases hp : p x with
    | true =>
      rw [hp] at hb q
      subst hb
      refine sat_mi.mpr ⟨fun _ => sat_mb.mpr (R.sat_imp (hf x (List.mem_cons_self ..) hp) fun y s2 ⟨hy, hs2⟩ => ?_), fun h => nomatch h⟩
      subst hy hs2
      exact sat_cmGo (fun x h => hc x (List.mem_cons_of_mem _ h)) (fun x h => hf x (List.mem_cons_of_mem _ h)) (by simpa using q)
    | false =>
      rw [hp] at hb q
      subst hb
      refine sat_mi.mpr ⟨fun h => (nomatch h), fun _ => sat_cmGo (fun x h => hc x (List.mem_cons_of_mem _ h)) (fun x h => hf x (List.mem_cons_of_mem _ h)) (by simpa using q)⟩
theorem sat_cmP {c : α → Mn S Bool} {f : α → Mn S β} {p : α → Bool} {g : α → β} {s : S} {Q : List β → S → Prop} {xs : List α} (hl : xs.length ≤ 16000000) (hc : ∀ x ∈ xs, (c x s).sat fun b s' => b = p x ∧ s' = s) (hf : ∀ x ∈ xs, p x = true → (f x s).sat fun y s' => y = g x ∧ s' = s) (q : Q ((xs.filter p).map g) s) : (cmP xs c f s).sat Q :=
  sat_mb.mpr (sat_mc.mpr ⟨decide_eq_true hl, sat_cmGo hc hf q⟩)
end
theorem sum_rep {k : Nat} {x : Int} : (List.replicate k x).sum = k * x := by
  induction k with
  | zero => simp
  | succ k ih => rw [List.replicate_succ, List.sum_cons, ih]; rw [Int.natCast_succ, Int.add_mul]; omega
theorem log2_lt' {n k : Nat} (h : n < 2 ^ k) (hk : k ≠ 0) : n.log2 < k := by
  by_cases h0 : n = 0
  · subst h0; simp; omega
  · exact (Nat.log2_lt h0).mpr h
theorem modOk_of {j : Int} (h : 0 < j) : modOk j = true := decide_eq_true h
theorem divOk_of {j : Int} (h : 0 < j) (h2 : j < 2 ^ 64) : divOk j = true := decide_eq_true ⟨h, by
  have : j.natAbs < 2 ^ 64 := by omega
  have := log2_lt' this (by decide)
  omega⟩
theorem mulOk_of {i j : Int} (h : i.natAbs < 2 ^ 64) (h2 : j.natAbs < 2 ^ 64) : mulOk i j = true := decide_eq_true (by
  have := log2_lt' h (by decide)
  have := log2_lt' h2 (by decide)
  omega)
theorem powOk_of {i j : Int} (h : i.natAbs < 2 ^ 64) (h1 : 0 ≤ j) (h2 : j ≤ 1000000) : powOk i j = true := decide_eq_true ⟨h1, h2, h⟩
theorem b62_of {i : Int} (h1 : -1000000000 ≤ i) (h2 : i ≤ 1000000000) : b62 i = true := decide_eq_true (by constructor <;> omega)
theorem atI_get' {α : Type} {xs : List α} {i : Int} (h0 : 0 ≤ i) (h1 : i < xs.length) : atI xs i = xs[i.toNat]? := by
  unfold atI ixN
  rw [if_pos h0, if_pos h1]
  rfl
theorem atI_some {α : Type} {xs : List α} {i : Int} (h0 : 0 ≤ i) (h1 : i < xs.length) : ∃ x, atI xs i = some x ∧ x ∈ xs := by
  have h : i.toNat < xs.length := by omega
  exact ⟨xs[i.toNat], by rw [atI_get' h0 h1, List.getElem?_eq_getElem h], List.getElem_mem h⟩
/-! the box's digits -/
def Gd (n : Int) (b : Box) : Prop := 0 ≤ b.great ∧ 0 ≤ b.mixed ∧ b.mixed < 2147483648 ∧ 0 ≤ b.count ∧ b.count ≤ n
end Mir

namespace L34
open PySem PySem.Spec PyProof.Rows L2 Mir
abbrev PW := PySem.Challenge.pw_sparesum_k34_price_of_a_sync
def top (i : Nat) : Stmt := PW.main.body.getD i (.Pass ⟨0, 0, 0, 0⟩)
abbrev FnP (K : PySem.W.Frag) (x : Str) (st : Stmt) (f : Addr) (fd : FuncData) : Prop := FunD K x x (defArgs st) (defBody st) (defScope st) [] [] f fd
section
variable {P : Program} {w : World} {K : PySem.W.Frag} {mg : Str → Option Value} {base : Heap}
def m_is_whole (value : Int) : Mn Unit Bool :=
  (mp ((true && (!false)) : Bool))
abbrev sp_is_whole (K : PySem.W.Frag) : Sp := Prom (rIm K) (S := Unit) (fun i : Int => [.im (pv K i)]) fun i => m_is_whole i
theorem len_is_whole : ∀ vs H Q E, sp_is_whole K vs H Q E → vs.length = 1 := prom_len (Ret := (rIm K)) (As := fun i : Int => [.im (pv K i)]) (m := fun i => m_is_whole i) fun _ => rfl
theorem sc_is_whole : FnScope ["value"] ["value"] (defScope (top 8)) := ⟨rfl, rfl, rfl, by decide +kernel, rfl, by decide +kernel, by decide +kernel⟩
theorem fo_is_whole {f : Addr} {fd : FuncData} (F : FnP K "is_whole" (top 8) f fd) (b_bool : mg "bool" = none) (b_int : mg "int" = none) (b_isinstance : mg "isinstance" = none) : FnOk P w K mg base CX0 1 f fd ["value"] (sp_is_whole K) := by
  refine F.ok sc_is_whole (len_is_whole (K := K)) (fun cdv A outer s H vs Q E hr h => ?_)
  have hl : vs.length = 1 := len_is_whole (K := K) vs H Q E h
  match vs, hl, h with
  | [v0], _, h => exact ⟨_, PSs.nox ((pss_one (ps_ret (pe_and (pe_callB call_isi rfl b_isinstance bt_isinstance (pa_cons (L2.pv 0) (pa_cons (pe_bltn (v := .ty "int") rfl b_int bt_int rfl) pa_nil))) (pe_one (pe_not (pe_callB call_isi rfl b_isinstance bt_isinstance (pa_cons (L2.pv 0) (pa_cons (pe_bltn (v := .ty "bool") rfl b_bool bt_bool rfl) pa_nil))))))))), prom_ok (n := 1) (Ret := (rIm K)) (As := fun i : Int => [.im (pv K i)]) (m := fun i => m_is_whole i) 0 (fun _ => rfl) rfl (fun value => (show RN (rIm K) _ (fun (s : Unit) => [.im (pv K value)]) (m_is_whole value) (fun (s : Unit) => [.no]) from (rn_of (rt_ret (em_pure fun _ => (ep_andV (ep_cb (ap_cons (ep_var rfl) (ap_cons ep_ty ap_nil)) (c_isi (b := true) (t := "int") ty_int (by decide +kernel))) fun _ => (ep_notV (ep_cb (ap_cons (ep_var rfl) (ap_cons ep_ty ap_nil)) (c_isi (b := false) (t := "int") ty_int (by decide +kernel)))))) fun s => (.cons (.no _) .nil))))) h⟩
theorem ok_is_whole {f : Addr} {fd : FuncData} (F : FnP K "is_whole" (top 8) f fd) (hg : mg "is_whole" = some (.ref f)) (b_bool : mg "bool" = none) (b_int : mg "int" = none) (b_isinstance : mg "isinstance" = none) : Cal P w K mg base 1 "is_whole" ["value"] (sp_is_whole K) := ⟨f, fd, fo_is_whole F b_bool b_int b_isinstance, hg, F.kp, F.bindsN fun _ _ _ _ _ _ us hl => match us, hl with | [_], _ => rfl⟩
def m_is_between (value : Int) (least : Int) (most : Int) : Mn Unit Bool :=
  (mb (mu (m_is_whole value)) fun b1 => mi b1 (mp ((decide (least ≤ value) && decide (value ≤ most)) : Bool)) (mp false))
abbrev sp_is_between (K : PySem.W.Frag) : Sp := Prom (rIm K) (S := Unit) (fun i : Int × Int × Int => [.im (pv K i.1), .im (pv K i.2.1), .im (pv K i.2.2)]) fun i => m_is_between i.1 i.2.1 i.2.2
theorem len_is_between : ∀ vs H Q E, sp_is_between K vs H Q E → vs.length = 3 := prom_len (Ret := (rIm K)) (As := fun i : Int × Int × Int => [.im (pv K i.1), .im (pv K i.2.1), .im (pv K i.2.2)]) (m := fun i => m_is_between i.1 i.2.1 i.2.2) fun _ => rfl
theorem sc_is_between : FnScope ["value", "least", "most"] ["value", "least", "most"] (defScope (top 9)) := ⟨rfl, rfl, rfl, by decide +kernel, rfl, by decide +kernel, by decide +kernel⟩
theorem fo_is_between {f : Addr} {fd : FuncData} (F : FnP K "is_between" (top 9) f fd) (C_is_whole : Cal P w K mg base 1 "is_whole" ["value"] (sp_is_whole K)) : FnOk P w K mg base CX0 2 f fd ["value", "least", "most"] (sp_is_between K) := by
  obtain ⟨f_is_whole, fd_is_whole, G_is_whole, g_is_whole, kp_is_whole, bi_is_whole⟩ := C_is_whole.ex
  refine F.ok sc_is_between (len_is_between (K := K)) (fun cdv A outer s H vs Q E hr h => ?_)
  have hl : vs.length = 3 := len_is_between (K := K) vs H Q E h
  match vs, hl, h with
  | [v0, v1, v2], _, h => exact ⟨_, PSs.nox ((pss_one (ps_ret (pe_and (pe_call G_is_whole (hr.mono (Nat.le_of_ble_eq_true rfl)) rfl g_is_whole kp_is_whole bi_is_whole .nil pass0 (pa_cons (L2.pv 0) pa_nil)) (pe_one (pe_chain op_le op_le (L2.pv 1) (L2.pv 0) (L2.pv 2))))))), prom_ok (n := 3) (Ret := (rIm K)) (As := fun i : Int × Int × Int => [.im (pv K i.1), .im (pv K i.2.1), .im (pv K i.2.2)]) (m := fun i => m_is_between i.1 i.2.1 i.2.2) 0 (fun _ => rfl) rfl (fun (value, least, most) => (show RN (rIm K) _ (fun (s : Unit) => [.im (pv K value), .im (pv K least), .im (pv K most)]) (m_is_between value least most) (fun (s : Unit) => [.no, .no, .no]) from (rn_of (rt_ret (em_andV (em_of_eo (eo_call0 (i := value) (ps := [pv K value]) (fun _ => (ap_cons (ep_var rfl) ap_nil)) rfl)) (em_pure fun _ => (ep_chain (ep_var rfl) (ep_var rfl) (ep_var rfl) o_le o_le))) fun s => (.cons (.no _) (.cons (.no _) (.cons (.no _) .nil))))))) h⟩
theorem ok_is_between {f : Addr} {fd : FuncData} (F : FnP K "is_between" (top 9) f fd) (hg : mg "is_between" = some (.ref f)) (C_is_whole : Cal P w K mg base 1 "is_whole" ["value"] (sp_is_whole K)) : Cal P w K mg base 2 "is_between" ["value", "least", "most"] (sp_is_between K) := ⟨f, fd, fo_is_between F C_is_whole, hg, F.kp, F.bindsN fun _ _ _ _ _ _ us hl => match us, hl with | [_, _, _], _ => rfl⟩
def m_spread (held : Int) (need : Int) (lost : Int) : Mn Unit Int :=
  (mb (mb (mc (divOk need) (((held + need) - (1 : Int)) / need)) fun y3 => mc (mulOk lost y3) (lost * y3)) fun y5 => mp (held + y5))
abbrev sp_spread (K : PySem.W.Frag) : Sp := Prom (rIm K) (S := Unit) (fun i : Int × Int × Int => [.im (pv K i.1), .im (pv K i.2.1), .im (pv K i.2.2)]) fun i => m_spread i.1 i.2.1 i.2.2
theorem len_spread : ∀ vs H Q E, sp_spread K vs H Q E → vs.length = 3 := prom_len (Ret := (rIm K)) (As := fun i : Int × Int × Int => [.im (pv K i.1), .im (pv K i.2.1), .im (pv K i.2.2)]) (m := fun i => m_spread i.1 i.2.1 i.2.2) fun _ => rfl
theorem sc_spread : FnScope ["held", "need", "lost"] ["held", "need", "lost"] (defScope (top 12)) := ⟨rfl, rfl, rfl, by decide +kernel, rfl, by decide +kernel, by decide +kernel⟩
theorem fo_spread {f : Addr} {fd : FuncData} (F : FnP K "spread" (top 12) f fd) : FnOk P w K mg base CX0 1 f fd ["held", "need", "lost"] (sp_spread K) := by
  refine F.ok sc_spread (len_spread (K := K)) (fun cdv A outer s H vs Q E hr h => ?_)
  have hl : vs.length = 3 := len_spread (K := K) vs H Q E h
  match vs, hl, h with
  | [v0, v1, v2], _, h => exact ⟨_, PSs.nox ((pss_one (ps_ret (pe_op op_add (L2.pv 0) (pe_op op_mulW (L2.pv 2) (pe_op op_fdivW (pe_op op_sub (pe_op op_add (L2.pv 0) (L2.pv 1)) pe_int) (L2.pv 1))))))), prom_ok (n := 3) (Ret := (rIm K)) (As := fun i : Int × Int × Int => [.im (pv K i.1), .im (pv K i.2.1), .im (pv K i.2.2)]) (m := fun i => m_spread i.1 i.2.1 i.2.2) 0 (fun _ => rfl) rfl (fun (held, need, lost) => (show RN (rIm K) _ (fun (s : Unit) => [.im (pv K held), .im (pv K need), .im (pv K lost)]) (m_spread held need lost) (fun (s : Unit) => [.no, .no, .no]) from (rn_of (rt_ret (em_opl (g := fun (u : Int) (v : Int) => (u + v)) (fun _ => (ep_var rfl)) (em_oplC (g := fun (u : Int) (v : Int) => (u * v)) (c := fun (u : Int) (v : Int) => mulOk u v) (fun _ => (ep_var rfl)) (em_opC2 (fun _ => (ep_op (ep_op (ep_var rfl) (ep_var rfl) o_add) (ep_int (K := K)) o_sub)) (fun _ => (ep_var rfl)) fun h => o_divW h) fun _ h => (o_mulW h)) fun _ => o_add) fun s => (.cons (.no _) (.cons (.no _) (.cons (.no _) .nil))))))) h⟩
theorem ok_spread {f : Addr} {fd : FuncData} (F : FnP K "spread" (top 12) f fd) (hg : mg "spread" = some (.ref f)) : Cal P w K mg base 1 "spread" ["held", "need", "lost"] (sp_spread K) := ⟨f, fd, fo_spread F, hg, F.kp, F.bindsN fun _ _ _ _ _ _ us hl => match us, hl with | [_, _, _], _ => rfl⟩
def m_check_disks (disks : Int) : Mn Unit Unit :=
  (mb (mb (mu (m_is_between disks ((1 : Int) : Int) ((12 : Int) : Int))) fun b6 => mp (!b6)) fun b => mi b
    mbad
    (mp ()))
abbrev sp_check_disks (K : PySem.W.Frag) : Sp := Prom (rIm K) (S := Unit) (fun i : Int => [.im (pv K i)]) fun i => m_check_disks i
theorem len_check_disks : ∀ vs H Q E, sp_check_disks K vs H Q E → vs.length = 1 := prom_len (Ret := (rIm K)) (As := fun i : Int => [.im (pv K i)]) (m := fun i => m_check_disks i) fun _ => rfl
theorem sc_check_disks : FnScope ["disks"] ["disks"] (defScope (top 16)) := ⟨rfl, rfl, rfl, by decide +kernel, rfl, by decide +kernel, by decide +kernel⟩
theorem fo_check_disks {f : Addr} {fd : FuncData} (F : FnP K "check_disks" (top 16) f fd) (c_MOST_DISKS : ∃ t, mg "MOST_DISKS" = some (.int 12 t)) (C_is_between : Cal P w K mg base 2 "is_between" ["value", "least", "most"] (sp_is_between K)) : FnOk P w K mg base CX0 3 f fd ["disks"] (sp_check_disks K) := by
  obtain ⟨t_MOST_DISKS, c_MOST_DISKS⟩ := c_MOST_DISKS
  obtain ⟨f_is_between, fd_is_between, G_is_between, g_is_between, kp_is_between, bi_is_between⟩ := C_is_between.ex
  refine F.ok sc_check_disks (len_check_disks (K := K)) (fun cdv A outer s H vs Q E hr h => ?_)
  have hl : vs.length = 1 := len_check_disks (K := K) vs H Q E h
  match vs, hl, h with
  | [v0], _, h => exact ⟨_, PSs.nox ((pss_one (ps_if (pt_not (pt_val (pe_call G_is_between (hr.mono (Nat.le_of_ble_eq_true rfl)) rfl g_is_between kp_is_between bi_is_between .nil pass0 (pa_cons (L2.pv 0) (pa_cons pe_int (pa_cons (pe_glob (v := .int 12) rfl c_MOST_DISKS ⟨_, rfl⟩) pa_nil)))))) (pss_one ps_never) pss_nil))), prom_ok (n := 1) (Ret := (rIm K)) (As := fun i : Int => [.im (pv K i)]) (m := fun i => m_check_disks i) 0 (fun _ => rfl) rfl (fun disks => (show RN (rIm K) _ (fun (s : Unit) => [.im (pv K disks)]) (m_check_disks disks) (fun (s : Unit) => [.no]) from ((rn_if (tm_not (tm_B (em_of_eo (eo_call0 (i := (disks, ((1 : Int) : Int), ((12 : Int) : Int))) (ps := [pv K disks, pv K ((1 : Int) : Int), pv K ((12 : Int) : Int)]) (fun _ => (ap_cons (ep_var rfl) (ap_cons (ep_int (K := K)) (ap_cons (ep_int (K := K)) ap_nil)))) rfl)))) (rn_of rt_never) (rn_next fun s => (.cons (.no _) .nil)))))) h⟩
theorem ok_check_disks {f : Addr} {fd : FuncData} (F : FnP K "check_disks" (top 16) f fd) (hg : mg "check_disks" = some (.ref f)) (c_MOST_DISKS : ∃ t, mg "MOST_DISKS" = some (.int 12 t)) (C_is_between : Cal P w K mg base 2 "is_between" ["value", "least", "most"] (sp_is_between K)) : Cal P w K mg base 3 "check_disks" ["disks"] (sp_check_disks K) := ⟨f, fd, fo_check_disks F c_MOST_DISKS C_is_between, hg, F.kp, F.bindsN fun _ _ _ _ _ _ us hl => match us, hl with | [_], _ => rfl⟩
def m_check_lost (lost : Int) (most : Int) : Mn Unit Unit :=
  (mb (mb (mu (m_is_between lost ((0 : Int) : Int) most)) fun b7 => mp (!b7)) fun b => mi b
    mbad
    (mp ()))
abbrev sp_check_lost (K : PySem.W.Frag) : Sp := Prom (rIm K) (S := Unit) (fun i : Int × Int => [.im (pv K i.1), .im (pv K i.2)]) fun i => m_check_lost i.1 i.2
theorem len_check_lost : ∀ vs H Q E, sp_check_lost K vs H Q E → vs.length = 2 := prom_len (Ret := (rIm K)) (As := fun i : Int × Int => [.im (pv K i.1), .im (pv K i.2)]) (m := fun i => m_check_lost i.1 i.2) fun _ => rfl
theorem sc_check_lost : FnScope ["lost", "most"] ["lost", "most"] (defScope (top 17)) := ⟨rfl, rfl, rfl, by decide +kernel, rfl, by decide +kernel, by decide +kernel⟩
theorem fo_check_lost {f : Addr} {fd : FuncData} (F : FnP K "check_lost" (top 17) f fd) (C_is_between : Cal P w K mg base 2 "is_between" ["value", "least", "most"] (sp_is_between K)) : FnOk P w K mg base CX0 3 f fd ["lost", "most"] (sp_check_lost K) := by
  obtain ⟨f_is_between, fd_is_between, G_is_between, g_is_between, kp_is_between, bi_is_between⟩ := C_is_between.ex
  refine F.ok sc_check_lost (len_check_lost (K := K)) (fun cdv A outer s H vs Q E hr h => ?_)
  have hl : vs.length = 2 := len_check_lost (K := K) vs H Q E h
  match vs, hl, h with
  | [v0, v1], _, h => exact ⟨_, PSs.nox ((pss_one (ps_if (pt_not (pt_val (pe_call G_is_between (hr.mono (Nat.le_of_ble_eq_true rfl)) rfl g_is_between kp_is_between bi_is_between .nil pass0 (pa_cons (L2.pv 0) (pa_cons pe_int (pa_cons (L2.pv 1) pa_nil)))))) (pss_one ps_never) pss_nil))), prom_ok (n := 2) (Ret := (rIm K)) (As := fun i : Int × Int => [.im (pv K i.1), .im (pv K i.2)]) (m := fun i => m_check_lost i.1 i.2) 0 (fun _ => rfl) rfl (fun (lost, most) => (show RN (rIm K) _ (fun (s : Unit) => [.im (pv K lost), .im (pv K most)]) (m_check_lost lost most) (fun (s : Unit) => [.no, .no]) from ((rn_if (tm_not (tm_B (em_of_eo (eo_call0 (i := (lost, ((0 : Int) : Int), most)) (ps := [pv K lost, pv K ((0 : Int) : Int), pv K most]) (fun _ => (ap_cons (ep_var rfl) (ap_cons (ep_int (K := K)) (ap_cons (ep_var rfl) ap_nil)))) rfl)))) (rn_of rt_never) (rn_next fun s => (.cons (.no _) (.cons (.no _) .nil))))))) h⟩
theorem ok_check_lost {f : Addr} {fd : FuncData} (F : FnP K "check_lost" (top 17) f fd) (hg : mg "check_lost" = some (.ref f)) (C_is_between : Cal P w K mg base 2 "is_between" ["value", "least", "most"] (sp_is_between K)) : Cal P w K mg base 3 "check_lost" ["lost", "most"] (sp_check_lost K) := ⟨f, fd, fo_check_lost F C_is_between, hg, F.kp, F.bindsN fun _ _ _ _ _ _ us hl => match us, hl with | [_, _], _ => rfl⟩
def m_check_symbols (symbols : Int) : Mn Unit Unit :=
  (mb (mb (mu (m_is_between symbols ((1 : Int) : Int) ((64 : Int) : Int))) fun b8 => mp (!b8)) fun b => mi b
    mbad
    (mp ()))
abbrev sp_check_symbols (K : PySem.W.Frag) : Sp := Prom (rIm K) (S := Unit) (fun i : Int => [.im (pv K i)]) fun i => m_check_symbols i
theorem len_check_symbols : ∀ vs H Q E, sp_check_symbols K vs H Q E → vs.length = 1 := prom_len (Ret := (rIm K)) (As := fun i : Int => [.im (pv K i)]) (m := fun i => m_check_symbols i) fun _ => rfl
theorem sc_check_symbols : FnScope ["symbols"] ["symbols"] (defScope (top 18)) := ⟨rfl, rfl, rfl, by decide +kernel, rfl, by decide +kernel, by decide +kernel⟩
theorem fo_check_symbols {f : Addr} {fd : FuncData} (F : FnP K "check_symbols" (top 18) f fd) (c_MOST_AT_ONCE : ∃ t, mg "MOST_AT_ONCE" = some (.int 64 t)) (C_is_between : Cal P w K mg base 2 "is_between" ["value", "least", "most"] (sp_is_between K)) : FnOk P w K mg base CX0 3 f fd ["symbols"] (sp_check_symbols K) := by
  obtain ⟨t_MOST_AT_ONCE, c_MOST_AT_ONCE⟩ := c_MOST_AT_ONCE
  obtain ⟨f_is_between, fd_is_between, G_is_between, g_is_between, kp_is_between, bi_is_between⟩ := C_is_between.ex
  refine F.ok sc_check_symbols (len_check_symbols (K := K)) (fun cdv A outer s H vs Q E hr h => ?_)
  have hl : vs.length = 1 := len_check_symbols (K := K) vs H Q E h
  match vs, hl, h with
  | [v0], _, h => exact ⟨_, PSs.nox ((pss_one (ps_if (pt_not (pt_val (pe_call G_is_between (hr.mono (Nat.le_of_ble_eq_true rfl)) rfl g_is_between kp_is_between bi_is_between .nil pass0 (pa_cons (L2.pv 0) (pa_cons pe_int (pa_cons (pe_glob (v := .int 64) rfl c_MOST_AT_ONCE ⟨_, rfl⟩) pa_nil)))))) (pss_one ps_never) pss_nil))), prom_ok (n := 1) (Ret := (rIm K)) (As := fun i : Int => [.im (pv K i)]) (m := fun i => m_check_symbols i) 0 (fun _ => rfl) rfl (fun symbols => (show RN (rIm K) _ (fun (s : Unit) => [.im (pv K symbols)]) (m_check_symbols symbols) (fun (s : Unit) => [.no]) from ((rn_if (tm_not (tm_B (em_of_eo (eo_call0 (i := (symbols, ((1 : Int) : Int), ((64 : Int) : Int))) (ps := [pv K symbols, pv K ((1 : Int) : Int), pv K ((64 : Int) : Int)]) (fun _ => (ap_cons (ep_var rfl) (ap_cons (ep_int (K := K)) (ap_cons (ep_int (K := K)) ap_nil)))) rfl)))) (rn_of rt_never) (rn_next fun s => (.cons (.no _) .nil)))))) h⟩
theorem ok_check_symbols {f : Addr} {fd : FuncData} (F : FnP K "check_symbols" (top 18) f fd) (hg : mg "check_symbols" = some (.ref f)) (c_MOST_AT_ONCE : ∃ t, mg "MOST_AT_ONCE" = some (.int 64 t)) (C_is_between : Cal P w K mg base 2 "is_between" ["value", "least", "most"] (sp_is_between K)) : Cal P w K mg base 3 "check_symbols" ["symbols"] (sp_check_symbols K) := ⟨f, fd, fo_check_symbols F c_MOST_AT_ONCE C_is_between, hg, F.kp, F.bindsN fun _ _ _ _ _ _ us hl => match us, hl with | [_], _ => rfl⟩
def m_check_pending (pending : Int) : Mn Unit Unit :=
  (mb (mb (mu (m_is_between pending ((1 : Int) : Int) ((64 : Int) : Int))) fun b9 => mp (!b9)) fun b => mi b
    mbad
    (mp ()))
abbrev sp_check_pending (K : PySem.W.Frag) : Sp := Prom (rIm K) (S := Unit) (fun i : Int => [.im (pv K i)]) fun i => m_check_pending i
theorem len_check_pending : ∀ vs H Q E, sp_check_pending K vs H Q E → vs.length = 1 := prom_len (Ret := (rIm K)) (As := fun i : Int => [.im (pv K i)]) (m := fun i => m_check_pending i) fun _ => rfl
theorem sc_check_pending : FnScope ["pending"] ["pending"] (defScope (top 19)) := ⟨rfl, rfl, rfl, by decide +kernel, rfl, by decide +kernel, by decide +kernel⟩
theorem fo_check_pending {f : Addr} {fd : FuncData} (F : FnP K "check_pending" (top 19) f fd) (c_MOST_AT_ONCE : ∃ t, mg "MOST_AT_ONCE" = some (.int 64 t)) (C_is_between : Cal P w K mg base 2 "is_between" ["value", "least", "most"] (sp_is_between K)) : FnOk P w K mg base CX0 3 f fd ["pending"] (sp_check_pending K) := by
  obtain ⟨t_MOST_AT_ONCE, c_MOST_AT_ONCE⟩ := c_MOST_AT_ONCE
  obtain ⟨f_is_between, fd_is_between, G_is_between, g_is_between, kp_is_between, bi_is_between⟩ := C_is_between.ex
  refine F.ok sc_check_pending (len_check_pending (K := K)) (fun cdv A outer s H vs Q E hr h => ?_)
  have hl : vs.length = 1 := len_check_pending (K := K) vs H Q E h
  match vs, hl, h with
  | [v0], _, h => exact ⟨_, PSs.nox ((pss_one (ps_if (pt_not (pt_val (pe_call G_is_between (hr.mono (Nat.le_of_ble_eq_true rfl)) rfl g_is_between kp_is_between bi_is_between .nil pass0 (pa_cons (L2.pv 0) (pa_cons pe_int (pa_cons (pe_glob (v := .int 64) rfl c_MOST_AT_ONCE ⟨_, rfl⟩) pa_nil)))))) (pss_one ps_never) pss_nil))), prom_ok (n := 1) (Ret := (rIm K)) (As := fun i : Int => [.im (pv K i)]) (m := fun i => m_check_pending i) 0 (fun _ => rfl) rfl (fun pending => (show RN (rIm K) _ (fun (s : Unit) => [.im (pv K pending)]) (m_check_pending pending) (fun (s : Unit) => [.no]) from ((rn_if (tm_not (tm_B (em_of_eo (eo_call0 (i := (pending, ((1 : Int) : Int), ((64 : Int) : Int))) (ps := [pv K pending, pv K ((1 : Int) : Int), pv K ((64 : Int) : Int)]) (fun _ => (ap_cons (ep_var rfl) (ap_cons (ep_int (K := K)) (ap_cons (ep_int (K := K)) ap_nil)))) rfl)))) (rn_of rt_never) (rn_next fun s => (.cons (.no _) .nil)))))) h⟩
theorem ok_check_pending {f : Addr} {fd : FuncData} (F : FnP K "check_pending" (top 19) f fd) (hg : mg "check_pending" = some (.ref f)) (c_MOST_AT_ONCE : ∃ t, mg "MOST_AT_ONCE" = some (.int 64 t)) (C_is_between : Cal P w K mg base 2 "is_between" ["value", "least", "most"] (sp_is_between K)) : Cal P w K mg base 3 "check_pending" ["pending"] (sp_check_pending K) := ⟨f, fd, fo_check_pending F c_MOST_AT_ONCE C_is_between, hg, F.kp, F.bindsN fun _ _ _ _ _ _ us hl => match us, hl with | [_], _ => rfl⟩
def m_heads_for (need : Int) (lost : Int) (symbols : Int) (pending : Int) : Mn Unit Int :=
  (mb (mu (m_check_disks need)) fun u10 =>
  (mb (mu (m_check_lost lost (((12 : Int) - (1 : Int)) : Int))) fun u11 =>
  (mb (mu (m_check_symbols symbols)) fun u12 =>
  (mb (mu (m_check_pending pending)) fun u13 =>
  (mu (m_spread ((symbols + pending) : Int) need lost))))))
abbrev sp_heads_for (K : PySem.W.Frag) : Sp := Prom (rIm K) (S := Unit) (fun i : Int × Int × Int × Int => [.im (pv K i.1), .im (pv K i.2.1), .im (pv K i.2.2.1), .im (pv K i.2.2.2)]) fun i => m_heads_for i.1 i.2.1 i.2.2.1 i.2.2.2
theorem len_heads_for : ∀ vs H Q E, sp_heads_for K vs H Q E → vs.length = 4 := prom_len (Ret := (rIm K)) (As := fun i : Int × Int × Int × Int => [.im (pv K i.1), .im (pv K i.2.1), .im (pv K i.2.2.1), .im (pv K i.2.2.2)]) (m := fun i => m_heads_for i.1 i.2.1 i.2.2.1 i.2.2.2) fun _ => rfl
theorem sc_heads_for : FnScope ["need", "lost", "symbols", "pending"] ["need", "lost", "symbols", "pending"] (defScope (top 20)) := ⟨rfl, rfl, rfl, by decide +kernel, rfl, by decide +kernel, by decide +kernel⟩
theorem fo_heads_for {f : Addr} {fd : FuncData} (F : FnP K "heads_for" (top 20) f fd) (c_MOST_DISKS : ∃ t, mg "MOST_DISKS" = some (.int 12 t)) (C_check_disks : Cal P w K mg base 3 "check_disks" ["disks"] (sp_check_disks K)) (C_check_lost : Cal P w K mg base 3 "check_lost" ["lost", "most"] (sp_check_lost K)) (C_check_symbols : Cal P w K mg base 3 "check_symbols" ["symbols"] (sp_check_symbols K)) (C_check_pending : Cal P w K mg base 3 "check_pending" ["pending"] (sp_check_pending K)) (C_spread : Cal P w K mg base 1 "spread" ["held", "need", "lost"] (sp_spread K)) : FnOk P w K mg base CX0 4 f fd ["need", "lost", "symbols", "pending"] (sp_heads_for K) := by
  obtain ⟨t_MOST_DISKS, c_MOST_DISKS⟩ := c_MOST_DISKS
  obtain ⟨f_check_disks, fd_check_disks, G_check_disks, g_check_disks, kp_check_disks, bi_check_disks⟩ := C_check_disks.ex
  obtain ⟨f_check_lost, fd_check_lost, G_check_lost, g_check_lost, kp_check_lost, bi_check_lost⟩ := C_check_lost.ex
  obtain ⟨f_check_symbols, fd_check_symbols, G_check_symbols, g_check_symbols, kp_check_symbols, bi_check_symbols⟩ := C_check_symbols.ex
  obtain ⟨f_check_pending, fd_check_pending, G_check_pending, g_check_pending, kp_check_pending, bi_check_pending⟩ := C_check_pending.ex
  obtain ⟨f_spread, fd_spread, G_spread, g_spread, kp_spread, bi_spread⟩ := C_spread.ex
  refine F.ok sc_heads_for (len_heads_for (K := K)) (fun cdv A outer s H vs Q E hr h => ?_)
  have hl : vs.length = 4 := len_heads_for (K := K) vs H Q E h
  match vs, hl, h with
  | [v0, v1, v2, v3], _, h => exact ⟨_, PSs.nox ((pss_cons (ps_expr (pe_call G_check_disks (hr.mono (Nat.le_of_ble_eq_true rfl)) rfl g_check_disks kp_check_disks bi_check_disks .nil pass0 (pa_cons (L2.pv 0) pa_nil))) (pss_cons (ps_expr (pe_call G_check_lost (hr.mono (Nat.le_of_ble_eq_true rfl)) rfl g_check_lost kp_check_lost bi_check_lost .nil pass0 (pa_cons (L2.pv 1) (pa_cons (pe_op op_sub (pe_glob (v := .int 12) rfl c_MOST_DISKS ⟨_, rfl⟩) pe_int) pa_nil)))) (pss_cons (ps_expr (pe_call G_check_symbols (hr.mono (Nat.le_of_ble_eq_true rfl)) rfl g_check_symbols kp_check_symbols bi_check_symbols .nil pass0 (pa_cons (L2.pv 2) pa_nil))) (pss_cons (ps_expr (pe_call G_check_pending (hr.mono (Nat.le_of_ble_eq_true rfl)) rfl g_check_pending kp_check_pending bi_check_pending .nil pass0 (pa_cons (L2.pv 3) pa_nil))) (pss_one (ps_ret (pe_call G_spread (hr.mono (Nat.le_of_ble_eq_true rfl)) rfl g_spread kp_spread bi_spread .nil pass0 (pa_cons (pe_op op_add (L2.pv 2) (L2.pv 3)) (pa_cons (L2.pv 0) (pa_cons (L2.pv 1) pa_nil))))))))))), prom_ok (n := 4) (Ret := (rIm K)) (As := fun i : Int × Int × Int × Int => [.im (pv K i.1), .im (pv K i.2.1), .im (pv K i.2.2.1), .im (pv K i.2.2.2)]) (m := fun i => m_heads_for i.1 i.2.1 i.2.2.1 i.2.2.2) 0 (fun _ => rfl) rfl (fun (need, lost, symbols, pending) => (show RN (rIm K) _ (fun (s : Unit) => [.im (pv K need), .im (pv K lost), .im (pv K symbols), .im (pv K pending)]) (m_heads_for need lost symbols pending) (fun (s : Unit) => [.no, .no, .no, .no]) from (rn_of (rt_seq (rp_drop (em_of_eo (eo_call0 (i := need) (ps := [pv K need]) (fun _ => (ap_cons (ep_var rfl) ap_nil)) rfl))) fun u10 => (rt_seq (rp_drop (em_of_eo (eo_call0 (i := (lost, (((12 : Int) - (1 : Int)) : Int))) (ps := [pv K lost, pv K (((12 : Int) - (1 : Int)) : Int)]) (fun _ => (ap_cons (ep_var rfl) (ap_cons (ep_op (ep_int (K := K)) (ep_int (K := K)) o_sub) ap_nil))) rfl))) fun u11 => (rt_seq (rp_drop (em_of_eo (eo_call0 (i := symbols) (ps := [pv K symbols]) (fun _ => (ap_cons (ep_var rfl) ap_nil)) rfl))) fun u12 => (rt_seq (rp_drop (em_of_eo (eo_call0 (i := pending) (ps := [pv K pending]) (fun _ => (ap_cons (ep_var rfl) ap_nil)) rfl))) fun u13 => (rt_ret (em_of_eo (eo_call0 (i := (((symbols + pending) : Int), need, lost)) (ps := [pv K ((symbols + pending) : Int), pv K need, pv K lost]) (fun _ => (ap_cons (ep_op (ep_var rfl) (ep_var rfl) o_add) (ap_cons (ep_var rfl) (ap_cons (ep_var rfl) ap_nil)))) rfl)) fun s => (.cons (.no _) (.cons (.no _) (.cons (.no _) (.cons (.no _) .nil)))))))))))) h⟩
theorem ok_heads_for {f : Addr} {fd : FuncData} (F : FnP K "heads_for" (top 20) f fd) (hg : mg "heads_for" = some (.ref f)) (c_MOST_DISKS : ∃ t, mg "MOST_DISKS" = some (.int 12 t)) (C_check_disks : Cal P w K mg base 3 "check_disks" ["disks"] (sp_check_disks K)) (C_check_lost : Cal P w K mg base 3 "check_lost" ["lost", "most"] (sp_check_lost K)) (C_check_symbols : Cal P w K mg base 3 "check_symbols" ["symbols"] (sp_check_symbols K)) (C_check_pending : Cal P w K mg base 3 "check_pending" ["pending"] (sp_check_pending K)) (C_spread : Cal P w K mg base 1 "spread" ["held", "need", "lost"] (sp_spread K)) : Cal P w K mg base 4 "heads_for" ["need", "lost", "symbols", "pending"] (sp_heads_for K) := ⟨f, fd, fo_heads_for F c_MOST_DISKS C_check_disks C_check_lost C_check_symbols C_check_pending C_spread, hg, F.kp, F.bindsN fun _ _ _ _ _ _ us hl => match us, hl with | [_, _, _, _], _ => rfl⟩
def gl_heads_for__pending_lost_symbols_need : List Value → List Value → List Value
  | [], [a0, a1, a2, a3] => [a3, a1, a2, a0]
  | _, _ => []
def gv_heads_for__pending_lost_symbols_need : List V → List V → List V
  | [], [a0, a1, a2, a3] => [a3, a1, a2, a0]
  | _, _ => []
theorem kb_heads_for__pending_lost_symbols_need {f : Addr} {fd : FuncData} (F : FnP K "heads_for" (top 20) f fd) : KBinds K fd ["need", "lost", "symbols", "pending"] ["pending", "lost", "symbols", "need"] gl_heads_for__pending_lost_symbols_need gv_heads_for__pending_lost_symbols_need := by
  obtain ⟨oc, od, dV, kV, doc, pm, an, cdv, ct, osl, rfl, lk, hcd, hD, hK⟩ := F.ex
  rcases hD with ⟨_, rfl⟩ | ⟨e, _⟩
  · refine ⟨fun s us ws X hl => ?_, fun {vs us zs ws} r1 r2 => ?_⟩
    · match us, ws, hl with
      | [], [a0, a1, a2, a3], _ => exact .of_eq rfl
    · match vs, us, zs, ws, r1, r2 with
      | [], [], [_, _, _, _], [_, _, _, _], .nil, (.cons r0 (.cons r1 (.cons r2 (.cons r3 .nil)))) => exact (.cons r3 (.cons r1 (.cons r2 (.cons r0 .nil))))
      | _ :: _, _ :: _, _, _, .cons _ _, _ => exact .nil
      | [], [], [], [], .nil, .nil => exact .nil
      | [], [], [_], [_], .nil, (.cons _ .nil) => exact .nil
      | [], [], [_, _], [_, _], .nil, (.cons _ (.cons _ .nil)) => exact .nil
      | [], [], [_, _, _], [_, _, _], .nil, (.cons _ (.cons _ (.cons _ .nil))) => exact .nil
      | [], [], _ :: _ :: _ :: _ :: _ :: _, _ :: _ :: _ :: _ :: _ :: _, .nil, (.cons _ (.cons _ (.cons _ (.cons _ (.cons _ _))))) => exact .nil
  · exact absurd rfl e
theorem okK_heads_for__pending_lost_symbols_need {f : Addr} {fd : FuncData} (F : FnP K "heads_for" (top 20) f fd) (hg : mg "heads_for" = some (.ref f)) (c_MOST_DISKS : ∃ t, mg "MOST_DISKS" = some (.int 12 t)) (C_check_disks : Cal P w K mg base 3 "check_disks" ["disks"] (sp_check_disks K)) (C_check_lost : Cal P w K mg base 3 "check_lost" ["lost", "most"] (sp_check_lost K)) (C_check_symbols : Cal P w K mg base 3 "check_symbols" ["symbols"] (sp_check_symbols K)) (C_check_pending : Cal P w K mg base 3 "check_pending" ["pending"] (sp_check_pending K)) (C_spread : Cal P w K mg base 1 "spread" ["held", "need", "lost"] (sp_spread K)) : CalK P w K mg base 4 "heads_for" ["need", "lost", "symbols", "pending"] (sp_heads_for K) ["pending", "lost", "symbols", "need"] gl_heads_for__pending_lost_symbols_need gv_heads_for__pending_lost_symbols_need := ⟨f, fd, fo_heads_for F c_MOST_DISKS C_check_disks C_check_lost C_check_symbols C_check_pending C_spread, hg, F.kp, kb_heads_for__pending_lost_symbols_need F⟩
def m_syncs_for (heads : Int) (pending : Int) : Mn Unit Int :=
  (mb (mb (mu (m_is_between heads ((1 : Int) : Int) ((2000 : Int) : Int))) fun b14 => mp (!b14)) fun b => mi b
    mbad
    (mb (mu (m_check_pending pending)) fun u15 =>
  (mb (mb (mc (divOk pending) (((heads + pending) - (1 : Int)) / pending)) fun y17 => mp ((2 : Int) * y17)) fun x18 => mp (x18 + (2 : Int)))))
abbrev sp_syncs_for (K : PySem.W.Frag) : Sp := Prom (rIm K) (S := Unit) (fun i : Int × Int => [.im (pv K i.1), .im (pv K i.2)]) fun i => m_syncs_for i.1 i.2
theorem len_syncs_for : ∀ vs H Q E, sp_syncs_for K vs H Q E → vs.length = 2 := prom_len (Ret := (rIm K)) (As := fun i : Int × Int => [.im (pv K i.1), .im (pv K i.2)]) (m := fun i => m_syncs_for i.1 i.2) fun _ => rfl
theorem sc_syncs_for : FnScope ["heads", "pending"] ["heads", "pending"] (defScope (top 21)) := ⟨rfl, rfl, rfl, by decide +kernel, rfl, by decide +kernel, by decide +kernel⟩
theorem fo_syncs_for {f : Addr} {fd : FuncData} (F : FnP K "syncs_for" (top 21) f fd) (c_MOST_HEADS : ∃ t, mg "MOST_HEADS" = some (.int 2000 t)) (C_is_between : Cal P w K mg base 2 "is_between" ["value", "least", "most"] (sp_is_between K)) (C_check_pending : Cal P w K mg base 3 "check_pending" ["pending"] (sp_check_pending K)) : FnOk P w K mg base CX0 4 f fd ["heads", "pending"] (sp_syncs_for K) := by
  obtain ⟨t_MOST_HEADS, c_MOST_HEADS⟩ := c_MOST_HEADS
  obtain ⟨f_is_between, fd_is_between, G_is_between, g_is_between, kp_is_between, bi_is_between⟩ := C_is_between.ex
  obtain ⟨f_check_pending, fd_check_pending, G_check_pending, g_check_pending, kp_check_pending, bi_check_pending⟩ := C_check_pending.ex
  refine F.ok sc_syncs_for (len_syncs_for (K := K)) (fun cdv A outer s H vs Q E hr h => ?_)
  have hl : vs.length = 2 := len_syncs_for (K := K) vs H Q E h
  match vs, hl, h with
  | [v0, v1], _, h => exact ⟨_, PSs.nox ((pss_cons (ps_if (pt_not (pt_val (pe_call G_is_between (hr.mono (Nat.le_of_ble_eq_true rfl)) rfl g_is_between kp_is_between bi_is_between .nil pass0 (pa_cons (L2.pv 0) (pa_cons pe_int (pa_cons (pe_glob (v := .int 2000) rfl c_MOST_HEADS ⟨_, rfl⟩) pa_nil)))))) (pss_one ps_never) pss_nil) (pss_cons (ps_expr (pe_call G_check_pending (hr.mono (Nat.le_of_ble_eq_true rfl)) rfl g_check_pending kp_check_pending bi_check_pending .nil pass0 (pa_cons (L2.pv 1) pa_nil))) (pss_one (ps_ret (pe_op op_add (pe_op op_mul pe_int (pe_op op_fdivW (pe_op op_sub (pe_op op_add (L2.pv 0) (L2.pv 1)) pe_int) (L2.pv 1))) pe_int)))))), prom_ok (n := 2) (Ret := (rIm K)) (As := fun i : Int × Int => [.im (pv K i.1), .im (pv K i.2)]) (m := fun i => m_syncs_for i.1 i.2) 0 (fun _ => rfl) rfl (fun (heads, pending) => (show RN (rIm K) _ (fun (s : Unit) => [.im (pv K heads), .im (pv K pending)]) (m_syncs_for heads pending) (fun (s : Unit) => [.no, .no]) from (rn_of (rt_ifr (tm_not (tm_B (em_of_eo (eo_call0 (i := (heads, ((1 : Int) : Int), ((2000 : Int) : Int))) (ps := [pv K heads, pv K ((1 : Int) : Int), pv K ((2000 : Int) : Int)]) (fun _ => (ap_cons (ep_var rfl) (ap_cons (ep_int (K := K)) (ap_cons (ep_int (K := K)) ap_nil)))) rfl)))) rt_never (rt_seq (rp_drop (em_of_eo (eo_call0 (i := pending) (ps := [pv K pending]) (fun _ => (ap_cons (ep_var rfl) ap_nil)) rfl))) fun u15 => (rt_ret (em_opr (g := fun (u : Int) (v : Int) => (u + v)) (em_opl (g := fun (u : Int) (v : Int) => (u * v)) (fun _ => (ep_int (K := K))) (em_opC2 (fun _ => (ep_op (ep_op (ep_var rfl) (ep_var rfl) o_add) (ep_int (K := K)) o_sub)) (fun _ => (ep_var rfl)) fun h => o_divW h) fun _ => (o_mulL rfl)) (fun _ => (ep_int (K := K))) fun _ => o_add) fun s => (.cons (.no _) (.cons (.no _) .nil)))))))) h⟩
theorem ok_syncs_for {f : Addr} {fd : FuncData} (F : FnP K "syncs_for" (top 21) f fd) (hg : mg "syncs_for" = some (.ref f)) (c_MOST_HEADS : ∃ t, mg "MOST_HEADS" = some (.int 2000 t)) (C_is_between : Cal P w K mg base 2 "is_between" ["value", "least", "most"] (sp_is_between K)) (C_check_pending : Cal P w K mg base 3 "check_pending" ["pending"] (sp_check_pending K)) : Cal P w K mg base 4 "syncs_for" ["heads", "pending"] (sp_syncs_for K) := ⟨f, fd, fo_syncs_for F c_MOST_HEADS C_is_between C_check_pending, hg, F.kp, F.bindsN fun _ _ _ _ _ _ us hl => match us, hl with | [_, _], _ => rfl⟩
def gl_syncs_for__pending_heads : List Value → List Value → List Value
  | [], [a0, a1] => [a1, a0]
  | _, _ => []
def gv_syncs_for__pending_heads : List V → List V → List V
  | [], [a0, a1] => [a1, a0]
  | _, _ => []
theorem kb_syncs_for__pending_heads {f : Addr} {fd : FuncData} (F : FnP K "syncs_for" (top 21) f fd) : KBinds K fd ["heads", "pending"] ["pending", "heads"] gl_syncs_for__pending_heads gv_syncs_for__pending_heads := by
  obtain ⟨oc, od, dV, kV, doc, pm, an, cdv, ct, osl, rfl, lk, hcd, hD, hK⟩ := F.ex
  rcases hD with ⟨_, rfl⟩ | ⟨e, _⟩
  · refine ⟨fun s us ws X hl => ?_, fun {vs us zs ws} r1 r2 => ?_⟩
    · match us, ws, hl with
      | [], [a0, a1], _ => exact .of_eq rfl
    · match vs, us, zs, ws, r1, r2 with
      | [], [], [_, _], [_, _], .nil, (.cons r0 (.cons r1 .nil)) => exact (.cons r1 (.cons r0 .nil))
      | _ :: _, _ :: _, _, _, .cons _ _, _ => exact .nil
      | [], [], [], [], .nil, .nil => exact .nil
      | [], [], [_], [_], .nil, (.cons _ .nil) => exact .nil
      | [], [], _ :: _ :: _ :: _, _ :: _ :: _ :: _, .nil, (.cons _ (.cons _ (.cons _ _))) => exact .nil
  · exact absurd rfl e
theorem okK_syncs_for__pending_heads {f : Addr} {fd : FuncData} (F : FnP K "syncs_for" (top 21) f fd) (hg : mg "syncs_for" = some (.ref f)) (c_MOST_HEADS : ∃ t, mg "MOST_HEADS" = some (.int 2000 t)) (C_is_between : Cal P w K mg base 2 "is_between" ["value", "least", "most"] (sp_is_between K)) (C_check_pending : Cal P w K mg base 3 "check_pending" ["pending"] (sp_check_pending K)) : CalK P w K mg base 4 "syncs_for" ["heads", "pending"] (sp_syncs_for K) ["pending", "heads"] gl_syncs_for__pending_heads gv_syncs_for__pending_heads := ⟨f, fd, fo_syncs_for F c_MOST_HEADS C_is_between C_check_pending, hg, F.kp, kb_syncs_for__pending_heads F⟩
def m__law_cell (script : Scr) (k : Int) : Mn Unit Int :=
  (mb (mp (decide (k < ((script.l.length : Nat) : Int)))) fun b20 => mi b20 (mo (atI script.l k)) (mp ((((6007 : Int) * k) + (((cutL script.l none (some (1 : Int)))).sum % (1000033 : Int))) : Int)))
abbrev sp__law_cell (K : PySem.W.Frag) : Sp := Prom (rIm K) (S := Unit) (fun i : Scr × Int => [.im (pv K i.1), .im (pv K i.2)]) fun i => m__law_cell i.1 i.2
theorem len__law_cell : ∀ vs H Q E, sp__law_cell K vs H Q E → vs.length = 2 := prom_len (Ret := (rIm K)) (As := fun i : Scr × Int => [.im (pv K i.1), .im (pv K i.2)]) (m := fun i => m__law_cell i.1 i.2) fun _ => rfl
theorem sc__law_cell : FnScope ["script", "k"] ["script", "k"] (defScope (top 23)) := ⟨rfl, rfl, rfl, by decide +kernel, rfl, by decide +kernel, by decide +kernel⟩
theorem fo__law_cell {f : Addr} {fd : FuncData} (F : FnP K "_law_cell" (top 23) f fd) (b_int : mg "int" = none) (b_len : mg "len" = none) (b_sum : mg "sum" = none) : FnOk P w K mg base CX0 1 f fd ["script", "k"] (sp__law_cell K) := by
  refine F.ok sc__law_cell (len__law_cell (K := K)) (fun cdv A outer s H vs Q E hr h => ?_)
  have hl : vs.length = 2 := len__law_cell (K := K) vs H Q E h
  match vs, hl, h with
  | [v0, v1], _, h => exact ⟨_, PSs.nox ((pss_one (ps_ret (pe_ifExp (pt_cmpR op_lt (L2.pv 1) (pe_callB call_len_seq rfl b_len bt_len (pa_cons (L2.pv 0) pa_nil)) (nomark _)) (pe_ix ix_list (L2.pv 0) (L2.pv 1) (fun _ _ => rfl)) (pe_op op_add (pe_op op_mul pe_int (L2.pv 1)) (pe_op op_mod (pe_callTy call_int1 rfl b_int bt_int (pa_cons (pe_callB (cr_sum rfl) rfl b_sum bt_sum (pa_cons (pe_slice sl_list (L2.pv 0) po_none (po_some pe_int)) pa_nil)) pa_nil)) pe_int)))))), prom_ok (n := 2) (Ret := (rIm K)) (As := fun i : Scr × Int => [.im (pv K i.1), .im (pv K i.2)]) (m := fun i => m__law_cell i.1 i.2) 0 (fun _ => rfl) rfl (fun (script, k) => (show RN (rIm K) _ (fun (s : Unit) => [.im (pv K script), .im (pv K k)]) (m__law_cell script k) (fun (s : Unit) => [.no, .no]) from (rn_of (rt_ret (em_if (tm_pure fun _ => (tp_test (ep_op (ep_var rfl) (ep_cb (ap_cons (ep_var rfl) ap_nil) c_lenS) o_lt))) (em_ixSp (fun _ => (ep_var rfl)) fun _ => (ep_var rfl)) (em_pure fun _ => (ep_op (ep_op (ep_int (K := K)) (ep_var rfl) (o_mulL rfl)) (ep_op (ep_cb (ap_cons (ep_cb (ap_cons (ep_slS (ep_var rfl) po_no (po_i (ep_int (K := K)))) ap_nil) c_sum) ap_nil) c_int) (ep_int (K := K)) (o_mod rfl)) o_add))) fun s => (.cons (.no _) (.cons (.no _) .nil)))))) h⟩
theorem ok__law_cell {f : Addr} {fd : FuncData} (F : FnP K "_law_cell" (top 23) f fd) (hg : mg "_law_cell" = some (.ref f)) (b_int : mg "int" = none) (b_len : mg "len" = none) (b_sum : mg "sum" = none) : Cal P w K mg base 1 "_law_cell" ["script", "k"] (sp__law_cell K) := ⟨f, fd, fo__law_cell F b_int b_len b_sum, hg, F.kp, F.bindsN fun _ _ _ _ _ _ us hl => match us, hl with | [_, _], _ => rfl⟩
def m__law_box (great : Int) : Mn Unit Box :=
  (mp (Box.mk ((if great < 0 then -great else great) : Int) (decide (((10 : Int) ^ (18 : Int).toNat) ≤ (if great < 0 then -great else great)) : Bool) (((if great < 0 then -great else great) % (2147483629 : Int)) : Int) ((0 : Int) : Int)))
abbrev sp__law_box (K : PySem.W.Frag) : Sp := Prom (rOw boxP) (S := Unit) (fun i : Int => [.im (pv K i)]) fun i => m__law_box i
theorem len__law_box : ∀ vs H Q E, sp__law_box K vs H Q E → vs.length = 1 := prom_len (Ret := (rOw boxP)) (As := fun i : Int => [.im (pv K i)]) (m := fun i => m__law_box i) fun _ => rfl
theorem sc__law_box : FnScope ["great"] ["great"] (defScope (top 24)) := ⟨rfl, rfl, rfl, by decide +kernel, rfl, by decide +kernel, by decide +kernel⟩
theorem fo__law_box {f : Addr} {fd : FuncData} (F : FnP K "_law_box" (top 24) f fd) (b_abs : mg "abs" = none) (b_int : mg "int" = none) : FnOk P w K mg base CX0 1 f fd ["great"] (sp__law_box K) := by
  refine F.ok sc__law_box (len__law_box (K := K)) (fun cdv A outer s H vs Q E hr h => ?_)
  have hl : vs.length = 1 := len__law_box (K := K) vs H Q E h
  match vs, hl, h with
  | [v0], _, h => exact ⟨_, PSs.nox ((pss_one (ps_ret (pe_lst (pa_cons (pe_callB call_abs rfl b_abs bt_abs (pa_cons (L2.pv 0) pa_nil)) (pa_cons (pe_cmpR op_ge (pe_callB call_abs rfl b_abs bt_abs (pa_cons (L2.pv 0) pa_nil)) (pe_op op_pow pe_int pe_int) (nomark _)) (pa_cons (pe_op op_mod (pe_callTy call_int1 rfl b_int bt_int (pa_cons (pe_callB call_abs rfl b_abs bt_abs (pa_cons (L2.pv 0) pa_nil)) pa_nil)) pe_int) (pa_cons pe_int pa_nil)))))))), prom_ok (n := 1) (Ret := (rOw boxP)) (As := fun i : Int => [.im (pv K i)]) (m := fun i => m__law_box i) 0 (fun _ => rfl) rfl (fun great => (show RN (rOw boxP) _ (fun (s : Unit) => [.im (pv K great)]) (m__law_box great) (fun (s : Unit) => [.no]) from (rn_of (rt_reto (eo_box (fun _ => (ap_cons (ep_cb (ap_cons (ep_var rfl) ap_nil) c_abs) (ap_cons (ep_op (ep_cb (ap_cons (ep_var rfl) ap_nil) c_abs) (ep_op (ep_int (K := K)) (ep_int (K := K)) (o_pow rfl)) o_ge) (ap_cons (ep_op (ep_cb (ap_cons (ep_cb (ap_cons (ep_var rfl) ap_nil) c_abs) ap_nil) c_int) (ep_int (K := K)) (o_mod rfl)) (ap_cons (ep_int (K := K)) ap_nil)))))) fun s => (.cons (.no _) .nil))))) h⟩
theorem ok__law_box {f : Addr} {fd : FuncData} (F : FnP K "_law_box" (top 24) f fd) (hg : mg "_law_box" = some (.ref f)) (b_abs : mg "abs" = none) (b_int : mg "int" = none) : Cal P w K mg base 1 "_law_box" ["great"] (sp__law_box K) := ⟨f, fd, fo__law_box F b_abs b_int, hg, F.kp, F.bindsN fun _ _ _ _ _ _ us hl => match us, hl with | [_], _ => rfl⟩
def m__law_take (many : Int) : Mn Box Int :=
  (mb (Mir.mg fun s => (s.flag && decide ((0 : Int) < s.great))) fun b => mi b
    (mb (mcs (fun s => modOk many) fun s => (s.great % many)) fun digit21 =>
  (mb (mb (mcs (fun s => divOk many) fun s => (s.great / many)) fun x => ms fun b => { b with great := x }) fun u22 =>
  (mp digit21)))
    (mb (mb (Mir.mg fun s => (s.count + (1 : Int))) fun x => ms fun b => { b with count := x }) fun u23 =>
  (mb (mb (mb (mb (mcs (fun s => powOk ((s.mixed + ((15485863 : Int) * s.count)) + (179424673 : Int)) (5 : Int)) fun s => (((s.mixed + ((15485863 : Int) * s.count)) + (179424673 : Int)) ^ (5 : Int).toNat)) fun x24 => mb (mp ()) fun z25 => mp (x24, z25)) fun z26 => mp z26.1) fun x27 => mp (x27 % (2147483647 : Int))) fun mixed29 =>
  (mb (mb (mb (mb (mb (mb (mb (mcs (fun s => powOk ((mixed29 * (48271 : Int)) + ((104729 : Int) * s.count)) (3 : Int)) fun s => (((mixed29 * (48271 : Int)) + ((104729 : Int) * s.count)) ^ (3 : Int).toNat)) fun x30 => mb (mp ()) fun z31 => mp (x30, z31)) fun z32 => mp z32.1) fun x33 => mp (x33 % (2147483587 : Int))) fun x35 => mp (x35 / (64 : Int))) fun x37 => mb (mp ()) fun z38 => mp (x37, z38)) fun z39 => mp z39.1) fun x40 => mc (modOk many) (x40 % many)))))
abbrev sp__law_take (K : PySem.W.Frag) : Sp := Prom (rIm K) (S := Box) (fun i : Int => [.ow boxP, .im (pv K i)]) fun i => m__law_take i
theorem len__law_take : ∀ vs H Q E, sp__law_take K vs H Q E → vs.length = 2 := prom_len (Ret := (rIm K)) (As := fun i : Int => [.ow boxP, .im (pv K i)]) (m := fun i => m__law_take i) fun _ => rfl
theorem sc__law_take : FnScope ["box", "many", "digit", "mixed"] ["box", "many"] (defScope (top 25)) := ⟨rfl, rfl, rfl, by decide +kernel, rfl, by decide +kernel, by decide +kernel⟩
theorem fo__law_take {f : Addr} {fd : FuncData} (F : FnP K "_law_take" (top 25) f fd) (b_int : mg "int" = none) : FnOk P w K mg base CX0 1 f fd ["box", "many"] (sp__law_take K) := by
  refine F.ok sc__law_take (len__law_take (K := K)) (fun cdv A outer s H vs Q E hr h => ?_)
  have hl : vs.length = 2 := len__law_take (K := K) vs H Q E h
  match vs, hl, h with
  | [v0, v1], _, h => exact ⟨_, PSs.nox ((pss_cons (ps_if (PW.pt (pw_and (pt_val (pe_ix ix_list (L2.pv 0) pe_int (fun _ _ => rfl))) (pw_and1 (pt_cmpR op_gt (pe_ix ix_list (L2.pv 0) pe_int (fun _ _ => rfl)) pe_int (nomark _))))) (pss_cons (ps_set (i := 2) sc__law_take.nd rfl (Or.inl rfl) (pe_op op_mod (pe_callTy call_int1 rfl b_int bt_int (pa_cons (pe_ix ix_list (L2.pv 0) pe_int (fun _ _ => rfl)) pa_nil)) (L2.pv 1))) (pss_cons (ps_asg (pe_op op_fdivW (pe_ix ix_list (L2.pv 0) pe_int (fun _ _ => rfl)) (L2.pv 1)) (pg_sub (L2.pv 0) pe_int set_list)) (pss_one (ps_ret (L2.pv 2))))) pss_nil) (pss_cons (ps_asg (pe_op op_add (pe_ix ix_list (L2.pv 0) pe_int (fun _ _ => rfl)) pe_int) (pg_sub (L2.pv 0) pe_int set_list)) (pss_cons (ps_set (i := 3) sc__law_take.nd rfl (Or.inl rfl) (pe_op op_mod (pe_callTy call_int1 rfl b_int bt_int (pa_cons (pe_op op_pow (pe_op op_add (pe_op op_add (pe_ix ix_list (L2.pv 0) pe_int (fun _ _ => rfl)) (pe_op op_mul pe_int (pe_ix ix_list (L2.pv 0) pe_int (fun _ _ => rfl)))) pe_int) pe_int) pa_nil)) pe_int)) (pss_one (ps_ret (pe_op op_mod (pe_callTy call_int1 rfl b_int bt_int (pa_cons (pe_op op_fdivW (pe_op op_mod (pe_callTy call_int1 rfl b_int bt_int (pa_cons (pe_op op_pow (pe_op op_add (pe_op op_mul (L2.pv 3) pe_int) (pe_op op_mul pe_int (pe_ix ix_list (L2.pv 0) pe_int (fun _ _ => rfl)))) pe_int) pa_nil)) pe_int) pe_int) pa_nil)) (L2.pv 1)))))))), prom_ok (n := 2) (Ret := (rIm K)) (As := fun i : Int => [.ow boxP, .im (pv K i)]) (m := fun i => m__law_take i) 2 (fun _ => rfl) rfl (fun many => (show RN (rIm K) _ (fun (s : Box) => [.ow ((boxP s).at v0), .im (pv K many), .no, .no]) (m__law_take many) (fun (s : Box) => [.ow ((boxP s).at v0), .no, .no, .no]) from (rn_of (rt_ifr (tm_p (f := fun (s : Box) => (s.flag && decide ((0 : Int) < s.great))) fun s => (tp_and (tp_B (ep_b1t rfl)) fun _ => (tp_test (ep_op (ep_b0t rfl) (ep_int (K := K)) o_gt)))) (rt_seq (rp_asg (Γ' := fun digit21 (s : Box) => [.ow ((boxP s).at v0), .im (pv K many), .im (pv K digit21), .no]) (em_opC2s (x := fun (s : Box) => s.great) (y := fun (s : Box) => many) (z := fun (s : Box) => (s.great % many)) (c := fun (s : Box) => modOk many) (fun s => (ep_cb (ap_cons (ep_b0t rfl) ap_nil) c_int)) (fun s => (ep_var rfl)) fun s h => o_mod h) (fun _ => rfl) fun _ _ => rfl) fun digit21 => (rt_seq (rp_b0t (fun _ => rfl) (em_opC2s (x := fun (s : Box) => s.great) (y := fun (s : Box) => many) (z := fun (s : Box) => (s.great / many)) (c := fun (s : Box) => divOk many) (fun s => (ep_b0t rfl)) (fun s => (ep_var rfl)) fun s h => o_divW h) fun _ _ => rfl) fun u22 => (rt_ret (em_pure fun _ => (ep_var rfl)) fun s => (.cons (.rfl _) (.cons (.no _) (.cons (.no _) (.cons (.rfl _) .nil))))))) (rt_seq (rp_b3t (fun _ => rfl) (em_p (f := fun (s : Box) => (s.count + (1 : Int))) fun s => (ep_op (ep_b3t rfl) (ep_int (K := K)) o_add)) fun _ _ => rfl) fun u23 => (rt_seq (rp_asg (Γ' := fun mixed29 (s : Box) => [.ow ((boxP s).at v0), .im (pv K many), .no, .im (pv K mixed29)]) (em_opr (g := fun (u : Int) (v : Int) => (u % v)) (em_cb (f := fun (z26 : Int × Unit) => z26.1) (am_cons (em_opC2s (x := fun (s : Box) => ((s.mixed + ((15485863 : Int) * s.count)) + (179424673 : Int))) (y := fun (s : Box) => (5 : Int)) (z := fun (s : Box) => (((s.mixed + ((15485863 : Int) * s.count)) + (179424673 : Int)) ^ (5 : Int).toNat)) (c := fun (s : Box) => powOk ((s.mixed + ((15485863 : Int) * s.count)) + (179424673 : Int)) (5 : Int)) (fun s => (ep_op (ep_op (ep_b2t rfl) (ep_op (ep_int (K := K)) (ep_b3t rfl) (o_mulL rfl)) o_add) (ep_int (K := K)) o_add)) (fun s => (ep_int (K := K))) fun s h => o_pow h) am_nil) fun _ => c_int) (fun _ => (ep_int (K := K))) fun _ => (o_mod rfl)) (fun _ => rfl) fun _ _ => rfl) fun mixed29 => (rt_ret (em_oprC (g := fun (u : Int) (v : Int) => (u % v)) (c := fun (u : Int) (v : Int) => modOk v) (em_cb (f := fun (z39 : Int × Unit) => z39.1) (am_cons (em_opr (g := fun (u : Int) (v : Int) => (u / v)) (em_opr (g := fun (u : Int) (v : Int) => (u % v)) (em_cb (f := fun (z32 : Int × Unit) => z32.1) (am_cons (em_opC2s (x := fun (s : Box) => ((mixed29 * (48271 : Int)) + ((104729 : Int) * s.count))) (y := fun (s : Box) => (3 : Int)) (z := fun (s : Box) => (((mixed29 * (48271 : Int)) + ((104729 : Int) * s.count)) ^ (3 : Int).toNat)) (c := fun (s : Box) => powOk ((mixed29 * (48271 : Int)) + ((104729 : Int) * s.count)) (3 : Int)) (fun s => (ep_op (ep_op (ep_var rfl) (ep_int (K := K)) (o_mulR rfl)) (ep_op (ep_int (K := K)) (ep_b3t rfl) (o_mulL rfl)) o_add)) (fun s => (ep_int (K := K))) fun s h => o_pow h) am_nil) fun _ => c_int) (fun _ => (ep_int (K := K))) fun _ => (o_mod rfl)) (fun _ => (ep_int (K := K))) fun _ => (o_divW rfl)) am_nil) fun _ => c_int) (fun _ => (ep_var rfl)) fun _ h => (o_mod h)) fun s => (.cons (.rfl _) (.cons (.no _) (.cons (.rfl _) (.cons (.no _) .nil))))))))))) h⟩
theorem ok__law_take {f : Addr} {fd : FuncData} (F : FnP K "_law_take" (top 25) f fd) (hg : mg "_law_take" = some (.ref f)) (b_int : mg "int" = none) : Cal P w K mg base 1 "_law_take" ["box", "many"] (sp__law_take K) := ⟨f, fd, fo__law_take F b_int, hg, F.kp, F.bindsN fun _ _ _ _ _ _ us hl => match us, hl with | [_, _], _ => rfl⟩
def m__law_size : Mn Box (T4 Int Int Int Int) :=
  (mb (m__law_take ((6 : Int) : Int)) fun scale43 =>
  (mb (mb (mb (mb (mb (m__law_take ((12 : Int) : Int)) fun y46 => mp ((1 : Int) + y46)) fun x56 => mb (mb (mp ((12 : Int) : Int)) fun x54 => mb (mb (mp ((1 : Int) : Int)) fun x52 => mb (mb (mb (m__law_take ((4 : Int) : Int)) fun y49 => mp ((1 : Int) + y49)) fun x50 => mb (mp ()) fun z51 => mp (x50, z51)) fun z53 => mp (x52, z53)) fun z55 => mp (x54, z55)) fun z57 => mp (x56, z57)) fun z58 => mp ([z58.1, z58.2.1, z58.2.2.1, z58.2.2.2.1] : (List Int))) fun x60 => mb (m__law_take ((4 : Int) : Int)) fun i61 => mo (atI x60 i61)) fun need62 =>
  (mb (mb (mb (mb (m__law_take ((12 : Int) : Int)) fun x71 => mb (mb (mp ((11 : Int) : Int)) fun x69 => mb (mb (mp ((0 : Int) : Int)) fun x67 => mb (mb (m__law_take ((4 : Int) : Int)) fun x65 => mb (mp ()) fun z66 => mp (x65, z66)) fun z68 => mp (x67, z68)) fun z70 => mp (x69, z70)) fun z72 => mp (x71, z72)) fun z73 => mp ([z73.1, z73.2.1, z73.2.2.1, z73.2.2.2.1] : (List Int))) fun x75 => mb (m__law_take ((4 : Int) : Int)) fun i76 => mo (atI x75 i76)) fun lost77 =>
  (mb (mb (mb (mb (mb (m__law_take ((64 : Int) : Int)) fun y80 => mp ((1 : Int) + y80)) fun x97 => mb (mb (mp ((64 : Int) : Int)) fun x95 => mb (mb (mp ((1 : Int) : Int)) fun x93 => mb (mb (mb (m__law_take ((6 : Int) : Int)) fun y83 => mp ((1 : Int) + y83)) fun x91 => mb (mb (mb (m__law_take ((3 : Int) : Int)) fun y86 => mp ((1 : Int) + y86)) fun x89 => mb (mb (mp ((2 : Int) : Int)) fun x87 => mb (mp ()) fun z88 => mp (x87, z88)) fun z90 => mp (x89, z90)) fun z92 => mp (x91, z92)) fun z94 => mp (x93, z94)) fun z96 => mp (x95, z96)) fun z98 => mp (x97, z98)) fun z99 => mp ([z99.1, z99.2.1, z99.2.2.1, z99.2.2.2.1, z99.2.2.2.2.1, z99.2.2.2.2.2.1] : (List Int))) fun x100 => mo (atI x100 scale43)) fun symbols102 =>
  (mb (mb (mb (mb (mb (m__law_take ((64 : Int) : Int)) fun y105 => mp ((1 : Int) + y105)) fun x119 => mb (mb (mp ((64 : Int) : Int)) fun x117 => mb (mb (mp ((1 : Int) : Int)) fun x115 => mb (mb (mb (m__law_take ((6 : Int) : Int)) fun y108 => mp ((1 : Int) + y108)) fun x113 => mb (mb (mp need62) fun x111 => mb (mb (mp ((2 : Int) : Int)) fun x109 => mb (mp ()) fun z110 => mp (x109, z110)) fun z112 => mp (x111, z112)) fun z114 => mp (x113, z114)) fun z116 => mp (x115, z116)) fun z118 => mp (x117, z118)) fun z120 => mp (x119, z120)) fun z121 => mp ([z121.1, z121.2.1, z121.2.2.1, z121.2.2.2.1, z121.2.2.2.2.1, z121.2.2.2.2.2.1] : (List Int))) fun x123 => mb (m__law_take ((6 : Int) : Int)) fun i124 => mo (atI x123 i124)) fun pending125 =>
  (mp ((T4.mk need62 lost77 symbols102 pending125) : (T4 Int Int Int Int))))))))
abbrev sp__law_size (K : PySem.W.Frag) : Sp := Prom (rIm K) (S := Box) (fun i : Unit => [.ow boxP]) fun i => m__law_size
theorem len__law_size : ∀ vs H Q E, sp__law_size K vs H Q E → vs.length = 1 := prom_len (Ret := (rIm K)) (As := fun i : Unit => [.ow boxP]) (m := fun i => m__law_size) fun _ => rfl
theorem sc__law_size : FnScope ["box", "scale", "need", "lost", "symbols", "pending"] ["box"] (defScope (top 26)) := ⟨rfl, rfl, rfl, by decide +kernel, rfl, by decide +kernel, by decide +kernel⟩
theorem fo__law_size {f : Addr} {fd : FuncData} (F : FnP K "_law_size" (top 26) f fd) (C__law_take : Cal P w K mg base 1 "_law_take" ["box", "many"] (sp__law_take K)) : FnOk P w K mg base CX0 2 f fd ["box"] (sp__law_size K) := by
  obtain ⟨f__law_take, fd__law_take, G__law_take, g__law_take, kp__law_take, bi__law_take⟩ := C__law_take.ex
  refine F.ok sc__law_size (len__law_size (K := K)) (fun cdv A outer s H vs Q E hr h => ?_)
  have hl : vs.length = 1 := len__law_size (K := K) vs H Q E h
  match vs, hl, h with
  | [v0], _, h => exact ⟨_, PSs.nox ((pss_cons (ps_set (i := 1) sc__law_size.nd rfl (Or.inl rfl) (pe_call G__law_take (hr.mono (Nat.le_of_ble_eq_true rfl)) rfl g__law_take kp__law_take bi__law_take .nil pass0 (pa_cons (L2.pv 0) (pa_cons pe_int pa_nil)))) (pss_cons (ps_set (i := 2) sc__law_size.nd rfl (Or.inl rfl) (pe_ix ix_list (pe_lst (pa_cons (pe_op op_add pe_int (pe_call G__law_take (hr.mono (Nat.le_of_ble_eq_true rfl)) rfl g__law_take kp__law_take bi__law_take .nil pass0 (pa_cons (L2.pv 0) (pa_cons pe_int pa_nil)))) (pa_cons pe_int (pa_cons pe_int (pa_cons (pe_op op_add pe_int (pe_call G__law_take (hr.mono (Nat.le_of_ble_eq_true rfl)) rfl g__law_take kp__law_take bi__law_take .nil pass0 (pa_cons (L2.pv 0) (pa_cons pe_int pa_nil)))) pa_nil))))) (pe_call G__law_take (hr.mono (Nat.le_of_ble_eq_true rfl)) rfl g__law_take kp__law_take bi__law_take .nil pass0 (pa_cons (L2.pv 0) (pa_cons pe_int pa_nil))) (fun _ _ => rfl))) (pss_cons (ps_set (i := 3) sc__law_size.nd rfl (Or.inl rfl) (pe_ix ix_list (pe_lst (pa_cons (pe_call G__law_take (hr.mono (Nat.le_of_ble_eq_true rfl)) rfl g__law_take kp__law_take bi__law_take .nil pass0 (pa_cons (L2.pv 0) (pa_cons pe_int pa_nil))) (pa_cons pe_int (pa_cons pe_int (pa_cons (pe_call G__law_take (hr.mono (Nat.le_of_ble_eq_true rfl)) rfl g__law_take kp__law_take bi__law_take .nil pass0 (pa_cons (L2.pv 0) (pa_cons pe_int pa_nil))) pa_nil))))) (pe_call G__law_take (hr.mono (Nat.le_of_ble_eq_true rfl)) rfl g__law_take kp__law_take bi__law_take .nil pass0 (pa_cons (L2.pv 0) (pa_cons pe_int pa_nil))) (fun _ _ => rfl))) (pss_cons (ps_set (i := 4) sc__law_size.nd rfl (Or.inl rfl) (pe_ix ix_list (pe_lst (pa_cons (pe_op op_add pe_int (pe_call G__law_take (hr.mono (Nat.le_of_ble_eq_true rfl)) rfl g__law_take kp__law_take bi__law_take .nil pass0 (pa_cons (L2.pv 0) (pa_cons pe_int pa_nil)))) (pa_cons pe_int (pa_cons pe_int (pa_cons (pe_op op_add pe_int (pe_call G__law_take (hr.mono (Nat.le_of_ble_eq_true rfl)) rfl g__law_take kp__law_take bi__law_take .nil pass0 (pa_cons (L2.pv 0) (pa_cons pe_int pa_nil)))) (pa_cons (pe_op op_add pe_int (pe_call G__law_take (hr.mono (Nat.le_of_ble_eq_true rfl)) rfl g__law_take kp__law_take bi__law_take .nil pass0 (pa_cons (L2.pv 0) (pa_cons pe_int pa_nil)))) (pa_cons pe_int pa_nil))))))) (L2.pv 1) (fun _ _ => rfl))) (pss_cons (ps_set (i := 5) sc__law_size.nd rfl (Or.inl rfl) (pe_ix ix_list (pe_lst (pa_cons (pe_op op_add pe_int (pe_call G__law_take (hr.mono (Nat.le_of_ble_eq_true rfl)) rfl g__law_take kp__law_take bi__law_take .nil pass0 (pa_cons (L2.pv 0) (pa_cons pe_int pa_nil)))) (pa_cons pe_int (pa_cons pe_int (pa_cons (pe_op op_add pe_int (pe_call G__law_take (hr.mono (Nat.le_of_ble_eq_true rfl)) rfl g__law_take kp__law_take bi__law_take .nil pass0 (pa_cons (L2.pv 0) (pa_cons pe_int pa_nil)))) (pa_cons (L2.pv 2) (pa_cons pe_int pa_nil))))))) (pe_call G__law_take (hr.mono (Nat.le_of_ble_eq_true rfl)) rfl g__law_take kp__law_take bi__law_take .nil pass0 (pa_cons (L2.pv 0) (pa_cons pe_int pa_nil))) (fun _ _ => rfl))) (pss_one (ps_ret (pe_tup (pa_cons (L2.pv 2) (pa_cons (L2.pv 3) (pa_cons (L2.pv 4) (pa_cons (L2.pv 5) pa_nil))))))))))))), prom_ok (n := 1) (Ret := (rIm K)) (As := fun i : Unit => [.ow boxP]) (m := fun i => m__law_size) 5 (fun _ => rfl) rfl (fun _ => (show RN (rIm K) _ (fun (s : Box) => [.ow ((boxP s).at v0), .no, .no, .no, .no, .no]) (m__law_size) (fun (s : Box) => [.ow ((boxP s).at v0), .no, .no, .no, .no, .no]) from (rn_of (rt_seq (rp_asg (Γ' := fun scale43 (s : Box) => [.ow ((boxP s).at v0), .im (pv K scale43), .no, .no, .no, .no]) (em_of_eo (eo_call1i (f := fun (z42 : Unit) => ((6 : Int) : Int)) (ak_sl (te := tC .non) (fun _ => rfl) (ak_p (fun _ => (ep_int (K := K))) ak_nil)) (fun z42 => ⟨rfl, [pv K ((6 : Int) : Int)], rfl⟩) cv_at (fun _ => rfl) (fun _ _ => rfl) fun _ _ => rfl)) (fun _ => rfl) fun _ _ => rfl) fun scale43 => (rt_seq (rp_asg (Γ' := fun need62 (s : Box) => [.ow ((boxP s).at v0), .im (pv K scale43), .im (pv K need62), .no, .no, .no]) (em_ixL (em_lst (f := fun (z58 : Int × Int × Int × Int × Unit) => ([z58.1, z58.2.1, z58.2.2.1, z58.2.2.2.1] : (List Int))) (hl := fun _ => Nat.le_of_ble_eq_true rfl) (am_cons (em_opl (g := fun (u : Int) (v : Int) => (u + v)) (fun _ => (ep_int (K := K))) (em_of_eo (eo_call1i (f := fun (z44 : Unit) => ((12 : Int) : Int)) (ak_sl (te := tC .non) (fun _ => rfl) (ak_p (fun _ => (ep_int (K := K))) ak_nil)) (fun z44 => ⟨rfl, [pv K ((12 : Int) : Int)], rfl⟩) cv_at (fun _ => rfl) (fun _ _ => rfl) fun _ _ => rfl)) fun _ => o_add) (am_cons (em_pure fun _ => (ep_int (K := K))) (am_cons (em_pure fun _ => (ep_int (K := K))) (am_cons (em_opl (g := fun (u : Int) (v : Int) => (u + v)) (fun _ => (ep_int (K := K))) (em_of_eo (eo_call1i (f := fun (z47 : Unit) => ((4 : Int) : Int)) (ak_sl (te := tC .non) (fun _ => rfl) (ak_p (fun _ => (ep_int (K := K))) ak_nil)) (fun z47 => ⟨rfl, [pv K ((4 : Int) : Int)], rfl⟩) cv_at (fun _ => rfl) (fun _ _ => rfl) fun _ _ => rfl)) fun _ => o_add) am_nil))))) (em_of_eo (eo_call1i (f := fun (z59 : Unit) => ((4 : Int) : Int)) (ak_sl (te := tC .non) (fun _ => rfl) (ak_p (fun _ => (ep_int (K := K))) ak_nil)) (fun z59 => ⟨rfl, [pv K ((4 : Int) : Int)], rfl⟩) cv_at (fun _ => rfl) (fun _ _ => rfl) fun _ _ => rfl))) (fun _ => rfl) fun _ _ => rfl) fun need62 => (rt_seq (rp_asg (Γ' := fun lost77 (s : Box) => [.ow ((boxP s).at v0), .im (pv K scale43), .im (pv K need62), .im (pv K lost77), .no, .no]) (em_ixL (em_lst (f := fun (z73 : Int × Int × Int × Int × Unit) => ([z73.1, z73.2.1, z73.2.2.1, z73.2.2.2.1] : (List Int))) (hl := fun _ => Nat.le_of_ble_eq_true rfl) (am_cons (em_of_eo (eo_call1i (f := fun (z63 : Unit) => ((12 : Int) : Int)) (ak_sl (te := tC .non) (fun _ => rfl) (ak_p (fun _ => (ep_int (K := K))) ak_nil)) (fun z63 => ⟨rfl, [pv K ((12 : Int) : Int)], rfl⟩) cv_at (fun _ => rfl) (fun _ _ => rfl) fun _ _ => rfl)) (am_cons (em_pure fun _ => (ep_int (K := K))) (am_cons (em_pure fun _ => (ep_int (K := K))) (am_cons (em_of_eo (eo_call1i (f := fun (z64 : Unit) => ((4 : Int) : Int)) (ak_sl (te := tC .non) (fun _ => rfl) (ak_p (fun _ => (ep_int (K := K))) ak_nil)) (fun z64 => ⟨rfl, [pv K ((4 : Int) : Int)], rfl⟩) cv_at (fun _ => rfl) (fun _ _ => rfl) fun _ _ => rfl)) am_nil))))) (em_of_eo (eo_call1i (f := fun (z74 : Unit) => ((4 : Int) : Int)) (ak_sl (te := tC .non) (fun _ => rfl) (ak_p (fun _ => (ep_int (K := K))) ak_nil)) (fun z74 => ⟨rfl, [pv K ((4 : Int) : Int)], rfl⟩) cv_at (fun _ => rfl) (fun _ _ => rfl) fun _ _ => rfl))) (fun _ => rfl) fun _ _ => rfl) fun lost77 => (rt_seq (rp_asg (Γ' := fun symbols102 (s : Box) => [.ow ((boxP s).at v0), .im (pv K scale43), .im (pv K need62), .im (pv K lost77), .im (pv K symbols102), .no]) (em_ixLr (em_lst (f := fun (z99 : Int × Int × Int × Int × Int × Int × Unit) => ([z99.1, z99.2.1, z99.2.2.1, z99.2.2.2.1, z99.2.2.2.2.1, z99.2.2.2.2.2.1] : (List Int))) (hl := fun _ => Nat.le_of_ble_eq_true rfl) (am_cons (em_opl (g := fun (u : Int) (v : Int) => (u + v)) (fun _ => (ep_int (K := K))) (em_of_eo (eo_call1i (f := fun (z78 : Unit) => ((64 : Int) : Int)) (ak_sl (te := tC .non) (fun _ => rfl) (ak_p (fun _ => (ep_int (K := K))) ak_nil)) (fun z78 => ⟨rfl, [pv K ((64 : Int) : Int)], rfl⟩) cv_at (fun _ => rfl) (fun _ _ => rfl) fun _ _ => rfl)) fun _ => o_add) (am_cons (em_pure fun _ => (ep_int (K := K))) (am_cons (em_pure fun _ => (ep_int (K := K))) (am_cons (em_opl (g := fun (u : Int) (v : Int) => (u + v)) (fun _ => (ep_int (K := K))) (em_of_eo (eo_call1i (f := fun (z81 : Unit) => ((6 : Int) : Int)) (ak_sl (te := tC .non) (fun _ => rfl) (ak_p (fun _ => (ep_int (K := K))) ak_nil)) (fun z81 => ⟨rfl, [pv K ((6 : Int) : Int)], rfl⟩) cv_at (fun _ => rfl) (fun _ _ => rfl) fun _ _ => rfl)) fun _ => o_add) (am_cons (em_opl (g := fun (u : Int) (v : Int) => (u + v)) (fun _ => (ep_int (K := K))) (em_of_eo (eo_call1i (f := fun (z84 : Unit) => ((3 : Int) : Int)) (ak_sl (te := tC .non) (fun _ => rfl) (ak_p (fun _ => (ep_int (K := K))) ak_nil)) (fun z84 => ⟨rfl, [pv K ((3 : Int) : Int)], rfl⟩) cv_at (fun _ => rfl) (fun _ _ => rfl) fun _ _ => rfl)) fun _ => o_add) (am_cons (em_pure fun _ => (ep_int (K := K))) am_nil))))))) fun _ => (ep_var rfl)) (fun _ => rfl) fun _ _ => rfl) fun symbols102 => (rt_seq (rp_asg (Γ' := fun pending125 (s : Box) => [.ow ((boxP s).at v0), .im (pv K scale43), .im (pv K need62), .im (pv K lost77), .im (pv K symbols102), .im (pv K pending125)]) (em_ixL (em_lst (f := fun (z121 : Int × Int × Int × Int × Int × Int × Unit) => ([z121.1, z121.2.1, z121.2.2.1, z121.2.2.2.1, z121.2.2.2.2.1, z121.2.2.2.2.2.1] : (List Int))) (hl := fun _ => Nat.le_of_ble_eq_true rfl) (am_cons (em_opl (g := fun (u : Int) (v : Int) => (u + v)) (fun _ => (ep_int (K := K))) (em_of_eo (eo_call1i (f := fun (z103 : Unit) => ((64 : Int) : Int)) (ak_sl (te := tC .non) (fun _ => rfl) (ak_p (fun _ => (ep_int (K := K))) ak_nil)) (fun z103 => ⟨rfl, [pv K ((64 : Int) : Int)], rfl⟩) cv_at (fun _ => rfl) (fun _ _ => rfl) fun _ _ => rfl)) fun _ => o_add) (am_cons (em_pure fun _ => (ep_int (K := K))) (am_cons (em_pure fun _ => (ep_int (K := K))) (am_cons (em_opl (g := fun (u : Int) (v : Int) => (u + v)) (fun _ => (ep_int (K := K))) (em_of_eo (eo_call1i (f := fun (z106 : Unit) => ((6 : Int) : Int)) (ak_sl (te := tC .non) (fun _ => rfl) (ak_p (fun _ => (ep_int (K := K))) ak_nil)) (fun z106 => ⟨rfl, [pv K ((6 : Int) : Int)], rfl⟩) cv_at (fun _ => rfl) (fun _ _ => rfl) fun _ _ => rfl)) fun _ => o_add) (am_cons (em_pure fun _ => (ep_var rfl)) (am_cons (em_pure fun _ => (ep_int (K := K))) am_nil))))))) (em_of_eo (eo_call1i (f := fun (z122 : Unit) => ((6 : Int) : Int)) (ak_sl (te := tC .non) (fun _ => rfl) (ak_p (fun _ => (ep_int (K := K))) ak_nil)) (fun z122 => ⟨rfl, [pv K ((6 : Int) : Int)], rfl⟩) cv_at (fun _ => rfl) (fun _ _ => rfl) fun _ _ => rfl))) (fun _ => rfl) fun _ _ => rfl) fun pending125 => (rt_ret (em_pure fun _ => (ep_tup (ap_cons (ep_var rfl) (ap_cons (ep_var rfl) (ap_cons (ep_var rfl) (ap_cons (ep_var rfl) ap_nil)))) tup4)) fun s => (.cons (.rfl _) (.cons (.no _) (.cons (.no _) (.cons (.no _) (.cons (.no _) (.cons (.no _) .nil))))))))))))))) h⟩
theorem ok__law_size {f : Addr} {fd : FuncData} (F : FnP K "_law_size" (top 26) f fd) (hg : mg "_law_size" = some (.ref f)) (C__law_take : Cal P w K mg base 1 "_law_take" ["box", "many"] (sp__law_take K)) : Cal P w K mg base 2 "_law_size" ["box"] (sp__law_size K) := ⟨f, fd, fo__law_size F C__law_take, hg, F.kp, F.bindsN fun _ _ _ _ _ _ us hl => match us, hl with | [_], _ => rfl⟩
def m__law_least (size : (T4 Int Int Int Int)) : Mn Unit Int :=
  (mb (mp size) fun z126 =>
  (mb (mc (repOk (([(0 : Int)] : (List Int)) : (List Int)).length (z126.a + z126.b)) (repL (([(0 : Int)] : (List Int)) : (List Int)) (z126.a + z126.b))) fun counts127 =>
  (mb (mb (mc (b62 ((3000 : Int) : Int)) (rng 0 ((3000 : Int) : Int).toNat)) fun xs => forC (β := Empty) xs counts127 fun a129 (t128 : (List Int)) =>
    (mb (mp (decide ((z126.c + z126.d) ≤ ((cutL (srt t128) none (some z126.a))).sum))) fun b => mi b
      (mb (mp ((t128).sum : Int)) fun x => mp (.rt x))
      (mb (mb (mb (mu (mb (mb (mc (modOk (z126.a + z126.b)) (a129 % (z126.a + z126.b))) fun i131 => mo (atI t128 i131)) fun x132 => mp (x132 + (1 : Int)))) fun x135 => mb (mc (modOk (z126.a + z126.b)) (a129 % (z126.a + z126.b))) fun i136 => mo ((ixN t128.length i136).map fun k => t128.set k x135)) fun counts134 => mp counts134) fun x => mp (.nx x)))) (ctk (fun t137 => (mp ((3000 : Int) : Int))) fun _ => mbad))))
abbrev sp__law_least (K : PySem.W.Frag) : Sp := Prom (rIm K) (S := Unit) (fun i : (T4 Int Int Int Int) => [.im (pv K i)]) fun i => m__law_least i
theorem len__law_least : ∀ vs H Q E, sp__law_least K vs H Q E → vs.length = 1 := prom_len (Ret := (rIm K)) (As := fun i : (T4 Int Int Int Int) => [.im (pv K i)]) (m := fun i => m__law_least i) fun _ => rfl
theorem sc__law_least : FnScope ["size", "need", "lost", "symbols", "pending", "counts", "head"] ["size"] (defScope (top 27)) := ⟨rfl, rfl, rfl, by decide +kernel, rfl, by decide +kernel, by decide +kernel⟩
theorem fo__law_least {f : Addr} {fd : FuncData} (F : FnP K "_law_least" (top 27) f fd) (b_int : mg "int" = none) (b_range : mg "range" = none) (b_sorted : mg "sorted" = none) (b_sum : mg "sum" = none) : FnOk P w K mg base CX0 1 f fd ["size"] (sp__law_least K) := by
  refine F.ok sc__law_least (len__law_least (K := K)) (fun cdv A outer s H vs Q E hr h => ?_)
  have hl : vs.length = 1 := len__law_least (K := K) vs H Q E h
  match vs, hl, h with
  | [v0], _, h => exact ⟨_, PSs.nox ((pss_cons (ps_asg (L2.pv 0) (pg_tup (n := 4) rfl (pgs_cons (pg_name (i := 1) sc__law_least.nd rfl (Or.inl rfl)) (pgs_cons (pg_name (i := 2) sc__law_least.nd rfl (Or.inl rfl)) (pgs_cons (pg_name (i := 3) sc__law_least.nd rfl (Or.inl rfl)) (pgs_cons (pg_name (i := 4) sc__law_least.nd rfl (Or.inl rfl)) pgs_nil)))))) (pss_cons (ps_set (i := 5) sc__law_least.nd rfl (Or.inl rfl) (pe_op op_rep (pe_lst (pa_cons pe_int pa_nil)) (pe_op op_add (L2.pv 1) (L2.pv 2)))) (pss_cons (ps_for PassesOwn.never rfl (pi_range1 rfl b_range (pa_cons pe_int pa_nil)) (pg_name (i := 6) sc__law_least.nd rfl (Or.inl rfl)) (pss_cons (ps_if (pt_cmpR op_ge (pe_callB (cr_sum rfl) rfl b_sum bt_sum (pa_cons (pe_slice sl_list (pe_callB cr_sortedI rfl b_sorted bt_sorted (pa_cons (L2.pv 5) pa_nil)) po_none (po_some (L2.pv 1))) pa_nil)) (pe_op op_add (L2.pv 3) (L2.pv 4)) (nomark _)) (pss_one (ps_ret (pe_callB (cr_sum rfl) rfl b_sum bt_sum (pa_cons (L2.pv 5) pa_nil)))) pss_nil) (pss_one (ps_asg (pe_op op_add (pe_ix ix_list (L2.pv 5) (pe_op op_mod (pe_callTy call_int1 rfl b_int bt_int (pa_cons (L2.pv 6) pa_nil)) (pe_op op_add (L2.pv 1) (L2.pv 2))) (fun _ _ => rfl)) pe_int) (pg_sub (L2.pv 5) (pe_op op_mod (pe_callTy call_int1 rfl b_int bt_int (pa_cons (L2.pv 6) pa_nil)) (pe_op op_add (L2.pv 1) (L2.pv 2))) set_list))))) (pss_one (ps_ret pe_int)))))), prom_ok (n := 1) (Ret := (rIm K)) (As := fun i : (T4 Int Int Int Int) => [.im (pv K i)]) (m := fun i => m__law_least i) 6 (fun _ => rfl) rfl (fun size => (show RN (rIm K) _ (fun (s : Unit) => [.im (pv K size), .no, .no, .no, .no, .no, .no]) (m__law_least size) (fun (s : Unit) => [.no, .no, .no, .no, .no, .no, .no]) from (rn_of (rt_seq (rp_tup (Γ' := fun z126 (s : Unit) => [.im (pv K size), .im (pv K z126.a), .im (pv K z126.b), .im (pv K z126.c), .im (pv K z126.d), .no, .no]) (em_pure fun _ => (ep_var rfl)) fun z126 s => (gt_4 (gt_name (Γ := [.im (pv K size), .no, .no, .no, .no, .no, .no]) (i := 1) (Γ' := [.im (pv K size), .im (pv K z126.a), .no, .no, .no, .no, .no]) rfl rfl) (gt_name (Γ := [.im (pv K size), .im (pv K z126.a), .no, .no, .no, .no, .no]) (i := 2) (Γ' := [.im (pv K size), .im (pv K z126.a), .im (pv K z126.b), .no, .no, .no, .no]) rfl rfl) (gt_name (Γ := [.im (pv K size), .im (pv K z126.a), .im (pv K z126.b), .no, .no, .no, .no]) (i := 3) (Γ' := [.im (pv K size), .im (pv K z126.a), .im (pv K z126.b), .im (pv K z126.c), .no, .no, .no]) rfl rfl) (gt_name (Γ := [.im (pv K size), .im (pv K z126.a), .im (pv K z126.b), .im (pv K z126.c), .no, .no, .no]) (i := 4) (Γ' := [.im (pv K size), .im (pv K z126.a), .im (pv K z126.b), .im (pv K z126.c), .im (pv K z126.d), .no, .no]) rfl rfl))) fun z126 => (rt_seq (rp_take (Γ' := fun counts127 (s : Unit) => [.im (pv K size), .im (pv K z126.a), .im (pv K z126.b), .im (pv K z126.c), .im (pv K z126.d), .ow (ol K counts127), .no]) (eo_rep (fun _ => (ep_lst (xs := ([(0 : Int)] : (List Int))) (hl := Nat.le_of_ble_eq_true rfl) (ap_cons (ep_int (K := K)) ap_nil))) fun _ => (ep_op (ep_var rfl) (ep_var rfl) o_add)) (fun _ => rfl) (fun _ => Nat.le_of_ble_eq_true rfl) fun _ _ => rfl) fun counts127 => (rt_seqC (rc_for (β := Empty) (Γb := fun b _ => nomatch b) (Γr := (fun (s : Unit) => [.no, .no, .no, .no, .no, .no, .no])) (ΓL := fun (t128 : (List Int)) (s : Unit) => [.im (pv K size), .im (pv K z126.a), .im (pv K z126.b), .im (pv K z126.c), .im (pv K z126.d), .ow (ol K t128), .no]) (Γx := fun (a129 : Int) (t128 : (List Int)) (s : Unit) => [.im (pv K size), .im (pv K z126.a), .im (pv K z126.b), .im (pv K z126.c), .im (pv K z126.d), .ow (ol K t128), .im (pv K a129)]) (im_rng1 fun _ => (ap_cons (ep_int (K := K)) ap_nil)) (fun s => (.cons (.rfl _) (.cons (.rfl _) (.cons (.rfl _) (.cons (.rfl _) (.cons (.rfl _) (.cons (.rfl _) (.cons (.rfl _) .nil)))))))) (fun a129 t128 s => (gt_name (Γ := [.im (pv K size), .im (pv K z126.a), .im (pv K z126.b), .im (pv K z126.c), .im (pv K z126.d), .ow (ol K t128), .no]) (i := 6) (Γ' := [.im (pv K size), .im (pv K z126.a), .im (pv K z126.b), .im (pv K z126.c), .im (pv K z126.d), .ow (ol K t128), .im (pv K a129)]) rfl rfl)) fun a129 t128 => (rc_ifr (tm_pure fun _ => (tp_bor (Γ0 := [.im (pv K size), .im (pv K z126.a), .im (pv K z126.b), .im (pv K z126.c), .im (pv K z126.d), .im (pv K t128), .im (pv K a129)]) (.cons (.rfl _) (.cons (.rfl _) (.cons (.rfl _) (.cons (.rfl _) (.cons (.rfl _) (.cons (.fr fr_ol) (.cons (.rfl _) .nil))))))) rfl (tp_test (ep_op (ep_cb (ap_cons (ep_sl (ep_cb (ap_cons (ep_var rfl) ap_nil) c_sorted) po_no (po_i (ep_var rfl))) ap_nil) c_sum) (ep_op (ep_var rfl) (ep_var rfl) o_add) o_ge)))) (rx_ret (rt_ret (em_pure fun _ => (ep_bor (Γ0 := [.im (pv K size), .im (pv K z126.a), .im (pv K z126.b), .im (pv K z126.c), .im (pv K z126.d), .im (pv K t128), .im (pv K a129)]) (.cons (.rfl _) (.cons (.rfl _) (.cons (.rfl _) (.cons (.rfl _) (.cons (.rfl _) (.cons (.fr fr_ol) (.cons (.rfl _) .nil))))))) rfl (ep_cb (ap_cons (ep_var rfl) ap_nil) c_sum))) fun s => (.cons (.no _) (.cons (.no _) (.cons (.no _) (.cons (.no _) (.cons (.no _) (.cons (.drop _) (.cons (.no _) .nil))))))))) (rc_of_p (rp_post (f := fun counts134 => counts134) (rp_seti (Γ' := fun counts134 (s : Unit) => [.im (pv K size), .im (pv K z126.a), .im (pv K z126.b), .im (pv K z126.c), .im (pv K z126.d), .ow (ol K counts134), .im (pv K a129)]) (fun _ => rfl) (em_bor (Γ0 := [.im (pv K size), .im (pv K z126.a), .im (pv K z126.b), .im (pv K z126.c), .im (pv K z126.d), .im (pv K t128), .im (pv K a129)]) (fun _ => (.cons (.rfl _) (.cons (.rfl _) (.cons (.rfl _) (.cons (.rfl _) (.cons (.rfl _) (.cons (.fr fr_ol) (.cons (.rfl _) .nil)))))))) rfl (em_opr (g := fun (u : Int) (v : Int) => (u + v)) (em_ixLl (fun _ => (ep_var rfl)) (em_opC2 (fun _ => (ep_cb (ap_cons (ep_var rfl) ap_nil) c_int)) (fun _ => (ep_op (ep_var rfl) (ep_var rfl) o_add)) fun h => o_mod h)) (fun _ => (ep_int (K := K))) fun _ => o_add)) (em_opC2 (fun _ => (ep_cb (ap_cons (ep_var rfl) ap_nil) c_int)) (fun _ => (ep_op (ep_var rfl) (ep_var rfl) o_add)) fun h => o_mod h) fun _ _ => rfl) fun counts134 s => (.cons (.rfl _) (.cons (.rfl _) (.cons (.rfl _) (.cons (.rfl _) (.cons (.rfl _) (.cons (.rfl _) (.cons (.no _) .nil))))))))))) fun t137 => (rt_ret (em_pure fun _ => (ep_int (K := K))) fun s => (.cons (.no _) (.cons (.no _) (.cons (.no _) (.cons (.no _) (.cons (.no _) (.cons (.drop _) (.cons (.rfl _) .nil)))))))))))))) h⟩
theorem ok__law_least {f : Addr} {fd : FuncData} (F : FnP K "_law_least" (top 27) f fd) (hg : mg "_law_least" = some (.ref f)) (b_int : mg "int" = none) (b_range : mg "range" = none) (b_sorted : mg "sorted" = none) (b_sum : mg "sum" = none) : Cal P w K mg base 1 "_law_least" ["size"] (sp__law_least K) := ⟨f, fd, fo__law_least F b_int b_range b_sorted b_sum, hg, F.kp, F.bindsN fun _ _ _ _ _ _ us hl => match us, hl with | [_], _ => rfl⟩
def m__law_heads_right (size : (T4 Int Int Int Int)) (least : Int) : Mn Box Bool :=
  (mb (mp size) fun z138 =>
  (mb (mb (mb (m__law_take ((2 : Int) : Int)) fun x143 => mp (decide (x143 = (0 : Int)))) fun b => mi b
    (mb (mu (m_heads_for z138.a z138.b z138.c z138.d)) fun told146 => mp told146)
    (mb (mu (m_heads_for z138.a z138.b z138.c z138.d)) fun told147 => mp told147)) fun t145 =>
  (mb (mp ((!true) || (false || (!decide (t145 = least))))) fun b => mi b
    (mp false)
    (mb (mb (mc (b62 ((3 : Int) : Int)) (rng 0 ((3 : Int) : Int).toNat)) fun xs => forC (β := Empty) xs () fun a149 (t148 : Unit) =>
    (mb (mb (mc (rgOk 0 (z138.a + z138.b)) (rng 0 (z138.a + z138.b).toNat)) fun x154 => mb (mb (m__law_take ((t145 + (1 : Int)) : Int)) fun x152 => mb (mp ()) fun z153 => mp (x152, z153)) fun z155 => mp (x154, z155)) fun z151 =>
    (mb (mb (mc (b62 z138.b) (rng 0 z138.b.toNat)) fun xs => forP xs z151.1 fun a157 (t156 : (List Int)) =>
    (mb (mb (m__law_take (((t156.length : Nat) : Int) : Int)) fun i160 => mo (popAt t156 i160)) fun left159 => mp left159)) fun t161 =>
    (mb (mb (mc (b62 t145) (rng 0 t145.toNat)) fun xs => cmP xs (fun (a162 : Int) => (mu (mb (mc (modOk (z138.a + z138.b)) (a162 % (z138.a + z138.b))) fun x163 => mp (decide (x163 ∈ t161))))) fun a162 => (mp a162)) fun there165 =>
    (mb (mb (mp (decide ((z138.c + z138.d) ≤ ((there165.length : Nat) : Int)))) fun b168 => mi b168 (mb (mo (atI there165 ((z138.c + z138.d) - (1 : Int)))) fun x => mp (some x)) (mp ((none : (Option Int)) : (Option Int)))) fun looked169 =>
    (mb (mb (mp looked169.isNone) fun b177 => mi b177 (mp true) (mb (mb (mo looked169) fun x170 => mp (decide (x170 < (z151.2.1 + z138.d)))) fun b176 => mi b176 (mb (mo (atI there165 (z138.c - (1 : Int)))) fun x174 => mp (decide (z151.2.1 ≤ x174))) (mp false))) fun b => mi b
      (mb (mp false) fun x => mp (.rt x))
      (mp (.nx ())))))))) (ctk (fun t178 => (mp true)) fun _ => mbad)))))
abbrev sp__law_heads_right (K : PySem.W.Frag) : Sp := Prom (rIm K) (S := Box) (fun i : (T4 Int Int Int Int) × Int => [.ow boxP, .im (pv K i.1), .im (pv K i.2)]) fun i => m__law_heads_right i.1 i.2
theorem len__law_heads_right : ∀ vs H Q E, sp__law_heads_right K vs H Q E → vs.length = 3 := prom_len (Ret := (rIm K)) (As := fun i : (T4 Int Int Int Int) × Int => [.ow boxP, .im (pv K i.1), .im (pv K i.2)]) (m := fun i => m__law_heads_right i.1 i.2) fun _ => rfl
theorem sc__law_heads_right : FnScope ["box", "size", "least", "need", "lost", "symbols", "pending", "told", "turn", "left", "at", "k", "there", "looked", "head"] ["box", "size", "least"] (defScope (top 28)) := ⟨rfl, rfl, rfl, by decide +kernel, rfl, by decide +kernel, by decide +kernel⟩
theorem fo__law_heads_right {f : Addr} {fd : FuncData} (F : FnP K "_law_heads_right" (top 28) f fd) (b_bool : mg "bool" = none) (b_int : mg "int" = none) (b_isinstance : mg "isinstance" = none) (b_len : mg "len" = none) (b_list : mg "list" = none) (b_range : mg "range" = none) (C__law_take : Cal P w K mg base 1 "_law_take" ["box", "many"] (sp__law_take K)) (C_heads_for : Cal P w K mg base 4 "heads_for" ["need", "lost", "symbols", "pending"] (sp_heads_for K)) (D_heads_for__pending_lost_symbols_need : CalK P w K mg base 4 "heads_for" ["need", "lost", "symbols", "pending"] (sp_heads_for K) ["pending", "lost", "symbols", "need"] gl_heads_for__pending_lost_symbols_need gv_heads_for__pending_lost_symbols_need) : FnOk P w K mg base CX0 5 f fd ["box", "size", "least"] (sp__law_heads_right K) := by
  obtain ⟨f__law_take, fd__law_take, G__law_take, g__law_take, kp__law_take, bi__law_take⟩ := C__law_take.ex
  obtain ⟨f_heads_for, fd_heads_for, G_heads_for, g_heads_for, kp_heads_for, bi_heads_for⟩ := C_heads_for.ex
  obtain ⟨f_heads_for__pending_lost_symbols_need, fd_heads_for__pending_lost_symbols_need, G_heads_for__pending_lost_symbols_need, g_heads_for__pending_lost_symbols_need, kp_heads_for__pending_lost_symbols_need, bi_heads_for__pending_lost_symbols_need⟩ := D_heads_for__pending_lost_symbols_need.ex
  refine F.ok sc__law_heads_right (len__law_heads_right (K := K)) (fun cdv A outer s H vs Q E hr h => ?_)
  have hl : vs.length = 3 := len__law_heads_right (K := K) vs H Q E h
  match vs, hl, h with
  | [v0, v1, v2], _, h => exact ⟨_, PSs.nox ((pss_cons (ps_asg (L2.pv 1) (pg_tup (n := 4) rfl (pgs_cons (pg_name (i := 3) sc__law_heads_right.nd rfl (Or.inr rfl)) (pgs_cons (pg_name (i := 4) sc__law_heads_right.nd rfl (Or.inr rfl)) (pgs_cons (pg_name (i := 5) sc__law_heads_right.nd rfl (Or.inl rfl)) (pgs_cons (pg_name (i := 6) sc__law_heads_right.nd rfl (Or.inl rfl)) pgs_nil)))))) (pss_cons (ps_if (pt_cmpR op_eq (pe_call G__law_take (hr.mono (Nat.le_of_ble_eq_true rfl)) rfl g__law_take kp__law_take bi__law_take .nil pass0 (pa_cons (L2.pv 0) (pa_cons pe_int pa_nil))) pe_int (nomark _)) (pss_one (ps_set (i := 7) sc__law_heads_right.nd rfl (Or.inl rfl) (pe_call G_heads_for (hr.mono (Nat.le_of_ble_eq_true rfl)) rfl g_heads_for kp_heads_for bi_heads_for .nil pass0 (pa_cons (L2.pv 3) (pa_cons (L2.pv 4) (pa_cons (L2.pv 5) (pa_cons (L2.pv 6) pa_nil))))))) (pss_one (ps_set (i := 7) sc__law_heads_right.nd rfl (Or.inl rfl) (pe_callK0 G_heads_for__pending_lost_symbols_need (hr.mono (Nat.le_of_ble_eq_true rfl)) rfl g_heads_for__pending_lost_symbols_need kp_heads_for__pending_lost_symbols_need bi_heads_for__pending_lost_symbols_need pass0 (pk_cons (L2.pv 6) (pk_cons (L2.pv 4) (pk_cons (L2.pv 5) (pk_cons (L2.pv 3) pk_nil)))))))) (pss_cons (ps_if (PW.pt (pw_or (pt_not (pt_val (pe_callB call_isi rfl b_isinstance bt_isinstance (pa_cons (L2.pv 7) (pa_cons (pe_bltn (v := .ty "int") rfl b_int bt_int rfl) pa_nil))))) (pw_or (pt_val (pe_callB call_isi rfl b_isinstance bt_isinstance (pa_cons (L2.pv 7) (pa_cons (pe_bltn (v := .ty "bool") rfl b_bool bt_bool rfl) pa_nil)))) (pw_or1 (pt_cmpR op_ne (L2.pv 7) (L2.pv 2) (nomark _)))))) (pss_one (ps_ret pe_bl)) pss_nil) (pss_cons (ps_for PassesOwn.never rfl (pi_range1 rfl b_range (pa_cons pe_int pa_nil)) (pg_name (i := 8) sc__law_heads_right.nd rfl (Or.inl rfl)) (pss_cons (ps_asg (pe_tup (pa_cons (pe_listRg rfl rfl b_list (prg_1 rfl b_range (pe_op op_add (L2.pv 3) (L2.pv 4)))) (pa_cons (pe_call G__law_take (hr.mono (Nat.le_of_ble_eq_true rfl)) rfl g__law_take kp__law_take bi__law_take .nil pass0 (pa_cons (L2.pv 0) (pa_cons (pe_op op_add (L2.pv 7) pe_int) pa_nil))) pa_nil))) (pg_tup (n := 2) rfl (pgs_cons (pg_name (i := 9) sc__law_heads_right.nd rfl (Or.inr rfl)) (pgs_cons (pg_name (i := 10) sc__law_heads_right.nd rfl (Or.inl rfl)) pgs_nil)))) (pss_cons (ps_for PassesOwn.never rfl (pi_range1 rfl b_range (pa_cons (L2.pv 4) pa_nil)) (pg_name (i := 11) sc__law_heads_right.nd rfl (Or.inl rfl)) (pss_one (ps_expr (pe_bm PySem.F.plainAttrs_list PySem.F.slot_list_pop PySem.F.type_list_pop mt_popAt (L2.pv 9) (pa_cons (pe_call G__law_take (hr.mono (Nat.le_of_ble_eq_true rfl)) rfl g__law_take kp__law_take bi__law_take .nil pass0 (pa_cons (L2.pv 0) (pa_cons (pe_callB call_len_seq rfl b_len bt_len (pa_cons (L2.pv 9) pa_nil)) pa_nil))) pa_nil))))) (pss_cons (ps_setLc (i := 12) (own := [("head", 14)]) rfl sc__law_heads_right.nd rfl rfl (sw_true rfl rfl rfl (by decide +kernel)) (pi_range1 rfl b_range (pa_cons (L2.pv 7) pa_nil)) (blkOk_by (own := [("head", 14)]) (N := ["box", "size", "least", "need", "lost", "symbols", "pending", "told", "turn", "left", "at", "k", "there", "looked", "head"]) (sc := defScope (top 28)) (by decide +kernel)) (fun _ _ _ _ _ => (pg_name (i := 14) sc__law_heads_right.nd rfl (Or.inl rfl))) (fun _ _ _ _ _ => (pts_one (pt_cmpR op_in_seq (pe_op op_mod (pe_callTy call_int1 rfl b_int bt_int (pa_cons (L2.pv 14) pa_nil)) (pe_op op_add (L2.pv 3) (L2.pv 4))) (L2.pv 9) (by rfl)))) (fun _ _ _ _ _ => (L2.pv 14))) (pss_cons (ps_set (i := 13) sc__law_heads_right.nd rfl (Or.inl rfl) (pe_ifExp (pt_cmpR op_ge (pe_callB call_len_seq rfl b_len bt_len (pa_cons (L2.pv 12) pa_nil)) (pe_op op_add (L2.pv 5) (L2.pv 6)) (nomark _)) (pe_ix ix_list (L2.pv 12) (pe_op op_sub (pe_op op_add (L2.pv 5) (L2.pv 6)) pe_int) (fun _ _ => rfl)) pe_non)) (pss_one (ps_if (PW.pt (pw_or (pt_cmpR op_isN (L2.pv 13) pe_non (nomark _)) (pw_or1 (PW.pt (pw_and (pt_cmpR op_lt (L2.pv 13) (pe_op op_add (L2.pv 10) (L2.pv 6)) (nomark _)) (pw_and1 (pt_cmpR op_ge (pe_ix ix_list (L2.pv 12) (pe_op op_sub (L2.pv 5) pe_int) (fun _ _ => rfl)) (L2.pv 10) (nomark _)))))))) (pss_one (ps_ret pe_bl)) pss_nil))))))) (pss_one (ps_ret pe_bl))))))), prom_ok (n := 3) (Ret := (rIm K)) (As := fun i : (T4 Int Int Int Int) × Int => [.ow boxP, .im (pv K i.1), .im (pv K i.2)]) (m := fun i => m__law_heads_right i.1 i.2) 12 (fun _ => rfl) rfl (fun (size, least) => (show RN (rIm K) _ (fun (s : Box) => [.ow ((boxP s).at v0), .im (pv K size), .im (pv K least), .no, .no, .no, .no, .no, .no, .no, .no, .no, .no, .no, .no]) (m__law_heads_right size least) (fun (s : Box) => [.ow ((boxP s).at v0), .no, .no, .no, .no, .no, .no, .no, .no, .no, .no, .no, .no, .no, .no]) from (rn_of (rt_seq (rp_tup (Γ' := fun z138 (s : Box) => [.ow ((boxP s).at v0), .im (pv K size), .im (pv K least), .im (pv K z138.a), .im (pv K z138.b), .im (pv K z138.c), .im (pv K z138.d), .no, .no, .no, .no, .no, .no, .no, .no]) (em_pure fun _ => (ep_var rfl)) fun z138 s => (gt_4 (gt_name (Γ := [.ow ((boxP s).at v0), .im (pv K size), .im (pv K least), .no, .no, .no, .no, .no, .no, .no, .no, .no, .no, .no, .no]) (i := 3) (Γ' := [.ow ((boxP s).at v0), .im (pv K size), .im (pv K least), .im (pv K z138.a), .no, .no, .no, .no, .no, .no, .no, .no, .no, .no, .no]) rfl rfl) (gt_name (Γ := [.ow ((boxP s).at v0), .im (pv K size), .im (pv K least), .im (pv K z138.a), .no, .no, .no, .no, .no, .no, .no, .no, .no, .no, .no]) (i := 4) (Γ' := [.ow ((boxP s).at v0), .im (pv K size), .im (pv K least), .im (pv K z138.a), .im (pv K z138.b), .no, .no, .no, .no, .no, .no, .no, .no, .no, .no]) rfl rfl) (gt_name (Γ := [.ow ((boxP s).at v0), .im (pv K size), .im (pv K least), .im (pv K z138.a), .im (pv K z138.b), .no, .no, .no, .no, .no, .no, .no, .no, .no, .no]) (i := 5) (Γ' := [.ow ((boxP s).at v0), .im (pv K size), .im (pv K least), .im (pv K z138.a), .im (pv K z138.b), .im (pv K z138.c), .no, .no, .no, .no, .no, .no, .no, .no, .no]) rfl rfl) (gt_name (Γ := [.ow ((boxP s).at v0), .im (pv K size), .im (pv K least), .im (pv K z138.a), .im (pv K z138.b), .im (pv K z138.c), .no, .no, .no, .no, .no, .no, .no, .no, .no]) (i := 6) (Γ' := [.ow ((boxP s).at v0), .im (pv K size), .im (pv K least), .im (pv K z138.a), .im (pv K z138.b), .im (pv K z138.c), .im (pv K z138.d), .no, .no, .no, .no, .no, .no, .no, .no]) rfl rfl))) fun z138 => (rt_seq (rp_if (Γ' := fun t145 (s : Box) => [.ow ((boxP s).at v0), .im (pv K size), .im (pv K least), .im (pv K z138.a), .im (pv K z138.b), .im (pv K z138.c), .im (pv K z138.d), .im (pv K t145), .no, .no, .no, .no, .no, .no, .no]) (tm_test (em_opr (g := fun (u : Int) (v : Int) => decide (u = v)) (em_of_eo (eo_call1i (f := fun (z142 : Unit) => ((2 : Int) : Int)) (ak_sl (te := tC .non) (fun _ => rfl) (ak_p (fun _ => (ep_int (K := K))) ak_nil)) (fun z142 => ⟨rfl, [pv K ((2 : Int) : Int)], rfl⟩) cv_at (fun _ => rfl) (fun _ _ => rfl) fun _ _ => rfl)) (fun _ => (ep_int (K := K))) fun _ => o_eq)) (rp_post (f := fun told146 => told146) (rp_asg (Γ' := fun told146 (s : Box) => [.ow ((boxP s).at v0), .im (pv K size), .im (pv K least), .im (pv K z138.a), .im (pv K z138.b), .im (pv K z138.c), .im (pv K z138.d), .im (pv K told146), .no, .no, .no, .no, .no, .no, .no]) (em_of_eo (eo_call0 (i := (z138.a, z138.b, z138.c, z138.d)) (ps := [pv K z138.a, pv K z138.b, pv K z138.c, pv K z138.d]) (fun _ => (ap_cons (ep_var rfl) (ap_cons (ep_var rfl) (ap_cons (ep_var rfl) (ap_cons (ep_var rfl) ap_nil))))) rfl)) (fun _ => rfl) fun _ _ => rfl) fun told146 s => (.cons (.rfl _) (.cons (.rfl _) (.cons (.rfl _) (.cons (.rfl _) (.cons (.rfl _) (.cons (.rfl _) (.cons (.rfl _) (.cons (.rfl _) (.cons (.rfl _) (.cons (.rfl _) (.cons (.rfl _) (.cons (.rfl _) (.cons (.rfl _) (.cons (.rfl _) (.cons (.rfl _) .nil)))))))))))))))) (rp_post (f := fun told147 => told147) (rp_asg (Γ' := fun told147 (s : Box) => [.ow ((boxP s).at v0), .im (pv K size), .im (pv K least), .im (pv K z138.a), .im (pv K z138.b), .im (pv K z138.c), .im (pv K z138.d), .im (pv K told147), .no, .no, .no, .no, .no, .no, .no]) (em_of_eo (eo_callK (i := (z138.a, z138.b, z138.c, z138.d)) (qs := [pv K z138.a, pv K z138.b, pv K z138.c, pv K z138.d]) (fun _ => (ap_cons (ep_var rfl) (ap_cons (ep_var rfl) (ap_cons (ep_var rfl) (ap_cons (ep_var rfl) ap_nil))))) (by intro I vs h; obtain ⟨_, _, rfl, r0, h⟩ := all2_c h; obtain ⟨_, _, rfl, r1, h⟩ := all2_c h; obtain ⟨_, _, rfl, r2, h⟩ := all2_c h; obtain ⟨_, _, rfl, r3, h⟩ := all2_c h; cases all2_n h; exact (.cons r3 (.cons r1 (.cons r2 (.cons r0 .nil))))) rfl)) (fun _ => rfl) fun _ _ => rfl) fun told147 s => (.cons (.rfl _) (.cons (.rfl _) (.cons (.rfl _) (.cons (.rfl _) (.cons (.rfl _) (.cons (.rfl _) (.cons (.rfl _) (.cons (.rfl _) (.cons (.rfl _) (.cons (.rfl _) (.cons (.rfl _) (.cons (.rfl _) (.cons (.rfl _) (.cons (.rfl _) (.cons (.rfl _) .nil))))))))))))))))) fun t145 => (rt_ifr (tm_pure fun _ => (tp_or (tp_not (tp_B (ep_cb (ap_cons (ep_var rfl) (ap_cons ep_ty ap_nil)) (c_isi (b := true) (t := "int") ty_int (by decide +kernel))))) fun _ => (tp_or (tp_B (ep_cb (ap_cons (ep_var rfl) (ap_cons ep_ty ap_nil)) (c_isi (b := false) (t := "int") ty_int (by decide +kernel)))) fun _ => (tp_test (ep_op (ep_var rfl) (ep_var rfl) o_ne))))) (rt_ret (em_pure fun _ => (ep_bl (K := K))) fun s => (.cons (.rfl _) (.cons (.no _) (.cons (.no _) (.cons (.no _) (.cons (.no _) (.cons (.no _) (.cons (.no _) (.cons (.no _) (.cons (.rfl _) (.cons (.rfl _) (.cons (.rfl _) (.cons (.rfl _) (.cons (.rfl _) (.cons (.rfl _) (.cons (.rfl _) .nil)))))))))))))))) (rt_seqC (rc_for (β := Empty) (Γb := fun b _ => nomatch b) (Γr := (fun (s : Box) => [.ow ((boxP s).at v0), .no, .no, .no, .no, .no, .no, .no, .no, .no, .no, .no, .no, .no, .no])) (ΓL := fun (t148 : Unit) (s : Box) => [.ow ((boxP s).at v0), .im (pv K size), .im (pv K least), .im (pv K z138.a), .im (pv K z138.b), .im (pv K z138.c), .im (pv K z138.d), .im (pv K t145), .no, .no, .no, .no, .no, .no, .no]) (Γx := fun (a149 : Int) (t148 : Unit) (s : Box) => [.ow ((boxP s).at v0), .im (pv K size), .im (pv K least), .im (pv K z138.a), .im (pv K z138.b), .im (pv K z138.c), .im (pv K z138.d), .im (pv K t145), .im (pv K a149), .no, .no, .no, .no, .no, .no]) (im_rng1 fun _ => (ap_cons (ep_int (K := K)) ap_nil)) (fun s => (.cons (.rfl _) (.cons (.rfl _) (.cons (.rfl _) (.cons (.rfl _) (.cons (.rfl _) (.cons (.rfl _) (.cons (.rfl _) (.cons (.rfl _) (.cons (.rfl _) (.cons (.rfl _) (.cons (.rfl _) (.cons (.rfl _) (.cons (.rfl _) (.cons (.rfl _) (.cons (.rfl _) .nil)))))))))))))))) (fun a149 t148 s => (gt_name (Γ := [.ow ((boxP s).at v0), .im (pv K size), .im (pv K least), .im (pv K z138.a), .im (pv K z138.b), .im (pv K z138.c), .im (pv K z138.d), .im (pv K t145), .no, .no, .no, .no, .no, .no, .no]) (i := 8) (Γ' := [.ow ((boxP s).at v0), .im (pv K size), .im (pv K least), .im (pv K z138.a), .im (pv K z138.b), .im (pv K z138.c), .im (pv K z138.d), .im (pv K t145), .im (pv K a149), .no, .no, .no, .no, .no, .no]) rfl rfl)) fun a149 t148 => (rc_seqP (rp_asgT (Γ' := fun z151 (s : Box) => [.ow ((boxP s).at v0), .im (pv K size), .im (pv K least), .im (pv K z138.a), .im (pv K z138.b), .im (pv K z138.c), .im (pv K z138.d), .im (pv K t145), .im (pv K a149), .ow (ol K z151.1), .im (pv K z151.2.1), .no, .no, .no, .no]) [9, 10] (ao_o (eo_listRg1 fun _ => (ep_op (ep_var rfl) (ep_var rfl) o_add)) (ao_m (em_of_eo (eo_call1i (f := fun (z150 : Unit) => ((t145 + (1 : Int)) : Int)) (ak_sl (te := tC .non) (fun _ => rfl) (ak_p (fun _ => (ep_op (ep_var rfl) (ep_int (K := K)) o_add)) ak_nil)) (fun z150 => ⟨rfl, [pv K ((t145 + (1 : Int)) : Int)], rfl⟩) cv_at (fun _ => rfl) (fun _ _ => rfl) fun _ _ => rfl)) ao_nil)) (fun _ => asg_ok rfl) (fun _ => rfl) (fun _ => rfl) (Nat.le_of_ble_eq_true rfl) fun _ _ => rfl) fun z151 => (rc_seqP (rp_for (ΓL := fun (t156 : (List Int)) (s : Box) => [.ow ((boxP s).at v0), .im (pv K size), .im (pv K least), .im (pv K z138.a), .im (pv K z138.b), .im (pv K z138.c), .im (pv K z138.d), .im (pv K t145), .im (pv K a149), .ow (ol K t156), .im (pv K z151.2.1), .no, .no, .no, .no]) (Γx := fun (a157 : Int) (t156 : (List Int)) (s : Box) => [.ow ((boxP s).at v0), .im (pv K size), .im (pv K least), .im (pv K z138.a), .im (pv K z138.b), .im (pv K z138.c), .im (pv K z138.d), .im (pv K t145), .im (pv K a149), .ow (ol K t156), .im (pv K z151.2.1), .im (pv K a157), .no, .no, .no]) (im_rng1 fun _ => (ap_cons (ep_var rfl) ap_nil)) (fun s => (.cons (.rfl _) (.cons (.rfl _) (.cons (.rfl _) (.cons (.rfl _) (.cons (.rfl _) (.cons (.rfl _) (.cons (.rfl _) (.cons (.rfl _) (.cons (.rfl _) (.cons (.rfl _) (.cons (.rfl _) (.cons (.rfl _) (.cons (.rfl _) (.cons (.rfl _) (.cons (.rfl _) .nil)))))))))))))))) (fun a157 t156 s => (gt_name (Γ := [.ow ((boxP s).at v0), .im (pv K size), .im (pv K least), .im (pv K z138.a), .im (pv K z138.b), .im (pv K z138.c), .im (pv K z138.d), .im (pv K t145), .im (pv K a149), .ow (ol K t156), .im (pv K z151.2.1), .no, .no, .no, .no]) (i := 11) (Γ' := [.ow ((boxP s).at v0), .im (pv K size), .im (pv K least), .im (pv K z138.a), .im (pv K z138.b), .im (pv K z138.c), .im (pv K z138.d), .im (pv K t145), .im (pv K a149), .ow (ol K t156), .im (pv K z151.2.1), .im (pv K a157), .no, .no, .no]) rfl rfl)) fun a157 t156 => (rp_post (f := fun left159 => left159) (rp_popD (Γ' := fun left159 (s : Box) => [.ow ((boxP s).at v0), .im (pv K size), .im (pv K least), .im (pv K z138.a), .im (pv K z138.b), .im (pv K z138.c), .im (pv K z138.d), .im (pv K t145), .im (pv K a149), .ow (ol K left159), .im (pv K z151.2.1), .im (pv K a157), .no, .no, .no]) (fun _ => rfl) (em_of_eo (eo_call1i (f := fun (z158 : Unit) => (((t156.length : Nat) : Int) : Int)) (ak_sl (te := tC .non) (fun _ => rfl) (ak_p (fun _ => (ep_bor (Γ0 := [.no, .im (pv K size), .im (pv K least), .im (pv K z138.a), .im (pv K z138.b), .im (pv K z138.c), .im (pv K z138.d), .im (pv K t145), .im (pv K a149), .im (pv K t156), .im (pv K z151.2.1), .im (pv K a157), .no, .no, .no]) (.cons (.drop _) (.cons (.rfl _) (.cons (.rfl _) (.cons (.rfl _) (.cons (.rfl _) (.cons (.rfl _) (.cons (.rfl _) (.cons (.rfl _) (.cons (.rfl _) (.cons (.fr fr_ol) (.cons (.rfl _) (.cons (.rfl _) (.cons (.rfl _) (.cons (.rfl _) (.cons (.rfl _) .nil))))))))))))))) rfl (ep_cb (ap_cons (ep_var rfl) ap_nil) c_lenL))) ak_nil)) (fun z158 => ⟨rfl, [pv K (((t156.length : Nat) : Int) : Int)], rfl⟩) cv_at (fun _ => rfl) (fun _ _ => rfl) fun _ _ => rfl)) fun _ _ => rfl) fun left159 s => (.cons (.rfl _) (.cons (.rfl _) (.cons (.rfl _) (.cons (.rfl _) (.cons (.rfl _) (.cons (.rfl _) (.cons (.rfl _) (.cons (.rfl _) (.cons (.rfl _) (.cons (.rfl _) (.cons (.rfl _) (.cons (.no _) (.cons (.rfl _) (.cons (.rfl _) (.cons (.rfl _) .nil))))))))))))))))) fun t161 => (rc_seqP (rp_asg (Γ' := fun there165 (s : Box) => [.ow ((boxP s).at v0), .im (pv K size), .im (pv K least), .im (pv K z138.a), .im (pv K z138.b), .im (pv K z138.c), .im (pv K z138.d), .im (pv K t145), .im (pv K a149), .ow (ol K t161), .im (pv K z151.2.1), .no, .im (pv K there165), .no, .no]) (em_lc (Γx := fun (a162 : Int) (s : Box) => [.ow ((boxP s).at v0), .im (pv K size), .im (pv K least), .im (pv K z138.a), .im (pv K z138.b), .im (pv K z138.c), .im (pv K z138.d), .im (pv K t145), .im (pv K a149), .ow (ol K t161), .im (pv K z151.2.1), .no, .no, .no, .im (pv K a162)]) (js := [14]) (im_rng1 fun _ => (ap_cons (ep_var rfl) ap_nil)) (fun _ => rfl) (fun a162 s => (gt_name (Γ := [.ow ((boxP s).at v0), .im (pv K size), .im (pv K least), .im (pv K z138.a), .im (pv K z138.b), .im (pv K z138.c), .im (pv K z138.d), .im (pv K t145), .im (pv K a149), .ow (ol K t161), .im (pv K z151.2.1), .no, .no, .no, .no]) (i := 14) (Γ' := [.ow ((boxP s).at v0), .im (pv K size), .im (pv K least), .im (pv K z138.a), .im (pv K z138.b), .im (pv K z138.c), .im (pv K z138.d), .im (pv K t145), .im (pv K a149), .ow (ol K t161), .im (pv K z151.2.1), .no, .no, .no, .im (pv K a162)]) rfl rfl)) rfl (fun a162 => (tm_bor (Γ0 := [.no, .im (pv K size), .im (pv K least), .im (pv K z138.a), .im (pv K z138.b), .im (pv K z138.c), .im (pv K z138.d), .im (pv K t145), .im (pv K a149), .im (pv K t161), .im (pv K z151.2.1), .no, .no, .no, .im (pv K a162)]) (fun _ => (.cons (.drop _) (.cons (.rfl _) (.cons (.rfl _) (.cons (.rfl _) (.cons (.rfl _) (.cons (.rfl _) (.cons (.rfl _) (.cons (.rfl _) (.cons (.rfl _) (.cons (.fr fr_ol) (.cons (.rfl _) (.cons (.rfl _) (.cons (.rfl _) (.cons (.rfl _) (.cons (.rfl _) .nil)))))))))))))))) rfl (tm_test (em_opr (g := fun (u : Int) (v : (List Int)) => decide (u ∈ v)) (em_opC2 (fun _ => (ep_cb (ap_cons (ep_var rfl) ap_nil) c_int)) (fun _ => (ep_op (ep_var rfl) (ep_var rfl) o_add)) fun h => o_mod h) (fun _ => (ep_var rfl)) fun _ => o_in)))) (fun a162 => (em_pure fun _ => (ep_var rfl))) fun a162 s => (.cons (.rfl _) (.cons (.rfl _) (.cons (.rfl _) (.cons (.rfl _) (.cons (.rfl _) (.cons (.rfl _) (.cons (.rfl _) (.cons (.rfl _) (.cons (.rfl _) (.cons (.rfl _) (.cons (.rfl _) (.cons (.rfl _) (.cons (.rfl _) (.cons (.rfl _) (.cons (.no _) .nil)))))))))))))))) (fun _ => rfl) fun _ _ => rfl) fun there165 => (rc_seqP (rp_asg (Γ' := fun looked169 (s : Box) => [.ow ((boxP s).at v0), .im (pv K size), .im (pv K least), .im (pv K z138.a), .im (pv K z138.b), .im (pv K z138.c), .im (pv K z138.d), .im (pv K t145), .im (pv K a149), .ow (ol K t161), .im (pv K z151.2.1), .no, .im (pv K there165), .im (pv K looked169), .no]) (em_if (tm_pure fun _ => (tp_test (ep_op (ep_cb (ap_cons (ep_var rfl) ap_nil) c_lenL) (ep_op (ep_var rfl) (ep_var rfl) o_add) o_ge))) (em_some (fun _ => nn_int) (em_ixLp (fun _ => (ep_var rfl)) fun _ => (ep_op (ep_op (ep_var rfl) (ep_var rfl) o_add) (ep_int (K := K)) o_sub))) (em_pure fun _ => ep_nonO)) (fun _ => rfl) fun _ _ => rfl) fun looked169 => (rc_if (tm_or (tm_pure fun _ => (tp_test (ep_op (ep_var rfl) (ep_non (K := K)) o_isNopt))) (tm_and (tm_test (em_opr (g := fun (u : Int) (v : Int) => decide (u < v)) (em_unopt fun _ => (ep_var rfl)) (fun _ => (ep_op (ep_var rfl) (ep_var rfl) o_add)) fun _ => o_lt)) (tm_test (em_opr (g := fun (u : Int) (v : Int) => decide (v ≤ u)) (em_ixLp (fun _ => (ep_var rfl)) fun _ => (ep_op (ep_var rfl) (ep_int (K := K)) o_sub)) (fun _ => (ep_var rfl)) fun _ => o_ge)))) (rc_of_x (rx_ret (rt_ret (em_pure fun _ => (ep_bl (K := K))) fun s => (.cons (.rfl _) (.cons (.no _) (.cons (.no _) (.cons (.no _) (.cons (.no _) (.cons (.no _) (.cons (.no _) (.cons (.no _) (.cons (.no _) (.cons (.drop _) (.cons (.no _) (.cons (.rfl _) (.cons (.no _) (.cons (.no _) (.cons (.rfl _) .nil)))))))))))))))))) (rc_of_p (rp_next (x := ()) fun s => (.cons (.rfl _) (.cons (.rfl _) (.cons (.rfl _) (.cons (.rfl _) (.cons (.rfl _) (.cons (.rfl _) (.cons (.rfl _) (.cons (.rfl _) (.cons (.no _) (.cons (.drop _) (.cons (.no _) (.cons (.rfl _) (.cons (.no _) (.cons (.no _) (.cons (.rfl _) .nil))))))))))))))))))))))) fun t178 => (rt_ret (em_pure fun _ => (ep_bl (K := K))) fun s => (.cons (.rfl _) (.cons (.no _) (.cons (.no _) (.cons (.no _) (.cons (.no _) (.cons (.no _) (.cons (.no _) (.cons (.no _) (.cons (.rfl _) (.cons (.rfl _) (.cons (.rfl _) (.cons (.rfl _) (.cons (.rfl _) (.cons (.rfl _) (.cons (.rfl _) .nil))))))))))))))))))))))) h⟩
theorem ok__law_heads_right {f : Addr} {fd : FuncData} (F : FnP K "_law_heads_right" (top 28) f fd) (hg : mg "_law_heads_right" = some (.ref f)) (b_bool : mg "bool" = none) (b_int : mg "int" = none) (b_isinstance : mg "isinstance" = none) (b_len : mg "len" = none) (b_list : mg "list" = none) (b_range : mg "range" = none) (C__law_take : Cal P w K mg base 1 "_law_take" ["box", "many"] (sp__law_take K)) (C_heads_for : Cal P w K mg base 4 "heads_for" ["need", "lost", "symbols", "pending"] (sp_heads_for K)) (D_heads_for__pending_lost_symbols_need : CalK P w K mg base 4 "heads_for" ["need", "lost", "symbols", "pending"] (sp_heads_for K) ["pending", "lost", "symbols", "need"] gl_heads_for__pending_lost_symbols_need gv_heads_for__pending_lost_symbols_need) : Cal P w K mg base 5 "_law_heads_right" ["box", "size", "least"] (sp__law_heads_right K) := ⟨f, fd, fo__law_heads_right F b_bool b_int b_isinstance b_len b_list b_range C__law_take C_heads_for D_heads_for__pending_lost_symbols_need, hg, F.kp, F.bindsN fun _ _ _ _ _ _ us hl => match us, hl with | [_, _, _], _ => rfl⟩
def m__law_syncs (heads : Int) (pending : Int) : Mn Unit Int :=
  (mb (mp ()) fun z179 =>
  (mb (mb (mc (b62 ((2 : Int) : Int)) (rng 0 ((2 : Int) : Int).toNat)) fun xs => forP xs ((1 : Int), (0 : Int)) fun a181 (t180 : Int × Int) =>
    (mb (mb (mc (b62 heads) (rng 0 heads.toNat)) fun xs => forP xs (t180.1, t180.2) fun a183 (t182 : Int × Int) =>
    (mb (mp ((t182.2 + (1 : Int)) : Int)) fun waiting184 =>
    (mb (mb (mp (decide (waiting184 = pending) || decide (a183 = (heads - (1 : Int))))) fun b => mi b
    (mb (mp ()) fun z186 => mp ((t182.1 + (1 : Int)), (0 : Int)))
    (mp (t182.1, waiting184))) fun t185 => mp (t185.1, t185.2)))) fun t187 =>
    (mb (mb (mp (decide (a181 = (0 : Int)))) fun b => mi b
    (mb (mp ((t187.1 + (1 : Int)) : Int)) fun found189 => mp found189)
    (mp t187.1)) fun t188 => mp (t188, t187.2)))) fun t190 =>
  (mp t190.1)))
abbrev sp__law_syncs (K : PySem.W.Frag) : Sp := Prom (rIm K) (S := Unit) (fun i : Int × Int => [.im (pv K i.1), .im (pv K i.2)]) fun i => m__law_syncs i.1 i.2
theorem len__law_syncs : ∀ vs H Q E, sp__law_syncs K vs H Q E → vs.length = 2 := prom_len (Ret := (rIm K)) (As := fun i : Int × Int => [.im (pv K i.1), .im (pv K i.2)]) (m := fun i => m__law_syncs i.1 i.2) fun _ => rfl
theorem sc__law_syncs : FnScope ["heads", "pending", "found", "waiting", "turn", "head"] ["heads", "pending"] (defScope (top 29)) := ⟨rfl, rfl, rfl, by decide +kernel, rfl, by decide +kernel, by decide +kernel⟩
theorem fo__law_syncs {f : Addr} {fd : FuncData} (F : FnP K "_law_syncs" (top 29) f fd) (b_range : mg "range" = none) : FnOk P w K mg base CX0 1 f fd ["heads", "pending"] (sp__law_syncs K) := by
  refine F.ok sc__law_syncs (len__law_syncs (K := K)) (fun cdv A outer s H vs Q E hr h => ?_)
  have hl : vs.length = 2 := len__law_syncs (K := K) vs H Q E h
  match vs, hl, h with
  | [v0, v1], _, h => exact ⟨_, PSs.nox ((pss_cons (ps_asg (pe_tup (pa_cons pe_int (pa_cons pe_int pa_nil))) (pg_tup (n := 2) rfl (pgs_cons (pg_name (i := 2) sc__law_syncs.nd rfl (Or.inl rfl)) (pgs_cons (pg_name (i := 3) sc__law_syncs.nd rfl (Or.inl rfl)) pgs_nil)))) (pss_cons (ps_for PassesOwn.never rfl (pi_range1 rfl b_range (pa_cons pe_int pa_nil)) (pg_name (i := 4) sc__law_syncs.nd rfl (Or.inl rfl)) (pss_cons (ps_for PassesOwn.never rfl (pi_range1 rfl b_range (pa_cons (L2.pv 0) pa_nil)) (pg_name (i := 5) sc__law_syncs.nd rfl (Or.inl rfl)) (pss_cons (ps_set (i := 3) sc__law_syncs.nd rfl (Or.inl rfl) (pe_op op_add (L2.pv 3) pe_int)) (pss_one (ps_if (PW.pt (pw_or (pt_cmpR op_eq (L2.pv 3) (L2.pv 1) (nomark _)) (pw_or1 (pt_cmpR op_eq (L2.pv 5) (pe_op op_sub (L2.pv 0) pe_int) (nomark _))))) (pss_one (ps_par (i := 2) (j := 3) rfl sc__law_syncs.nd rfl rfl (by decide) rfl rfl (pa_cons (pe_op op_add (L2.pv 2) pe_int) (pa_cons pe_int pa_nil)) rfl)) pss_nil)))) (pss_one (ps_if (pt_cmpR op_eq (L2.pv 4) pe_int (nomark _)) (pss_one (ps_set (i := 2) sc__law_syncs.nd rfl (Or.inl rfl) (pe_op op_add (L2.pv 2) pe_int))) pss_nil)))) (pss_one (ps_ret (L2.pv 2)))))), prom_ok (n := 2) (Ret := (rIm K)) (As := fun i : Int × Int => [.im (pv K i.1), .im (pv K i.2)]) (m := fun i => m__law_syncs i.1 i.2) 4 (fun _ => rfl) rfl (fun (heads, pending) => (show RN (rIm K) _ (fun (s : Unit) => [.im (pv K heads), .im (pv K pending), .no, .no, .no, .no]) (m__law_syncs heads pending) (fun (s : Unit) => [.no, .no, .no, .no, .no, .no]) from (rn_of (rt_seq (rp_asgT (Γ' := fun z179 (s : Unit) => [.im (pv K heads), .im (pv K pending), .im (pv K ((1 : Int) : Int)), .im (pv K ((0 : Int) : Int)), .no, .no]) [2, 3] (ao_p (fun _ => (ep_int (K := K))) (ao_p (fun _ => (ep_int (K := K))) ao_nil)) (fun _ => asg_ok rfl) (fun _ => rfl) (fun _ => rfl) (Nat.le_of_ble_eq_true rfl) fun _ _ => rfl) fun z179 => (rt_seq (rp_for (ΓL := fun (t180 : Int × Int) (s : Unit) => [.im (pv K heads), .im (pv K pending), .im (pv K t180.1), .im (pv K t180.2), .no, .no]) (Γx := fun (a181 : Int) (t180 : Int × Int) (s : Unit) => [.im (pv K heads), .im (pv K pending), .im (pv K t180.1), .im (pv K t180.2), .im (pv K a181), .no]) (im_rng1 fun _ => (ap_cons (ep_int (K := K)) ap_nil)) (fun s => (.cons (.rfl _) (.cons (.rfl _) (.cons (.rfl _) (.cons (.rfl _) (.cons (.rfl _) (.cons (.rfl _) .nil))))))) (fun a181 t180 s => (gt_name (Γ := [.im (pv K heads), .im (pv K pending), .im (pv K t180.1), .im (pv K t180.2), .no, .no]) (i := 4) (Γ' := [.im (pv K heads), .im (pv K pending), .im (pv K t180.1), .im (pv K t180.2), .im (pv K a181), .no]) rfl rfl)) fun a181 t180 => (rp_seq (rp_for (ΓL := fun (t182 : Int × Int) (s : Unit) => [.im (pv K heads), .im (pv K pending), .im (pv K t182.1), .im (pv K t182.2), .im (pv K a181), .no]) (Γx := fun (a183 : Int) (t182 : Int × Int) (s : Unit) => [.im (pv K heads), .im (pv K pending), .im (pv K t182.1), .im (pv K t182.2), .im (pv K a181), .im (pv K a183)]) (im_rng1 fun _ => (ap_cons (ep_var rfl) ap_nil)) (fun s => (.cons (.rfl _) (.cons (.rfl _) (.cons (.rfl _) (.cons (.rfl _) (.cons (.rfl _) (.cons (.rfl _) .nil))))))) (fun a183 t182 s => (gt_name (Γ := [.im (pv K heads), .im (pv K pending), .im (pv K t182.1), .im (pv K t182.2), .im (pv K a181), .no]) (i := 5) (Γ' := [.im (pv K heads), .im (pv K pending), .im (pv K t182.1), .im (pv K t182.2), .im (pv K a181), .im (pv K a183)]) rfl rfl)) fun a183 t182 => (rp_seq (rp_asg (Γ' := fun waiting184 (s : Unit) => [.im (pv K heads), .im (pv K pending), .im (pv K t182.1), .im (pv K waiting184), .im (pv K a181), .im (pv K a183)]) (em_pure fun _ => (ep_op (ep_var rfl) (ep_int (K := K)) o_add)) (fun _ => rfl) fun _ _ => rfl) fun waiting184 => (rp_post (f := fun t185 => (t185.1, t185.2)) (rp_if (Γ' := fun t185 (s : Unit) => [.im (pv K heads), .im (pv K pending), .im (pv K t185.1), .im (pv K t185.2), .im (pv K a181), .im (pv K a183)]) (tm_pure fun _ => (tp_or (tp_test (ep_op (ep_var rfl) (ep_var rfl) o_eq)) fun _ => (tp_test (ep_op (ep_var rfl) (ep_op (ep_var rfl) (ep_int (K := K)) o_sub) o_eq)))) (rp_post (f := fun z186 => ((t182.1 + (1 : Int)), (0 : Int))) (rp_asg2 (Γ' := fun z186 (s : Unit) => [.im (pv K heads), .im (pv K pending), .im (pv K ((t182.1 + (1 : Int)) : Int)), .im (pv K ((0 : Int) : Int)), .im (pv K a181), .im (pv K a183)]) (ao_p (fun _ => (ep_op (ep_var rfl) (ep_int (K := K)) o_add)) (ao_p (fun _ => (ep_int (K := K))) ao_nil)) (fun _ => asg_ok rfl) (fun _ => rfl) (fun _ => rfl) fun _ _ => rfl) fun z186 s => (.cons (.rfl _) (.cons (.rfl _) (.cons (.rfl _) (.cons (.rfl _) (.cons (.rfl _) (.cons (.rfl _) .nil))))))) (rp_next (x := (t182.1, waiting184)) fun s => (.cons (.rfl _) (.cons (.rfl _) (.cons (.rfl _) (.cons (.rfl _) (.cons (.rfl _) (.cons (.rfl _) .nil)))))))) fun t185 s => (.cons (.rfl _) (.cons (.rfl _) (.cons (.rfl _) (.cons (.rfl _) (.cons (.rfl _) (.cons (.no _) .nil))))))))) fun t187 => (rp_post (f := fun t188 => (t188, t187.2)) (rp_if (Γ' := fun t188 (s : Unit) => [.im (pv K heads), .im (pv K pending), .im (pv K t188), .im (pv K t187.2), .im (pv K a181), .no]) (tm_pure fun _ => (tp_test (ep_op (ep_var rfl) (ep_int (K := K)) o_eq))) (rp_post (f := fun found189 => found189) (rp_asg (Γ' := fun found189 (s : Unit) => [.im (pv K heads), .im (pv K pending), .im (pv K found189), .im (pv K t187.2), .im (pv K a181), .no]) (em_pure fun _ => (ep_op (ep_var rfl) (ep_int (K := K)) o_add)) (fun _ => rfl) fun _ _ => rfl) fun found189 s => (.cons (.rfl _) (.cons (.rfl _) (.cons (.rfl _) (.cons (.rfl _) (.cons (.rfl _) (.cons (.rfl _) .nil))))))) (rp_next (x := t187.1) fun s => (.cons (.rfl _) (.cons (.rfl _) (.cons (.rfl _) (.cons (.rfl _) (.cons (.rfl _) (.cons (.rfl _) .nil)))))))) fun t188 s => (.cons (.rfl _) (.cons (.rfl _) (.cons (.rfl _) (.cons (.rfl _) (.cons (.no _) (.cons (.rfl _) .nil))))))))) fun t190 => (rt_ret (em_pure fun _ => (ep_var rfl)) fun s => (.cons (.no _) (.cons (.no _) (.cons (.no _) (.cons (.no _) (.cons (.rfl _) (.cons (.rfl _) .nil)))))))))))) h⟩
theorem ok__law_syncs {f : Addr} {fd : FuncData} (F : FnP K "_law_syncs" (top 29) f fd) (hg : mg "_law_syncs" = some (.ref f)) (b_range : mg "range" = none) : Cal P w K mg base 1 "_law_syncs" ["heads", "pending"] (sp__law_syncs K) := ⟨f, fd, fo__law_syncs F b_range, hg, F.kp, F.bindsN fun _ _ _ _ _ _ us hl => match us, hl with | [_, _], _ => rfl⟩
def m__law_syncs_right : Mn Box Bool :=
  (mb (mb (mb (mb (mb (m__law_take ((64 : Int) : Int)) fun y193 => mp ((1 : Int) + y193)) fun x203 => mb (mb (mp ((64 : Int) : Int)) fun x201 => mb (mb (mp ((1 : Int) : Int)) fun x199 => mb (mb (mb (m__law_take ((4 : Int) : Int)) fun y196 => mp ((2 : Int) + y196)) fun x197 => mb (mp ()) fun z198 => mp (x197, z198)) fun z200 => mp (x199, z200)) fun z202 => mp (x201, z202)) fun z204 => mp (x203, z204)) fun z205 => mp ([z205.1, z205.2.1, z205.2.2.1, z205.2.2.2.1] : (List Int))) fun x207 => mb (m__law_take ((4 : Int) : Int)) fun i208 => mo (atI x207 i208)) fun pending209 =>
  (mb (mb (mb (mb (mb (m__law_take ((2000 : Int) : Int)) fun y212 => mp ((1 : Int) + y212)) fun x227 => mb (mb (mp ((2000 : Int) : Int)) fun x225 => mb (mb (mb (m__law_take ((40 : Int) : Int)) fun y215 => mp ((1 : Int) + y215)) fun x223 => mb (mb (mb (mb (m__law_take ((8 : Int) : Int)) fun y218 => mp ((1 : Int) + y218)) fun y220 => mc (mulOk pending209 y220) (pending209 * y220)) fun x221 => mb (mp ()) fun z222 => mp (x221, z222)) fun z224 => mp (x223, z224)) fun z226 => mp (x225, z226)) fun z228 => mp (x227, z228)) fun z229 => mp ([z229.1, z229.2.1, z229.2.2.1, z229.2.2.2.1] : (List Int))) fun x231 => mb (m__law_take ((4 : Int) : Int)) fun i232 => mo (atI x231 i232)) fun heads233 =>
  (mb (mb (mb (mp ((2000 : Int) : Int)) fun x239 => mb (mb (mb (m__law_take ((2 : Int) : Int)) fun y236 => mp (heads233 + y236)) fun x237 => mb (mp ()) fun z238 => mp (x237, z238)) fun z240 => mp (x239, z240)) fun z241 => mp (if z241.2.1 < z241.1 then z241.2.1 else z241.1)) fun heads242 =>
  (mb (mb (mb (m__law_take ((2 : Int) : Int)) fun x247 => mp (decide (x247 = (0 : Int)))) fun b => mi b
    (mb (mu (m_syncs_for heads242 pending209)) fun told250 => mp told250)
    (mb (mu (m_syncs_for heads242 pending209)) fun told251 => mp told251)) fun t249 =>
  (mb (mp true) fun b255 => mi b255 (mb (mp ((!false) : Bool)) fun b254 => mi b254 (mb (mu (m__law_syncs heads242 pending209)) fun y253 => mp (decide (t249 = y253))) (mp false)) (mp false))))))
abbrev sp__law_syncs_right (K : PySem.W.Frag) : Sp := Prom (rIm K) (S := Box) (fun i : Unit => [.ow boxP]) fun i => m__law_syncs_right
theorem len__law_syncs_right : ∀ vs H Q E, sp__law_syncs_right K vs H Q E → vs.length = 1 := prom_len (Ret := (rIm K)) (As := fun i : Unit => [.ow boxP]) (m := fun i => m__law_syncs_right) fun _ => rfl
theorem sc__law_syncs_right : FnScope ["box", "pending", "heads", "told"] ["box"] (defScope (top 30)) := ⟨rfl, rfl, rfl, by decide +kernel, rfl, by decide +kernel, by decide +kernel⟩
theorem fo__law_syncs_right {f : Addr} {fd : FuncData} (F : FnP K "_law_syncs_right" (top 30) f fd) (b_bool : mg "bool" = none) (b_int : mg "int" = none) (b_isinstance : mg "isinstance" = none) (b_min : mg "min" = none) (C__law_take : Cal P w K mg base 1 "_law_take" ["box", "many"] (sp__law_take K)) (C_syncs_for : Cal P w K mg base 4 "syncs_for" ["heads", "pending"] (sp_syncs_for K)) (D_syncs_for__pending_heads : CalK P w K mg base 4 "syncs_for" ["heads", "pending"] (sp_syncs_for K) ["pending", "heads"] gl_syncs_for__pending_heads gv_syncs_for__pending_heads) (C__law_syncs : Cal P w K mg base 1 "_law_syncs" ["heads", "pending"] (sp__law_syncs K)) : FnOk P w K mg base CX0 5 f fd ["box"] (sp__law_syncs_right K) := by
  obtain ⟨f__law_take, fd__law_take, G__law_take, g__law_take, kp__law_take, bi__law_take⟩ := C__law_take.ex
  obtain ⟨f_syncs_for, fd_syncs_for, G_syncs_for, g_syncs_for, kp_syncs_for, bi_syncs_for⟩ := C_syncs_for.ex
  obtain ⟨f_syncs_for__pending_heads, fd_syncs_for__pending_heads, G_syncs_for__pending_heads, g_syncs_for__pending_heads, kp_syncs_for__pending_heads, bi_syncs_for__pending_heads⟩ := D_syncs_for__pending_heads.ex
  obtain ⟨f__law_syncs, fd__law_syncs, G__law_syncs, g__law_syncs, kp__law_syncs, bi__law_syncs⟩ := C__law_syncs.ex
  refine F.ok sc__law_syncs_right (len__law_syncs_right (K := K)) (fun cdv A outer s H vs Q E hr h => ?_)
  have hl : vs.length = 1 := len__law_syncs_right (K := K) vs H Q E h
  match vs, hl, h with
  | [v0], _, h => exact ⟨_, PSs.nox ((pss_cons (ps_set (i := 1) sc__law_syncs_right.nd rfl (Or.inl rfl) (pe_ix ix_list (pe_lst (pa_cons (pe_op op_add pe_int (pe_call G__law_take (hr.mono (Nat.le_of_ble_eq_true rfl)) rfl g__law_take kp__law_take bi__law_take .nil pass0 (pa_cons (L2.pv 0) (pa_cons pe_int pa_nil)))) (pa_cons pe_int (pa_cons pe_int (pa_cons (pe_op op_add pe_int (pe_call G__law_take (hr.mono (Nat.le_of_ble_eq_true rfl)) rfl g__law_take kp__law_take bi__law_take .nil pass0 (pa_cons (L2.pv 0) (pa_cons pe_int pa_nil)))) pa_nil))))) (pe_call G__law_take (hr.mono (Nat.le_of_ble_eq_true rfl)) rfl g__law_take kp__law_take bi__law_take .nil pass0 (pa_cons (L2.pv 0) (pa_cons pe_int pa_nil))) (fun _ _ => rfl))) (pss_cons (ps_set (i := 2) sc__law_syncs_right.nd rfl (Or.inl rfl) (pe_ix ix_list (pe_lst (pa_cons (pe_op op_add pe_int (pe_call G__law_take (hr.mono (Nat.le_of_ble_eq_true rfl)) rfl g__law_take kp__law_take bi__law_take .nil pass0 (pa_cons (L2.pv 0) (pa_cons pe_int pa_nil)))) (pa_cons pe_int (pa_cons (pe_op op_add pe_int (pe_call G__law_take (hr.mono (Nat.le_of_ble_eq_true rfl)) rfl g__law_take kp__law_take bi__law_take .nil pass0 (pa_cons (L2.pv 0) (pa_cons pe_int pa_nil)))) (pa_cons (pe_op op_mulW (L2.pv 1) (pe_op op_add pe_int (pe_call G__law_take (hr.mono (Nat.le_of_ble_eq_true rfl)) rfl g__law_take kp__law_take bi__law_take .nil pass0 (pa_cons (L2.pv 0) (pa_cons pe_int pa_nil))))) pa_nil))))) (pe_call G__law_take (hr.mono (Nat.le_of_ble_eq_true rfl)) rfl g__law_take kp__law_take bi__law_take .nil pass0 (pa_cons (L2.pv 0) (pa_cons pe_int pa_nil))) (fun _ _ => rfl))) (pss_cons (ps_set (i := 2) sc__law_syncs_right.nd rfl (Or.inl rfl) (pe_callB (call_min2 rfl) rfl b_min bt_min (pa_cons pe_int (pa_cons (pe_op op_add (L2.pv 2) (pe_call G__law_take (hr.mono (Nat.le_of_ble_eq_true rfl)) rfl g__law_take kp__law_take bi__law_take .nil pass0 (pa_cons (L2.pv 0) (pa_cons pe_int pa_nil)))) pa_nil)))) (pss_cons (ps_if (pt_cmpR op_eq (pe_call G__law_take (hr.mono (Nat.le_of_ble_eq_true rfl)) rfl g__law_take kp__law_take bi__law_take .nil pass0 (pa_cons (L2.pv 0) (pa_cons pe_int pa_nil))) pe_int (nomark _)) (pss_one (ps_set (i := 3) sc__law_syncs_right.nd rfl (Or.inl rfl) (pe_call G_syncs_for (hr.mono (Nat.le_of_ble_eq_true rfl)) rfl g_syncs_for kp_syncs_for bi_syncs_for .nil pass0 (pa_cons (L2.pv 2) (pa_cons (L2.pv 1) pa_nil))))) (pss_one (ps_set (i := 3) sc__law_syncs_right.nd rfl (Or.inl rfl) (pe_callK0 G_syncs_for__pending_heads (hr.mono (Nat.le_of_ble_eq_true rfl)) rfl g_syncs_for__pending_heads kp_syncs_for__pending_heads bi_syncs_for__pending_heads pass0 (pk_cons (L2.pv 1) (pk_cons (L2.pv 2) pk_nil)))))) (pss_one (ps_ret (pe_and (pe_callB call_isi rfl b_isinstance bt_isinstance (pa_cons (L2.pv 3) (pa_cons (pe_bltn (v := .ty "int") rfl b_int bt_int rfl) pa_nil))) (pe_and (pe_not (pe_callB call_isi rfl b_isinstance bt_isinstance (pa_cons (L2.pv 3) (pa_cons (pe_bltn (v := .ty "bool") rfl b_bool bt_bool rfl) pa_nil)))) (pe_one (pe_cmpR op_eq (L2.pv 3) (pe_call G__law_syncs (hr.mono (Nat.le_of_ble_eq_true rfl)) rfl g__law_syncs kp__law_syncs bi__law_syncs .nil pass0 (pa_cons (L2.pv 2) (pa_cons (L2.pv 1) pa_nil))) (nomark _)))))))))))), prom_ok (n := 1) (Ret := (rIm K)) (As := fun i : Unit => [.ow boxP]) (m := fun i => m__law_syncs_right) 3 (fun _ => rfl) rfl (fun _ => (show RN (rIm K) _ (fun (s : Box) => [.ow ((boxP s).at v0), .no, .no, .no]) (m__law_syncs_right) (fun (s : Box) => [.ow ((boxP s).at v0), .no, .no, .no]) from (rn_of (rt_seq (rp_asg (Γ' := fun pending209 (s : Box) => [.ow ((boxP s).at v0), .im (pv K pending209), .no, .no]) (em_ixL (em_lst (f := fun (z205 : Int × Int × Int × Int × Unit) => ([z205.1, z205.2.1, z205.2.2.1, z205.2.2.2.1] : (List Int))) (hl := fun _ => Nat.le_of_ble_eq_true rfl) (am_cons (em_opl (g := fun (u : Int) (v : Int) => (u + v)) (fun _ => (ep_int (K := K))) (em_of_eo (eo_call1i (f := fun (z191 : Unit) => ((64 : Int) : Int)) (ak_sl (te := tC .non) (fun _ => rfl) (ak_p (fun _ => (ep_int (K := K))) ak_nil)) (fun z191 => ⟨rfl, [pv K ((64 : Int) : Int)], rfl⟩) cv_at (fun _ => rfl) (fun _ _ => rfl) fun _ _ => rfl)) fun _ => o_add) (am_cons (em_pure fun _ => (ep_int (K := K))) (am_cons (em_pure fun _ => (ep_int (K := K))) (am_cons (em_opl (g := fun (u : Int) (v : Int) => (u + v)) (fun _ => (ep_int (K := K))) (em_of_eo (eo_call1i (f := fun (z194 : Unit) => ((4 : Int) : Int)) (ak_sl (te := tC .non) (fun _ => rfl) (ak_p (fun _ => (ep_int (K := K))) ak_nil)) (fun z194 => ⟨rfl, [pv K ((4 : Int) : Int)], rfl⟩) cv_at (fun _ => rfl) (fun _ _ => rfl) fun _ _ => rfl)) fun _ => o_add) am_nil))))) (em_of_eo (eo_call1i (f := fun (z206 : Unit) => ((4 : Int) : Int)) (ak_sl (te := tC .non) (fun _ => rfl) (ak_p (fun _ => (ep_int (K := K))) ak_nil)) (fun z206 => ⟨rfl, [pv K ((4 : Int) : Int)], rfl⟩) cv_at (fun _ => rfl) (fun _ _ => rfl) fun _ _ => rfl))) (fun _ => rfl) fun _ _ => rfl) fun pending209 => (rt_seq (rp_asg (Γ' := fun heads233 (s : Box) => [.ow ((boxP s).at v0), .im (pv K pending209), .im (pv K heads233), .no]) (em_ixL (em_lst (f := fun (z229 : Int × Int × Int × Int × Unit) => ([z229.1, z229.2.1, z229.2.2.1, z229.2.2.2.1] : (List Int))) (hl := fun _ => Nat.le_of_ble_eq_true rfl) (am_cons (em_opl (g := fun (u : Int) (v : Int) => (u + v)) (fun _ => (ep_int (K := K))) (em_of_eo (eo_call1i (f := fun (z210 : Unit) => ((2000 : Int) : Int)) (ak_sl (te := tC .non) (fun _ => rfl) (ak_p (fun _ => (ep_int (K := K))) ak_nil)) (fun z210 => ⟨rfl, [pv K ((2000 : Int) : Int)], rfl⟩) cv_at (fun _ => rfl) (fun _ _ => rfl) fun _ _ => rfl)) fun _ => o_add) (am_cons (em_pure fun _ => (ep_int (K := K))) (am_cons (em_opl (g := fun (u : Int) (v : Int) => (u + v)) (fun _ => (ep_int (K := K))) (em_of_eo (eo_call1i (f := fun (z213 : Unit) => ((40 : Int) : Int)) (ak_sl (te := tC .non) (fun _ => rfl) (ak_p (fun _ => (ep_int (K := K))) ak_nil)) (fun z213 => ⟨rfl, [pv K ((40 : Int) : Int)], rfl⟩) cv_at (fun _ => rfl) (fun _ _ => rfl) fun _ _ => rfl)) fun _ => o_add) (am_cons (em_oplC (g := fun (u : Int) (v : Int) => (u * v)) (c := fun (u : Int) (v : Int) => mulOk u v) (fun _ => (ep_var rfl)) (em_opl (g := fun (u : Int) (v : Int) => (u + v)) (fun _ => (ep_int (K := K))) (em_of_eo (eo_call1i (f := fun (z216 : Unit) => ((8 : Int) : Int)) (ak_sl (te := tC .non) (fun _ => rfl) (ak_p (fun _ => (ep_int (K := K))) ak_nil)) (fun z216 => ⟨rfl, [pv K ((8 : Int) : Int)], rfl⟩) cv_at (fun _ => rfl) (fun _ _ => rfl) fun _ _ => rfl)) fun _ => o_add) fun _ h => (o_mulW h)) am_nil))))) (em_of_eo (eo_call1i (f := fun (z230 : Unit) => ((4 : Int) : Int)) (ak_sl (te := tC .non) (fun _ => rfl) (ak_p (fun _ => (ep_int (K := K))) ak_nil)) (fun z230 => ⟨rfl, [pv K ((4 : Int) : Int)], rfl⟩) cv_at (fun _ => rfl) (fun _ _ => rfl) fun _ _ => rfl))) (fun _ => rfl) fun _ _ => rfl) fun heads233 => (rt_seq (rp_asg (Γ' := fun heads242 (s : Box) => [.ow ((boxP s).at v0), .im (pv K pending209), .im (pv K heads242), .no]) (em_cb (f := fun (z241 : Int × Int × Unit) => (if z241.2.1 < z241.1 then z241.2.1 else z241.1)) (am_cons (em_pure fun _ => (ep_int (K := K))) (am_cons (em_opl (g := fun (u : Int) (v : Int) => (u + v)) (fun _ => (ep_var rfl)) (em_of_eo (eo_call1i (f := fun (z234 : Unit) => ((2 : Int) : Int)) (ak_sl (te := tC .non) (fun _ => rfl) (ak_p (fun _ => (ep_int (K := K))) ak_nil)) (fun z234 => ⟨rfl, [pv K ((2 : Int) : Int)], rfl⟩) cv_at (fun _ => rfl) (fun _ _ => rfl) fun _ _ => rfl)) fun _ => o_add) am_nil)) fun _ => c_min2) (fun _ => rfl) fun _ _ => rfl) fun heads242 => (rt_seq (rp_if (Γ' := fun t249 (s : Box) => [.ow ((boxP s).at v0), .im (pv K pending209), .im (pv K heads242), .im (pv K t249)]) (tm_test (em_opr (g := fun (u : Int) (v : Int) => decide (u = v)) (em_of_eo (eo_call1i (f := fun (z246 : Unit) => ((2 : Int) : Int)) (ak_sl (te := tC .non) (fun _ => rfl) (ak_p (fun _ => (ep_int (K := K))) ak_nil)) (fun z246 => ⟨rfl, [pv K ((2 : Int) : Int)], rfl⟩) cv_at (fun _ => rfl) (fun _ _ => rfl) fun _ _ => rfl)) (fun _ => (ep_int (K := K))) fun _ => o_eq)) (rp_post (f := fun told250 => told250) (rp_asg (Γ' := fun told250 (s : Box) => [.ow ((boxP s).at v0), .im (pv K pending209), .im (pv K heads242), .im (pv K told250)]) (em_of_eo (eo_call0 (i := (heads242, pending209)) (ps := [pv K heads242, pv K pending209]) (fun _ => (ap_cons (ep_var rfl) (ap_cons (ep_var rfl) ap_nil))) rfl)) (fun _ => rfl) fun _ _ => rfl) fun told250 s => (.cons (.rfl _) (.cons (.rfl _) (.cons (.rfl _) (.cons (.rfl _) .nil))))) (rp_post (f := fun told251 => told251) (rp_asg (Γ' := fun told251 (s : Box) => [.ow ((boxP s).at v0), .im (pv K pending209), .im (pv K heads242), .im (pv K told251)]) (em_of_eo (eo_callK (i := (heads242, pending209)) (qs := [pv K heads242, pv K pending209]) (fun _ => (ap_cons (ep_var rfl) (ap_cons (ep_var rfl) ap_nil))) (by intro I vs h; obtain ⟨_, _, rfl, r0, h⟩ := all2_c h; obtain ⟨_, _, rfl, r1, h⟩ := all2_c h; cases all2_n h; exact (.cons r1 (.cons r0 .nil))) rfl)) (fun _ => rfl) fun _ _ => rfl) fun told251 s => (.cons (.rfl _) (.cons (.rfl _) (.cons (.rfl _) (.cons (.rfl _) .nil)))))) fun t249 => (rt_ret (em_andV (em_pure fun _ => (ep_cb (ap_cons (ep_var rfl) (ap_cons ep_ty ap_nil)) (c_isi (b := true) (t := "int") ty_int (by decide +kernel)))) (em_andV (em_pure fun _ => (ep_notV (ep_cb (ap_cons (ep_var rfl) (ap_cons ep_ty ap_nil)) (c_isi (b := false) (t := "int") ty_int (by decide +kernel))))) (em_opl (g := fun (u : Int) (v : Int) => decide (u = v)) (fun _ => (ep_var rfl)) (em_of_eo (eo_call0 (i := (heads242, pending209)) (ps := [pv K heads242, pv K pending209]) (fun _ => (ap_cons (ep_var rfl) (ap_cons (ep_var rfl) ap_nil))) rfl)) fun _ => o_eq))) fun s => (.cons (.rfl _) (.cons (.no _) (.cons (.no _) (.cons (.no _) .nil)))))))))))) h⟩
theorem ok__law_syncs_right {f : Addr} {fd : FuncData} (F : FnP K "_law_syncs_right" (top 30) f fd) (hg : mg "_law_syncs_right" = some (.ref f)) (b_bool : mg "bool" = none) (b_int : mg "int" = none) (b_isinstance : mg "isinstance" = none) (b_min : mg "min" = none) (C__law_take : Cal P w K mg base 1 "_law_take" ["box", "many"] (sp__law_take K)) (C_syncs_for : Cal P w K mg base 4 "syncs_for" ["heads", "pending"] (sp_syncs_for K)) (D_syncs_for__pending_heads : CalK P w K mg base 4 "syncs_for" ["heads", "pending"] (sp_syncs_for K) ["pending", "heads"] gl_syncs_for__pending_heads gv_syncs_for__pending_heads) (C__law_syncs : Cal P w K mg base 1 "_law_syncs" ["heads", "pending"] (sp__law_syncs K)) : Cal P w K mg base 5 "_law_syncs_right" ["box"] (sp__law_syncs_right K) := ⟨f, fd, fo__law_syncs_right F b_bool b_int b_isinstance b_min C__law_take C_syncs_for D_syncs_for__pending_heads C__law_syncs, hg, F.kp, F.bindsN fun _ _ _ _ _ _ us hl => match us, hl with | [_], _ => rfl⟩
def m_law (script : Scr) : Mn Unit Bool :=
  (mb (mb (mc (b62 ((if (if ((script.l.length : Nat) : Int) < (3 : Int) then ((script.l.length : Nat) : Int) else (3 : Int)) > (1 : Int) then (if ((script.l.length : Nat) : Int) < (3 : Int) then ((script.l.length : Nat) : Int) else (3 : Int)) else (1 : Int)) : Int)) (rng 0 ((if (if ((script.l.length : Nat) : Int) < (3 : Int) then ((script.l.length : Nat) : Int) else (3 : Int)) > (1 : Int) then (if ((script.l.length : Nat) : Int) < (3 : Int) then ((script.l.length : Nat) : Int) else (3 : Int)) else (1 : Int)) : Int).toNat)) fun xs => forC (β := Empty) xs () fun a257 (t256 : Unit) =>
    (mb (mb (mb (mu (m__law_cell script a257)) fun x258 => mb (mp ()) fun z259 => mp (x258, z259)) fun z260 => mu (m__law_box z260.1)) fun b => mrun b
    (mb (mb (mb m__law_size fun x265 => mb (mb m__law_size fun x263 => mb (mp ()) fun z264 => mp (x263, z264)) fun z266 => mp (x265, z266)) fun z267 => mp ([z267.1, z267.2.1] : (List (T4 Int Int Int Int)))) fun sizes268 =>
    (mb (mb (mp sizes268) fun xs => cmP xs (fun (a269 : (T4 Int Int Int Int)) => (mp true)) fun a269 => (mu (m__law_least a269))) fun leasts270 =>
    (mb (mb (mp (([(0 : Int), (1 : Int), (0 : Int)] : (List Int)) : (List Int))) fun xs => forC (β := Empty) xs () fun a272 (t271 : Unit) =>
    (mb (mb (mb (mb (mb (mo (atI sizes268 a272)) fun x280 => mb (mb (mo (atI leasts270 a272)) fun x278 => mb (mp ()) fun z279 => mp (x278, z279)) fun z281 => mp (x280, z281)) fun z277 => m__law_heads_right z277.1 z277.2.1) fun b282 => mp (!b282)) fun b285 => mi b285 (mp true) (mb m__law_syncs_right fun b284 => mp (!b284))) fun b => mi b
      (mb (mp false) fun x => mp (.rt x))
      (mp (.nx ())))) (ctb fun t286 => mp (.nx ()))))))) (ctk (fun t287 => (mp true)) fun _ => mbad))
abbrev sp_law (K : PySem.W.Frag) : Sp := Prom (rIm K) (S := Unit) (fun i : Scr => [.im (pv K i)]) fun i => m_law i
theorem len_law : ∀ vs H Q E, sp_law K vs H Q E → vs.length = 1 := prom_len (Ret := (rIm K)) (As := fun i : Scr => [.im (pv K i)]) (m := fun i => m_law i) fun _ => rfl
theorem sc_law : FnScope ["script", "k", "box", "sizes", "leasts", "at", "size"] ["script"] (defScope (top 31)) := ⟨rfl, rfl, rfl, by decide +kernel, rfl, by decide +kernel, by decide +kernel⟩
theorem fo_law {f : Addr} {fd : FuncData} (F : FnP K "law" (top 31) f fd) (b_len : mg "len" = none) (b_max : mg "max" = none) (b_min : mg "min" = none) (b_range : mg "range" = none) (C__law_box : Cal P w K mg base 1 "_law_box" ["great"] (sp__law_box K)) (C__law_cell : Cal P w K mg base 1 "_law_cell" ["script", "k"] (sp__law_cell K)) (C__law_size : Cal P w K mg base 2 "_law_size" ["box"] (sp__law_size K)) (C__law_least : Cal P w K mg base 1 "_law_least" ["size"] (sp__law_least K)) (C__law_heads_right : Cal P w K mg base 5 "_law_heads_right" ["box", "size", "least"] (sp__law_heads_right K)) (C__law_syncs_right : Cal P w K mg base 5 "_law_syncs_right" ["box"] (sp__law_syncs_right K)) : FnOk P w K mg base CX0 6 f fd ["script"] (sp_law K) := by
  obtain ⟨f__law_box, fd__law_box, G__law_box, g__law_box, kp__law_box, bi__law_box⟩ := C__law_box.ex
  obtain ⟨f__law_cell, fd__law_cell, G__law_cell, g__law_cell, kp__law_cell, bi__law_cell⟩ := C__law_cell.ex
  obtain ⟨f__law_size, fd__law_size, G__law_size, g__law_size, kp__law_size, bi__law_size⟩ := C__law_size.ex
  obtain ⟨f__law_least, fd__law_least, G__law_least, g__law_least, kp__law_least, bi__law_least⟩ := C__law_least.ex
  obtain ⟨f__law_heads_right, fd__law_heads_right, G__law_heads_right, g__law_heads_right, kp__law_heads_right, bi__law_heads_right⟩ := C__law_heads_right.ex
  obtain ⟨f__law_syncs_right, fd__law_syncs_right, G__law_syncs_right, g__law_syncs_right, kp__law_syncs_right, bi__law_syncs_right⟩ := C__law_syncs_right.ex
  refine F.ok sc_law (len_law (K := K)) (fun cdv A outer s H vs Q E hr h => ?_)
  have hl : vs.length = 1 := len_law (K := K) vs H Q E h
  match vs, hl, h with
  | [v0], _, h => exact ⟨_, PSs.nox ((pss_cons (ps_for PassesOwn.never rfl (pi_range1 rfl b_range (pa_cons (pe_callB (call_max2 rfl) rfl b_max bt_max (pa_cons pe_int (pa_cons (pe_callB (call_min2 rfl) rfl b_min bt_min (pa_cons pe_int (pa_cons (pe_callB call_len_seq rfl b_len bt_len (pa_cons (L2.pv 0) pa_nil)) pa_nil))) pa_nil))) pa_nil)) (pg_name (i := 1) sc_law.nd rfl (Or.inl rfl)) (pss_cons (ps_set (i := 2) sc_law.nd rfl (Or.inl rfl) (pe_call G__law_box (hr.mono (Nat.le_of_ble_eq_true rfl)) rfl g__law_box kp__law_box bi__law_box .nil pass0 (pa_cons (pe_call G__law_cell (hr.mono (Nat.le_of_ble_eq_true rfl)) rfl g__law_cell kp__law_cell bi__law_cell .nil pass0 (pa_cons (L2.pv 0) (pa_cons (L2.pv 1) pa_nil))) pa_nil))) (pss_cons (ps_set (i := 3) sc_law.nd rfl (Or.inl rfl) (pe_lst (pa_cons (pe_call G__law_size (hr.mono (Nat.le_of_ble_eq_true rfl)) rfl g__law_size kp__law_size bi__law_size .nil pass0 (pa_cons (L2.pv 2) pa_nil)) (pa_cons (pe_call G__law_size (hr.mono (Nat.le_of_ble_eq_true rfl)) rfl g__law_size kp__law_size bi__law_size .nil pass0 (pa_cons (L2.pv 2) pa_nil)) pa_nil)))) (pss_cons (ps_setLc (i := 4) (own := [("size", 6)]) rfl sc_law.nd rfl rfl (sw_true rfl rfl rfl (by decide +kernel)) (pi_list (L2.pv 3)) (blkOk_by (own := [("size", 6)]) (N := ["script", "k", "box", "sizes", "leasts", "at", "size"]) (sc := defScope (top 31)) (by decide +kernel)) (fun _ _ _ _ _ => (pg_name (i := 6) sc_law.nd rfl (Or.inl rfl))) (fun _ _ _ _ _ => pts_nil) (fun _ _ _ _ _ => (pe_call G__law_least (hr.mono (Nat.le_of_ble_eq_true rfl)) rfl g__law_least kp__law_least bi__law_least .nil pass0 (pa_cons (L2.pv 6) pa_nil)))) (pss_one (ps_for PassesOwn.never rfl (pi_list (pe_lst (pa_cons pe_int (pa_cons pe_int (pa_cons pe_int pa_nil))))) (pg_name (i := 5) sc_law.nd rfl (Or.inl rfl)) (pss_one (ps_if (PW.pt (pw_or (pt_not (pt_val (pe_call G__law_heads_right (hr.mono (Nat.le_of_ble_eq_true rfl)) rfl g__law_heads_right kp__law_heads_right bi__law_heads_right .nil pass0 (pa_cons (L2.pv 2) (pa_cons (pe_ix ix_list (L2.pv 3) (L2.pv 5) (fun _ _ => rfl)) (pa_cons (pe_ix ix_list (L2.pv 4) (L2.pv 5) (fun _ _ => rfl)) pa_nil)))))) (pw_or1 (pt_not (pt_val (pe_call G__law_syncs_right (hr.mono (Nat.le_of_ble_eq_true rfl)) rfl g__law_syncs_right kp__law_syncs_right bi__law_syncs_right .nil pass0 (pa_cons (L2.pv 2) pa_nil))))))) (pss_one (ps_ret pe_bl)) pss_nil)))))))) (pss_one (ps_ret pe_bl)))), prom_ok (n := 1) (Ret := (rIm K)) (As := fun i : Scr => [.im (pv K i)]) (m := fun i => m_law i) 6 (fun _ => rfl) rfl (fun script => (show RN (rIm K) _ (fun (s : Unit) => [.im (pv K script), .no, .no, .no, .no, .no, .no]) (m_law script) (fun (s : Unit) => [.no, .no, .no, .no, .no, .no, .no]) from (rn_of (rt_seqC (rc_for (β := Empty) (Γb := fun b _ => nomatch b) (Γr := (fun (s : Unit) => [.no, .no, .no, .no, .no, .no, .no])) (ΓL := fun (t256 : Unit) (s : Unit) => [.im (pv K script), .no, .no, .no, .no, .no, .no]) (Γx := fun (a257 : Int) (t256 : Unit) (s : Unit) => [.im (pv K script), .im (pv K a257), .no, .no, .no, .no, .no]) (im_rng1 fun _ => (ap_cons (ep_cb (ap_cons (ep_int (K := K)) (ap_cons (ep_cb (ap_cons (ep_int (K := K)) (ap_cons (ep_cb (ap_cons (ep_var rfl) ap_nil) c_lenS) ap_nil)) c_min2) ap_nil)) c_max2) ap_nil)) (fun s => (.cons (.rfl _) (.cons (.rfl _) (.cons (.rfl _) (.cons (.rfl _) (.cons (.rfl _) (.cons (.rfl _) (.cons (.rfl _) .nil)))))))) (fun a257 t256 s => (gt_name (Γ := [.im (pv K script), .no, .no, .no, .no, .no, .no]) (i := 1) (Γ' := [.im (pv K script), .im (pv K a257), .no, .no, .no, .no, .no]) rfl rfl)) fun a257 t256 => (rc_open (Γ2 := fun (s : Box) => [.im (pv K script), .im (pv K a257), .ow (boxP s), .no, .no, .no, .no]) (eo_call0M (f := fun (z260 : Int × Unit) => z260.1) (am_cons (em_of_eo (eo_call0 (i := (script, a257)) (ps := [pv K script, pv K a257]) (fun _ => (ap_cons (ep_var rfl) (ap_cons (ep_var rfl) ap_nil))) rfl)) am_nil) fun _ => rfl) rfl (Nat.le_of_ble_eq_true rfl) (fun _ => rfl) (rc_seqP (rp_asg (Γ' := fun sizes268 (s : Box) => [.im (pv K script), .im (pv K a257), .ow (boxP s), .im (pv K sizes268), .no, .no, .no]) (em_lst (f := fun (z267 : (T4 Int Int Int Int) × (T4 Int Int Int Int) × Unit) => ([z267.1, z267.2.1] : (List (T4 Int Int Int Int)))) (hl := fun _ => Nat.le_of_ble_eq_true rfl) (am_cons (em_of_eo (eo_call1i (f := fun (z261 : Unit) => ()) (ak_sl (te := tC .non) (fun _ => rfl) ak_nil) (fun z261 => ⟨rfl, [], rfl⟩) cv_rfl (fun _ => rfl) (fun _ _ => rfl) fun _ _ => rfl)) (am_cons (em_of_eo (eo_call1i (f := fun (z262 : Unit) => ()) (ak_sl (te := tC .non) (fun _ => rfl) ak_nil) (fun z262 => ⟨rfl, [], rfl⟩) cv_rfl (fun _ => rfl) (fun _ _ => rfl) fun _ _ => rfl)) am_nil))) (fun _ => rfl) fun _ _ => rfl) fun sizes268 => (rc_seqP (rp_asg (Γ' := fun leasts270 (s : Box) => [.im (pv K script), .im (pv K a257), .ow (boxP s), .im (pv K sizes268), .im (pv K leasts270), .no, .no]) (em_lc (Γx := fun (a269 : (T4 Int Int Int Int)) (s : Box) => [.im (pv K script), .im (pv K a257), .ow (boxP s), .im (pv K sizes268), .no, .no, .im (pv K a269)]) (js := [6]) (im_list fun _ => (ep_var rfl)) (fun _ => rfl) (fun a269 s => (gt_name (Γ := [.im (pv K script), .im (pv K a257), .ow (boxP s), .im (pv K sizes268), .no, .no, .no]) (i := 6) (Γ' := [.im (pv K script), .im (pv K a257), .ow (boxP s), .im (pv K sizes268), .no, .no, .im (pv K a269)]) rfl rfl)) rfl (fun a269 => tm_yes) (fun a269 => (em_of_eo (eo_call0 (i := a269) (ps := [pv K a269]) (fun _ => (ap_cons (ep_var rfl) ap_nil)) rfl))) fun a269 s => (.cons (.rfl _) (.cons (.rfl _) (.cons (.rfl _) (.cons (.rfl _) (.cons (.rfl _) (.cons (.rfl _) (.cons (.no _) .nil)))))))) (fun _ => rfl) fun _ _ => rfl) fun leasts270 => (rc_lastC (f := fun t286 => ()) (rc_for (β := Empty) (Γb := fun b _ => nomatch b) (Γr := (fun (s : Box) => [.no, .no, .no, .no, .no, .no, .no])) (ΓL := fun (t271 : Unit) (s : Box) => [.im (pv K script), .im (pv K a257), .ow (boxP s), .im (pv K sizes268), .im (pv K leasts270), .no, .no]) (Γx := fun (a272 : Int) (t271 : Unit) (s : Box) => [.im (pv K script), .im (pv K a257), .ow (boxP s), .im (pv K sizes268), .im (pv K leasts270), .im (pv K a272), .no]) (im_list fun _ => (ep_lst (xs := ([(0 : Int), (1 : Int), (0 : Int)] : (List Int))) (hl := Nat.le_of_ble_eq_true rfl) (ap_cons (ep_int (K := K)) (ap_cons (ep_int (K := K)) (ap_cons (ep_int (K := K)) ap_nil))))) (fun s => (.cons (.rfl _) (.cons (.rfl _) (.cons (.rfl _) (.cons (.rfl _) (.cons (.rfl _) (.cons (.rfl _) (.cons (.rfl _) .nil)))))))) (fun a272 t271 s => (gt_name (Γ := [.im (pv K script), .im (pv K a257), .ow (boxP s), .im (pv K sizes268), .im (pv K leasts270), .no, .no]) (i := 5) (Γ' := [.im (pv K script), .im (pv K a257), .ow (boxP s), .im (pv K sizes268), .im (pv K leasts270), .im (pv K a272), .no]) rfl rfl)) fun a272 t271 => (rc_if (tm_or (tm_not (tm_B (em_of_eo (eo_call1i (f := fun (z277 : (T4 Int Int Int Int) × Int × Unit) => (z277.1, z277.2.1)) (ak_sl (te := tC .non) (fun _ => rfl) (ak_m (em_ixLp (fun _ => (ep_var rfl)) fun _ => (ep_var rfl)) (ak_m (em_ixLp (fun _ => (ep_var rfl)) fun _ => (ep_var rfl)) ak_nil))) (fun z277 => ⟨rfl, [pv K z277.1, pv K z277.2.1], rfl⟩) cv_rfl (fun _ => rfl) (fun _ _ => rfl) fun _ _ => rfl)))) (tm_not (tm_B (em_of_eo (eo_call1i (f := fun (z283 : Unit) => ()) (ak_sl (te := tC .non) (fun _ => rfl) ak_nil) (fun z283 => ⟨rfl, [], rfl⟩) cv_rfl (fun _ => rfl) (fun _ _ => rfl) fun _ _ => rfl))))) (rc_of_x (rx_ret (rt_ret (em_pure fun _ => (ep_bl (K := K))) fun s => (.cons (.no _) (.cons (.no _) (.cons (.drop _) (.cons (.no _) (.cons (.no _) (.cons (.no _) (.cons (.rfl _) .nil)))))))))) (rc_of_p (rp_next (x := ()) fun s => (.cons (.rfl _) (.cons (.rfl _) (.cons (.rfl _) (.cons (.rfl _) (.cons (.rfl _) (.cons (.no _) (.cons (.rfl _) .nil))))))))))) fun t286 s => (.cons (.rfl _) (.cons (.no _) (.cons (.drop _) (.cons (.no _) (.cons (.no _) (.cons (.rfl _) (.cons (.rfl _) .nil)))))))))))) fun t287 => (rt_ret (em_pure fun _ => (ep_bl (K := K))) fun s => (.cons (.no _) (.cons (.rfl _) (.cons (.rfl _) (.cons (.rfl _) (.cons (.rfl _) (.cons (.rfl _) (.cons (.rfl _) .nil)))))))))))) h⟩
theorem ok_law {f : Addr} {fd : FuncData} (F : FnP K "law" (top 31) f fd) (hg : mg "law" = some (.ref f)) (b_len : mg "len" = none) (b_max : mg "max" = none) (b_min : mg "min" = none) (b_range : mg "range" = none) (C__law_box : Cal P w K mg base 1 "_law_box" ["great"] (sp__law_box K)) (C__law_cell : Cal P w K mg base 1 "_law_cell" ["script", "k"] (sp__law_cell K)) (C__law_size : Cal P w K mg base 2 "_law_size" ["box"] (sp__law_size K)) (C__law_least : Cal P w K mg base 1 "_law_least" ["size"] (sp__law_least K)) (C__law_heads_right : Cal P w K mg base 5 "_law_heads_right" ["box", "size", "least"] (sp__law_heads_right K)) (C__law_syncs_right : Cal P w K mg base 5 "_law_syncs_right" ["box"] (sp__law_syncs_right K)) : Cal P w K mg base 6 "law" ["script"] (sp_law K) := ⟨f, fd, fo_law F b_len b_max b_min b_range C__law_box C__law_cell C__law_size C__law_least C__law_heads_right C__law_syncs_right, hg, F.kp, F.bindsN fun _ _ _ _ _ _ us hl => match us, hl with | [_], _ => rfl⟩
end
end L34

namespace L34
open PySem L2 Mir
theorem take_ok {many n : Int} {b : Box} (h : Gd n b) (hn : n ≤ 1000000) (h1 : 0 < many) (h2 : many ≤ 1000000) : (m__law_take many b).sat fun x b' => (0 ≤ x ∧ x < many) ∧ Gd (n + 1) b' := by
  obtain ⟨g0, g1, g2, g3, g4⟩ := h
  unfold m__law_take
  simp only [sat_mb, sat_mp, sat_mc, sat_mcs, sat_mg, sat_ms, sat_mi]
  refine ⟨fun _ => ⟨modOk_of h1, divOk_of h1 (by omega), ⟨Int.emod_nonneg _ (by omega), Int.emod_lt_of_pos _ h1⟩, Int.ediv_nonneg g0 (by omega), g1, g2, g3, by show b.count ≤ n + 1; omega⟩, fun _ => ⟨powOk_of (by omega) (by decide) (by decide), powOk_of ?_ (by decide) (by decide), modOk_of h1, ⟨Int.emod_nonneg _ (by omega), Int.emod_lt_of_pos _ h1⟩, g0, g1, g2, by show 0 ≤ b.count + 1; omega, by show b.count + 1 ≤ n + 1; omega⟩⟩
  have a1 := Int.emod_nonneg ((b.mixed + 15485863 * (b.count + 1) + 179424673) ^ Int.toNat 5) (show (2147483647 : Int) ≠ 0 by decide)
  have a2 := Int.emod_lt_of_pos ((b.mixed + 15485863 * (b.count + 1) + 179424673) ^ Int.toNat 5) (show (0 : Int) < 2147483647 by decide)
  generalize (b.mixed + 15485863 * (b.count + 1) + 179424673) ^ Int.toNat 5 % 2147483647 = X at *
  omega
end L34

namespace L34
open PySem L2 Mir
/-! the syncs -/
theorem qdiv {q p r : Int} (hp : 0 < p) : (q * p + r) / p = q + r / p := by
  rw [Int.add_comm, Int.add_mul_ediv_right _ _ (by omega), Int.add_comm]
theorem qdiv1 {q p r : Int} (hp : 0 < p) (h0 : 0 ≤ r) (h1 : r < p) : (q * p + r) / p = q := by
  rw [qdiv hp, Int.ediv_eq_zero_of_lt h0 h1, Int.add_zero]
theorem succ_mul' {q p : Int} : (q + 1) * p = q * p + p := by rw [Int.add_mul, Int.one_mul]
theorem syncs_in {heads pending f : Int} (hp : 0 < pending) (hh : 0 < heads) {Q : Int × Int → Unit → Prop} (hq : Q (f + (heads + pending - 1) / pending, 0) ()) :
    (forP (rng 0 heads.toNat) (f, (0 : Int)) (fun a183 (t182 : Int × Int) =>
    (mb (mp ((t182.2 + (1 : Int)) : Int)) fun waiting184 =>
    (mb (mb (mp (decide (waiting184 = pending) || decide (a183 = (heads - (1 : Int))))) fun b => mi b
    (mb (mp ()) fun z186 => mp ((t182.1 + (1 : Int)), (0 : Int)))
    (mp (t182.1, waiting184))) fun t185 => mp (t185.1, t185.2)))) ()).sat Q := by
  refine sat_forP (Inv := fun xs t _ => (xs = [] ∧ t = (f + (heads + pending - 1) / pending, 0)) ∨ ∃ (k q r : Int) (m : Nat), xs = rng k (m + 1) ∧ k + (m + 1) = heads ∧ k = q * pending + r ∧ 0 ≤ r ∧ r < pending ∧ t = (f + q, r)) ?_ ?_ (.inr ⟨0, 0, 0, heads.toNat - 1, by rw [show heads.toNat - 1 + 1 = heads.toNat by omega], by omega, by omega, by omega, hp, by rw [Int.add_zero]⟩)
  · rintro x xs t _ (⟨h, _⟩ | ⟨k, q, r, m, h1, h2, h3, h4, h5, rfl⟩)
    · cases h
    rw [rng_succ] at h1
    obtain ⟨rfl, rfl⟩ := List.cons.inj h1
    simp only [sat_mb, sat_mp, sat_mi]
    constructor
    · intro hc
      by_cases hm : m = 0
      · subst hm
        refine .inl ⟨rfl, ?_⟩
        have e : heads + pending - 1 = (q + 1) * pending + r := by rw [succ_mul']; omega
        rw [e, qdiv1 hp h4 h5, Int.add_assoc]
      · have hr : r + 1 = pending := by
          rw [Bool.or_eq_true, decide_eq_true_eq, decide_eq_true_eq] at hc
          omega
        obtain ⟨m', rfl⟩ : ∃ m', m = m' + 1 := ⟨m - 1, by omega⟩
        exact .inr ⟨x + 1, q + 1, 0, m', rfl, by omega, by rw [succ_mul']; omega, by omega, hp, by rw [Int.add_assoc]⟩
    · intro hc
      rw [Bool.or_eq_false_iff, decide_eq_false_iff_not, decide_eq_false_iff_not] at hc
      obtain ⟨m', rfl⟩ : ∃ m', m = m' + 1 := ⟨m - 1, by omega⟩
      exact .inr ⟨x + 1, q, r + 1, m', rfl, by omega, by omega, by omega, by omega, rfl⟩
  · rintro t _ (⟨_, rfl⟩ | ⟨k, q, r, m, h1, _⟩)
    · exact hq
    · rw [rng_succ] at h1; cases h1
theorem syncs_ok {heads pending : Int} (hp : 0 < pending) (hh : 0 < heads) (hh2 : heads ≤ 2000) : (m__law_syncs heads pending ()).sat fun x _ => x = 2 * ((heads + pending - 1) / pending) + 2 := by
  unfold m__law_syncs
  have hb : b62 heads = true := b62_of (by omega) (by omega)
  have e2 : rng 0 ((2 : Int).toNat) = [0, 1] := rfl
  simp only [sat_mb, sat_mp, sat_mc, e2, forP]
  refine ⟨rfl, hb, syncs_in hp hh ?_⟩
  simp only [sat_mb, sat_mp, sat_mi, sat_mc]
  refine ⟨fun _ => ⟨hb, syncs_in hp hh ?_⟩, fun h => absurd h (by decide)⟩
  simp only [sat_mb, sat_mp, sat_mi, sat_mc]
  refine ⟨fun h => absurd h (by decide), fun _ => ?_⟩
  omega
theorem whole_ok {v a b : Int} (h1 : a ≤ v) (h2 : v ≤ b) {Q : Bool → Unit → Prop} (q : Q true ()) : (m_is_between v a b ()).sat Q := by
  unfold m_is_between m_is_whole
  simp only [sat_mb, sat_mp, sat_mi, sat_mu]
  refine ⟨fun _ => ?_, fun h => nomatch h⟩
  rw [decide_eq_true h1, decide_eq_true h2]
  exact q
theorem pending_ok {v : Int} (h1 : 1 ≤ v) (h2 : v ≤ 64) {Q : Unit → Unit → Prop} (q : Q () ()) : (m_check_pending v ()).sat Q := by
  unfold m_check_pending
  simp only [sat_mb, sat_mp, sat_mi, sat_mu, sat_mbad]
  refine whole_ok h1 h2 ?_
  exact ⟨fun h => (nomatch h), fun _ => q⟩
theorem symbols_ok {v : Int} (h1 : 1 ≤ v) (h2 : v ≤ 64) {Q : Unit → Unit → Prop} (q : Q () ()) : (m_check_symbols v ()).sat Q := by
  unfold m_check_symbols
  simp only [sat_mb, sat_mp, sat_mi, sat_mu, sat_mbad]
  refine whole_ok h1 h2 ?_
  exact ⟨fun h => (nomatch h), fun _ => q⟩
theorem disks_ok {v : Int} (h1 : 1 ≤ v) (h2 : v ≤ 12) {Q : Unit → Unit → Prop} (q : Q () ()) : (m_check_disks v ()).sat Q := by
  unfold m_check_disks
  simp only [sat_mb, sat_mp, sat_mi, sat_mu, sat_mbad]
  refine whole_ok h1 h2 ?_
  exact ⟨fun h => (nomatch h), fun _ => q⟩
theorem lost_ok {v : Int} (h1 : 0 ≤ v) (h2 : v ≤ 11) {Q : Unit → Unit → Prop} (q : Q () ()) : (m_check_lost v (12 - 1) ()).sat Q := by
  unfold m_check_lost
  simp only [sat_mb, sat_mp, sat_mi, sat_mu, sat_mbad]
  refine whole_ok h1 (by omega) ?_
  exact ⟨fun h => (nomatch h), fun _ => q⟩
theorem syncs_for_ok {heads pending : Int} (h1 : 1 ≤ heads) (h2 : heads ≤ 2000) (h3 : 1 ≤ pending) (h4 : pending ≤ 64) {Q : Int → Unit → Prop} (q : Q (2 * ((heads + pending - 1) / pending) + 2) ()) : (m_syncs_for heads pending ()).sat Q := by
  unfold m_syncs_for
  simp only [sat_mb, sat_mp, sat_mi, sat_mu, sat_mbad, sat_mc]
  refine whole_ok h1 h2 ?_
  exact ⟨fun h => (nomatch h), fun _ => pending_ok h3 h4 ⟨divOk_of (by omega) (by omega), q⟩⟩
/-- the size's parts -/
def Sz (z : T4 Int Int Int Int) : Prop := 1 ≤ z.a ∧ z.a ≤ 12 ∧ 0 ≤ z.b ∧ z.b ≤ 11 ∧ 1 ≤ z.c ∧ z.c ≤ 64 ∧ 1 ≤ z.d ∧ z.d ≤ 64
def Fz (z : T4 Int Int Int Int) : Int := z.c + z.d + z.b * ((z.c + z.d + z.a - 1) / z.a)
theorem cdiv_le {a S : Int} (h : 1 ≤ a) (h1 : 0 ≤ S) : 0 ≤ (S + a - 1) / a ∧ (S + a - 1) / a ≤ S := by
  refine ⟨Int.ediv_nonneg (by omega) (by omega), ?_⟩
  by_cases h0 : S = 0
  · subst h0; rw [Int.ediv_eq_zero_of_lt (by omega) (by omega)]; omega
  · have : (S + a - 1) / a < S + 1 := Int.ediv_lt_of_lt_mul (by omega) (by
      have e : (S + 1) * a = S * a + a := succ_mul'
      have : S * 1 ≤ S * a := Int.mul_le_mul_of_nonneg_left h h1
      omega)
    omega
theorem Fz_le {z : T4 Int Int Int Int} (h : Sz z) : 2 ≤ Fz z ∧ Fz z ≤ 1536 := by
  obtain ⟨h1, h2, h3, h4, h5, h6, h7, h8⟩ := h
  obtain ⟨c1, c2⟩ := cdiv_le (S := z.c + z.d) h1 (by omega)
  have a1 : 0 ≤ z.b * ((z.c + z.d + z.a - 1) / z.a) := Int.mul_nonneg h3 c1
  have a2 : z.b * ((z.c + z.d + z.a - 1) / z.a) ≤ 11 * 128 := Int.mul_le_mul h4 (by omega) c1 (by omega)
  unfold Fz
  omega
theorem heads_for_ok {z : T4 Int Int Int Int} (h : Sz z) {Q : Int → Unit → Prop} (q : Q (Fz z) ()) : (m_heads_for z.a z.b z.c z.d ()).sat Q := by
  obtain ⟨h1, h2, h3, h4, h5, h6, h7, h8⟩ := h
  obtain ⟨c1, c2⟩ := cdiv_le (S := z.c + z.d) h1 (by omega)
  unfold m_heads_for m_spread
  simp only [sat_mb, sat_mu, sat_mp, sat_mc]
  exact disks_ok h1 h2 (lost_ok h3 h4 (symbols_ok h5 h6 (pending_ok h7 h8 ⟨divOk_of (by omega) (by omega), mulOk_of (by omega) (by omega), q⟩)))
end L34

namespace L34
open PySem L2 Mir
/-! drawn sizes -/
theorem take_b {many n : Int} {b : Box} (h : Gd n b) (hn : n ≤ 1000000) (h1 : 0 < many) (h2 : many ≤ 1000000) {Q : Int → Box → Prop} (q : ∀ x b', 0 ≤ x → x < many → Gd (n + 1) b' → Q x b') : (m__law_take many b).sat Q :=
  R.sat_imp (take_ok h hn h1 h2) fun x b' ⟨⟨a1, a2⟩, a3⟩ => q x b' a1 a2 a3
theorem atI4 {a b c d i : Int} {P : Int → Prop} (h0 : 0 ≤ i) (h1 : i < 4) (ha : P a) (hb : P b) (hc : P c) (hd : P d) : ∃ x, atI [a, b, c, d] i = some x ∧ P x := by
  obtain ⟨x, h, m⟩ := atI_some (xs := [a, b, c, d]) h0 h1
  refine ⟨x, h, ?_⟩
  simp only [List.mem_cons, List.not_mem_nil, or_false] at m
  rcases m with rfl | rfl | rfl | rfl <;> assumption
theorem atI6 {a b c d e f i : Int} {P : Int → Prop} (h0 : 0 ≤ i) (h1 : i < 6) (ha : P a) (hb : P b) (hc : P c) (hd : P d) (he : P e) (hf : P f) : ∃ x, atI [a, b, c, d, e, f] i = some x ∧ P x := by
  obtain ⟨x, h, m⟩ := atI_some (xs := [a, b, c, d, e, f]) h0 h1
  refine ⟨x, h, ?_⟩
  simp only [List.mem_cons, List.not_mem_nil, or_false] at m
  rcases m with rfl | rfl | rfl | rfl | rfl | rfl <;> assumption
theorem size_ok {n : Int} {b : Box} (h : Gd n b) (hn : n ≤ 900000) : (m__law_size b).sat fun z b' => Sz z ∧ Gd (n + 20) b' := by
  unfold m__law_size
  simp only [sat_mb, sat_mp, sat_mo]
  refine take_b h (by omega) (by decide) (by decide) fun x1 b1 l1 u1 g1 => ?_
  refine take_b g1 (by omega) (by decide) (by decide) fun x2 b2 l2 u2 g2 => ?_
  refine take_b g2 (by omega) (by decide) (by decide) fun x3 b3 l3 u3 g3 => ?_
  refine take_b g3 (by omega) (by decide) (by decide) fun x4 b4 l4 u4 g4 => ?_
  obtain ⟨need, e1, hneed⟩ := atI4 (P := fun x => 1 ≤ x ∧ x ≤ 12) l4 u4 (a := 1 + x2) (b := 12) (c := 1) (d := 1 + x3) (by omega) (by omega) (by omega) (by omega)
  refine ⟨need, e1, ?_⟩
  refine take_b g4 (by omega) (by decide) (by decide) fun y2 b5 m2 v2 g5 => ?_
  refine take_b g5 (by omega) (by decide) (by decide) fun y3 b6 m3 v3 g6 => ?_
  refine take_b g6 (by omega) (by decide) (by decide) fun y4 b7 m4 v4 g7 => ?_
  obtain ⟨lost, e2, hlost⟩ := atI4 (P := fun x => 0 ≤ x ∧ x ≤ 11) m4 v4 (a := y2) (b := 11) (c := 0) (d := y3) (by omega) (by omega) (by omega) (by omega)
  refine ⟨lost, e2, ?_⟩
  refine take_b g7 (by omega) (by decide) (by decide) fun z2 b8 p2 w2 g8 => ?_
  refine take_b g8 (by omega) (by decide) (by decide) fun z3 b9 p3 w3 g9 => ?_
  refine take_b g9 (by omega) (by decide) (by decide) fun z4 b10 p4 w4 g10 => ?_
  obtain ⟨symbols, e3, hsym⟩ := atI6 (P := fun x => 1 ≤ x ∧ x ≤ 64) l1 u1 (a := 1 + z2) (b := 64) (c := 1) (d := 1 + z3) (e := 1 + z4) (f := 2) (by omega) (by omega) (by omega) (by omega) (by omega) (by omega)
  refine ⟨symbols, e3, ?_⟩
  refine take_b g10 (by omega) (by decide) (by decide) fun t2 b11 r2 s2 g11 => ?_
  refine take_b g11 (by omega) (by decide) (by decide) fun t3 b12 r3 s3 g12 => ?_
  refine take_b g12 (by omega) (by decide) (by decide) fun t4 b13 r4 s4 g13 => ?_
  obtain ⟨pending, e4, hp⟩ := atI6 (P := fun x => 1 ≤ x ∧ x ≤ 64) r4 s4 (a := 1 + t2) (b := 64) (c := 1) (d := 1 + t3) (e := need) (f := 2) (by omega) (by omega) (by omega) (by omega) (by omega) (by omega)
  refine ⟨pending, e4, ⟨hneed.1, hneed.2, hlost.1, hlost.2, hsym.1, hsym.2, hp.1, hp.2⟩, ?_⟩
  obtain ⟨g0, g1, g2, g3, g4⟩ := g13
  exact ⟨g0, g1, g2, g3, by omega⟩
theorem syncs_right_ok {n : Int} {b : Box} (h : Gd n b) (hn : n ≤ 900000) : (m__law_syncs_right b).sat fun z b' => z = true ∧ Gd (n + 20) b' := by
  unfold m__law_syncs_right
  simp only [sat_mb, sat_mp, sat_mo, sat_mi, sat_mu, sat_mc]
  refine take_b h (by omega) (by decide) (by decide) fun x2 b2 l2 u2 g2 => ?_
  refine take_b g2 (by omega) (by decide) (by decide) fun x3 b3 l3 u3 g3 => ?_
  refine take_b g3 (by omega) (by decide) (by decide) fun x4 b4 l4 u4 g4 => ?_
  obtain ⟨pending, e1, hp⟩ := atI4 (P := fun x => 1 ≤ x ∧ x ≤ 64) l4 u4 (a := 1 + x2) (b := 64) (c := 1) (d := 2 + x3) (by omega) (by omega) (by omega) (by omega)
  refine ⟨pending, e1, ?_⟩
  refine take_b g4 (by omega) (by decide) (by decide) fun y2 b5 m2 v2 g5 => ?_
  refine take_b g5 (by omega) (by decide) (by decide) fun y3 b6 m3 v3 g6 => ?_
  refine take_b g6 (by omega) (by decide) (by decide) fun y4 b7 m4 v4 g7 => ?_
  refine ⟨mulOk_of (by omega) (by omega), ?_⟩
  refine take_b g7 (by omega) (by decide) (by decide) fun y5 b8 m5 v5 g8 => ?_
  have q1 : 1 * 1 ≤ pending * (1 + y4) := Int.mul_le_mul hp.1 (by omega) (by omega) (by omega)
  have q2 : pending * (1 + y4) ≤ 64 * 8 := Int.mul_le_mul hp.2 (by omega) (by omega) (by omega)
  obtain ⟨heads, e2, hh⟩ := atI4 (P := fun x => 1 ≤ x ∧ x ≤ 2000) m5 v5 (a := 1 + y2) (b := 2000) (c := 1 + y3) (d := pending * (1 + y4)) (by omega) (by omega) (by omega) (by omega)
  refine ⟨heads, e2, ?_⟩
  refine take_b g8 (by omega) (by decide) (by decide) fun y6 b9 m6 v6 g9 => ?_
  have hH : 1 ≤ (if heads + y6 < 2000 then heads + y6 else 2000) ∧ (if heads + y6 < 2000 then heads + y6 else 2000) ≤ 2000 := by split <;> omega
  generalize (if heads + y6 < 2000 then heads + y6 else 2000) = hd at *
  refine take_b g9 (by omega) (by decide) (by decide) fun y7 b10 m7 v7 g10 => ?_
  have hg : Gd (n + 20) b10 := by
    obtain ⟨g0, g1, g2, g3, g4⟩ := g10
    exact ⟨g0, g1, g2, g3, by omega⟩
  have fin : ∀ t : Int, t = 2 * ((hd + pending - 1) / pending) + 2 → (true = true → (!false) = true → (m__law_syncs hd pending ()).sat fun a _ => decide (t = a) = true ∧ Gd (n + 20) b10) := by
    intro t ht _ _
    refine R.sat_imp (syncs_ok (by omega) (by omega) (by omega)) fun x _ hx => ⟨?_, hg⟩
    subst ht hx
    exact decide_eq_true rfl
  constructor
  · intro _
    refine syncs_for_ok hH.1 hH.2 hp.1 hp.2 ?_
    exact ⟨fun _ => ⟨fun _ => fin _ rfl rfl rfl, fun h => nomatch h⟩, fun h => nomatch h⟩
  · intro _
    refine syncs_for_ok hH.1 hH.2 hp.1 hp.2 ?_
    exact ⟨fun _ => ⟨fun _ => fin _ rfl rfl rfl, fun h => nomatch h⟩, fun h => nomatch h⟩
end L34

namespace L34
open PySem L2 Mir
/-! the least number of heads -/
def rr (n : Nat) (q : Int) (r : Nat) : List Int := List.replicate r (q + 1) ++ List.replicate (n - r) q
theorem rr_len {n : Nat} {q : Int} {r : Nat} (h : r ≤ n) : (rr n q r).length = n := by
  unfold rr
  rw [List.length_append, List.length_replicate, List.length_replicate]
  omega
theorem rr_sum {n : Nat} {q : Int} {r : Nat} (h : r ≤ n) : (rr n q r).sum = n * q + r := by
  unfold rr
  rw [List.sum_append, sum_rep, sum_rep, Int.mul_add, Int.mul_one]
  have : ((n - r : Nat) : Int) = (n : Int) - r := by omega
  rw [this, Int.sub_mul]
  omega
theorem rr_set {n : Nat} {q : Int} {r : Nat} (h : r < n) : (rr n q r).set r (q + 1) = rr n q (r + 1) := by
  unfold rr
  rw [List.set_append_right _ _ (by rw [List.length_replicate]; exact Nat.le_refl _), List.length_replicate, Nat.sub_self]
  obtain ⟨m, hm⟩ : ∃ m, n - r = m + 1 := ⟨n - r - 1, by omega⟩
  rw [hm, List.replicate_succ, List.set_cons_zero, List.replicate_succ', List.append_assoc, show n - (r + 1) = m by omega]
  rfl
theorem rr_full {n : Nat} {q : Int} : rr n q n = rr n (q + 1) 0 := by
  unfold rr
  rw [Nat.sub_self, Nat.sub_zero]
  simp
theorem rr_get {n : Nat} {q : Int} {r : Nat} (h : r < n) : (rr n q r)[r]? = some q := by
  unfold rr
  rw [List.getElem?_append_right (by rw [List.length_replicate]; exact Nat.le_refl _), List.length_replicate, Nat.sub_self]
  obtain ⟨m, hm⟩ : ∃ m, n - r = m + 1 := ⟨n - r - 1, by omega⟩
  rw [hm]
  rfl
theorem rr_srt {n : Nat} {q : Int} {r : Nat} : srt (rr n q r) = List.replicate (n - r) q ++ List.replicate r (q + 1) := by
  refine (srt_eq List.perm_append_comm ?_).symm
  refine List.pairwise_append.mpr ⟨?_, ?_, ?_⟩
  · exact List.pairwise_replicate.mpr (.inr (Int.le_refl _))
  · exact List.pairwise_replicate.mpr (.inr (Int.le_refl _))
  · intro a ha b hb
    rw [List.eq_of_mem_replicate ha, List.eq_of_mem_replicate hb]
    omega
theorem cut_take {xs : List Int} {k : Int} (h0 : 0 ≤ k) : cutL xs none (some k) = xs.take k.toNat := by
  unfold cutL
  have e0 : HT.sIx xs.length 0 none = 0 := rfl
  have e1 : HT.sIx xs.length xs.length (some k) = min k.toNat xs.length := if_neg (by omega)
  rw [e0, List.drop_zero, Nat.sub_zero, e1]
  by_cases c : k.toNat ≤ xs.length
  · rw [Nat.min_eq_left c]
  · rw [Nat.min_eq_right (by omega), List.take_of_length_le (Nat.le_refl _), List.take_of_length_le (by omega)]
/-- the sum of the least -/
theorem rr_cut {n : Nat} {q k : Int} {r : Nat} (h : r ≤ n) (h0 : 0 ≤ k) (h1 : k ≤ n) : (cutL (srt (rr n q r)) none (some k)).sum = k * q + (if k ≤ (n : Int) - r then 0 else k - (n - r)) := by
  rw [cut_take h0, rr_srt, List.take_append, List.take_replicate, List.take_replicate, List.sum_append, sum_rep, sum_rep, List.length_replicate]
  by_cases c : k ≤ (n : Int) - r
  · rw [if_pos c, show min k.toNat (n - r) = k.toNat by omega, show min (k.toNat - (n - r)) r = 0 by omega, Int.toNat_of_nonneg h0]
    omega
  · rw [if_neg c, show min k.toNat (n - r) = n - r by omega, show min (k.toNat - (n - r)) r = k.toNat - (n - r) by omega]
    have e1 : ((k.toNat - (n - r) : Nat) : Int) = k - (n - r : Nat) := by omega
    rw [e1, Int.mul_add, Int.mul_one, Int.sub_mul]
    have e2 : ((n - r : Nat) : Int) = (n : Int) - r := by omega
    rw [e2]
    omega
theorem keyF {need lost q r S c : Int} (h1 : 1 ≤ need) (h2 : 0 ≤ lost) (hr : 0 ≤ r) (hr2 : r < need + lost) (hc : c = (S + need - 1) / need) :
    ((S ≤ need * q + (if r ≤ lost then 0 else r - lost)) → need * q + lost * q + r ≤ S + lost * c → need * q + lost * q + r = S + lost * c) ∧ (¬ (S ≤ need * q + (if r ≤ lost then 0 else r - lost)) → need * q + lost * q + r < S + lost * c) := by
  have d1 := Int.mul_ediv_add_emod (S + need - 1) need
  have d2 := Int.emod_nonneg (S + need - 1) (show need ≠ 0 by omega)
  have d3 := Int.emod_lt_of_pos (S + need - 1) (show 0 < need by omega)
  rw [← hc] at d1
  have m1 : c ≤ q → lost * c ≤ lost * q ∧ need * c ≤ need * q := fun h => ⟨Int.mul_le_mul_of_nonneg_left h h2, Int.mul_le_mul_of_nonneg_left h (by omega)⟩
  have m2 : q + 1 ≤ c → lost * q + lost ≤ lost * c ∧ need * q + need ≤ need * c := fun h => by
    have a := Int.mul_le_mul_of_nonneg_left h h2
    have b := Int.mul_le_mul_of_nonneg_left h (show 0 ≤ need by omega)
    rw [Int.mul_add, Int.mul_one] at a b
    exact ⟨a, b⟩
  have m3 : q + 2 ≤ c → need * q + 2 * need ≤ need * c := fun h => by
    have b := Int.mul_le_mul_of_nonneg_left h (show 0 ≤ need by omega)
    rw [Int.mul_add] at b
    omega
  have m4 : c = q + 1 → lost * c = lost * q + lost := fun h => by rw [h, Int.mul_add, Int.mul_one]
  constructor
  · intro hS hF
    by_cases hq : c ≤ q
    · have := m1 hq; omega
    · have := m2 (by omega)
      by_cases h3 : q + 2 ≤ c
      · have := m3 h3
        split at hS <;> omega
      · have := m4 (by omega)
        split at hS <;> omega
  · intro hS
    by_cases hq : c ≤ q
    · have := m1 hq
      split at hS <;> omega
    · have := m2 (by omega)
      split at hS <;> omega
theorem rep1 {n : Nat} : (List.replicate n [(0 : Int)]).flatten = List.replicate n 0 := by
  induction n with
  | zero => rfl
  | succ n ih => rw [List.replicate_succ, List.flatten_cons, ih]; rfl
theorem least_ok {z : T4 Int Int Int Int} (h : Sz z) : (m__law_least z ()).sat fun x _ => x = Fz z := by
  have hF := Fz_le h
  obtain ⟨h1, h2, h3, h4, h5, h6, h7, h8⟩ := h
  unfold m__law_least
  simp only [sat_mb, sat_mp, sat_mc]
  obtain ⟨N, hN⟩ : ∃ N : Nat, z.a + z.b = N := ⟨(z.a + z.b).toNat, by omega⟩
  have hNp : 0 < N := by omega
  rw [hN]
  refine ⟨decide_eq_true ⟨by omega, by omega, by show 1 * (N : Int).toNat ≤ 16000000; omega⟩, rfl, ?_⟩
  have e0 : repL [(0 : Int)] (N : Int) = rr N 0 0 := by
    unfold repL rr
    rw [Int.toNat_natCast, rep1]
    rfl
  rw [e0]
  refine R.sat_imp (sat_forC (Inv := fun xs t _ => ∃ (q : Int) (r m : Nat), xs = rng (N * q + r) m ∧ r < N ∧ t = rr N q r ∧ N * q + r ≤ Fz z ∧ Fz z < N * q + r + m) (Q := fun c _ => c = .rt (Fz z)) ?_ ?_ ⟨0, 0, 3000, by first | (simp; done) | (simp; rfl), hNp, rfl, by first | (simp; done) | (simp; omega), by first | (simp; done) | (simp; omega)⟩) ?_
  · rintro x xs t _ ⟨q, r, m, g1, g2, rfl, g4, g5⟩
    cases m with
    | zero => cases g1
    | succ m =>
      rw [rng_succ] at g1
      obtain ⟨rfl, rfl⟩ := List.cons.inj g1
      have key := keyF (need := z.a) (lost := z.b) (q := q) (r := r) (S := z.c + z.d) h1 h3 (by omega) (by omega) rfl
      have eN : (N : Int) * q + r = z.a * q + z.b * q + r := by rw [← hN, Int.add_mul]
      have eC : (cutL (srt (rr N q r)) none (some z.a)).sum = z.a * q + (if (r : Int) ≤ z.b then 0 else r - z.b) := by
        rw [rr_cut (by omega) (by omega) (by omega)]
        by_cases c : (r : Int) ≤ z.b
        · rw [if_pos c, if_pos (by omega)]
        · rw [if_neg c, if_neg (by omega)]; omega
      have hFz : Fz z = z.c + z.d + z.b * ((z.c + z.d + z.a - 1) / z.a) := rfl
      simp only [sat_mb, sat_mp, sat_mc, sat_mi, sat_mo, sat_mu]
      rw [eC]
      constructor
      · intro hc
        have hc := of_decide_eq_true hc
        rw [rr_sum (by omega)]
        have := key.1 hc (by omega)
        rw [eN, this, hFz]
      · intro hc
        have hc := of_decide_eq_false hc
        have lt := key.2 hc
        have hm : ((N : Int) * q + r) % N = r := by
          rw [Int.add_comm, Int.add_mul_emod_self_left]
          exact Int.emod_eq_of_lt (by omega) (by omega)
        rw [hm]
        refine ⟨modOk_of (by omega), q, ?_, modOk_of (by omega), rr N q (r + 1), ?_, ?_⟩
        · rw [atI_get' (by omega) (by rw [rr_len (by omega)]; omega), Int.toNat_natCast]
          exact rr_get g2
        · unfold ixN
          rw [if_pos (by omega), if_pos (by rw [rr_len (by omega)]; omega), Option.map_some, Int.toNat_natCast, rr_set g2]
        · show ∃ (q' : Int) (r' m' : Nat), _
          by_cases hr : r + 1 < N
          · exact ⟨q, r + 1, m, by congr 1; omega, hr, rfl, by omega, by omega⟩
          · have er : r + 1 = N := by omega
            have eq1 : (N : Int) * (q + 1) = N * q + N := by rw [Int.mul_add, Int.mul_one]
            refine ⟨q + 1, 0, m, by congr 1; omega, hNp, ?_, by omega, by omega⟩
            rw [er, rr_full]
  · rintro t _ ⟨q, r, m, g1, g2, g3, g4, g5⟩
    cases m with
    | zero => omega
    | succ m => rw [rng_succ] at g1; cases g1
  · rintro c _ rfl
    exact rfl
end L34

namespace L34
open PySem L2 Mir
theorem rng_shift {a : Int} {n : Nat} : rng a n = (rng 0 n).map fun x => x + a := by
  unfold rng
  rw [List.map_map]
  apply List.map_congr_left
  intro i _
  simp only [Function.comp]
  omega
theorem cnt_mul {g : Int → Bool} {N : Nat} (hN : 0 < N) : ∀ c : Nat, (rng 0 (N * c)).countP (fun a => g (a % N)) = c * (rng 0 N).countP g
  | 0 => by rw [Nat.mul_zero, Nat.zero_mul]; rfl
  | c + 1 => by
    rw [Nat.mul_succ, rng_add, List.countP_append, cnt_mul hN c, rng_shift (a := 0 + ((N * c : Nat) : Int)), List.countP_map, Nat.succ_mul]
    congr 1
    apply List.countP_congr
    intro x hx
    have hx := mem_rng.mp hx
    have e : (x + (0 + ((N * c : Nat) : Int))) % (N : Int) = x := by
      rw [Int.zero_add, Int.natCast_mul, Int.add_mul_emod_self_left]
      exact Int.emod_eq_of_lt hx.1 (by omega)
    simp only [Function.comp, e]
theorem cnt_or {p q r : Int → Bool} (h : ∀ x, p x = true → q x = true ∨ r x = true) : ∀ xs : List Int, xs.countP p ≤ xs.countP q + xs.countP r
  | [] => Nat.le_refl _
  | x :: xs => by
    have ih := cnt_or h xs
    rw [List.countP_cons, List.countP_cons, List.countP_cons]
    have := h x
    cases e1 : p x <;> cases e2 : q x <;> cases e3 : r x <;> simp [e1, e2, e3] at this ⊢ <;> omega
theorem cnt_one {y : Int} : ∀ {xs : List Int}, xs.Pairwise (· < ·) → xs.countP (fun x => decide (x = y)) ≤ 1
  | [], _ => Nat.zero_le _
  | x :: xs, h => by
    obtain ⟨h1, h2⟩ := List.pairwise_cons.mp h
    rw [List.countP_cons]
    by_cases e : x = y
    · have : xs.countP (fun x => decide (x = y)) = 0 := List.countP_eq_zero.mpr fun a ha => by
        have := h1 a ha
        simp
        omega
      rw [this]
      simp [e]
    · have := cnt_one (y := y) h2
      simp [e]
      exact this
theorem mem_erase {x : Int} : ∀ {xs : List Int} {k : Nat}, k < xs.length → x ∈ xs → x ∈ xs.eraseIdx k ∨ some x = xs[k]?
  | [], _, h, _ => by simp at h
  | y :: ys, 0, _, hx => by
    rcases List.mem_cons.mp hx with rfl | h
    · exact .inr rfl
    · exact .inl h
  | y :: ys, k + 1, h, hx => by
    rcases List.mem_cons.mp hx with rfl | h'
    · exact .inl (List.mem_cons_self ..)
    · rcases mem_erase (k := k) (by simpa using h) h' with q | q
      · exact .inl (List.mem_cons_of_mem _ q)
      · exact .inr q
theorem cnt_erase {xs : List Int} {k N : Nat} (hk : k < xs.length) : (rng 0 N).countP (fun x => !decide (x ∈ xs.eraseIdx k)) ≤ (rng 0 N).countP (fun x => !decide (x ∈ xs)) + 1 := by
  refine Nat.le_trans (cnt_or (q := fun x => !decide (x ∈ xs)) (r := fun x => decide (x = xs[k])) (fun x h => ?_) _) (Nat.add_le_add_left (cnt_one rng_pw) _)
  by_cases m : x ∈ xs
  · rcases mem_erase hk m with q | q
    · simp [q] at h
    · rw [List.getElem?_eq_getElem hk] at q
      exact .inr (decide_eq_true (Option.some.inj q))
  · exact .inl (by simp [m])
/-- enough of the heads hold -/
theorem there_len {z : T4 Int Int Int Int} (h : Sz z) {N : Nat} (hN : z.a + z.b = N) {left : List Int} (hl : ((rng 0 N).countP (fun x => !decide (x ∈ left)) : Int) ≤ z.b) :
    z.c + z.d ≤ (((rng 0 (Fz z).toNat).filter fun a : Int => decide (a % (N : Int) ∈ left)).length : Int) := by
  have hF := Fz_le h
  obtain ⟨h1, h2, h3, h4, h5, h6, h7, h8⟩ := h
  obtain ⟨c1, c2⟩ := cdiv_le (S := z.c + z.d) h1 (by omega)
  have d1 := Int.mul_ediv_add_emod (z.c + z.d + z.a - 1) z.a
  have d3 := Int.emod_lt_of_pos (z.c + z.d + z.a - 1) (show 0 < z.a by omega)
  have hFz : Fz z = z.c + z.d + z.b * ((z.c + z.d + z.a - 1) / z.a) := rfl
  obtain ⟨c, hc⟩ : ∃ c : Nat, (z.c + z.d + z.a - 1) / z.a = c := ⟨((z.c + z.d + z.a - 1) / z.a).toNat, by omega⟩
  rw [hc] at hFz d1
  have eNc : (N : Int) * c = z.a * c + z.b * c := by rw [← hN, Int.add_mul]
  have hle : (Fz z).toNat ≤ N * c := by
    have : ((N * c : Nat) : Int) = N * c := by simp
    omega
  obtain ⟨m, hm⟩ := Nat.exists_eq_add_of_le hle
  have hcnt := cnt_mul (g := fun x => !decide (x ∈ left)) (N := N) (by omega) c
  rw [hm, rng_add, List.countP_append] at hcnt
  have hlen := List.length_eq_countP_add_countP (fun a : Int => decide (a % (N : Int) ∈ left)) (l := rng 0 (Fz z).toNat)
  rw [rng_len] at hlen
  have e2 : (rng 0 (Fz z).toNat).countP (fun a : Int => decide ¬ (decide (a % (N : Int) ∈ left)) = true) = (rng 0 (Fz z).toNat).countP (fun a : Int => !decide (a % (N : Int) ∈ left)) := by
    apply List.countP_congr
    intro x _
    simp
  rw [e2] at hlen
  rw [← List.countP_eq_length_filter]
  have b1 : ((c * (rng 0 N).countP (fun x => !decide (x ∈ left)) : Nat) : Int) ≤ z.b * c := by
    rw [Int.natCast_mul, Int.mul_comm z.b]
    exact Int.mul_le_mul_of_nonneg_left hl (by omega)
  omega
theorem inc_get {xs : List Int} (h : xs.Pairwise (· < ·)) {i : Nat} : ∀ (d : Nat) (hj : i + d < xs.length), xs[i]'(by omega) + d ≤ xs[i + d]
  | 0, hj => by simp
  | d + 1, hj => by
    have ih := inc_get (i := i) h d (by omega)
    have := List.pairwise_iff_getElem.mp h (i + d) (i + (d + 1)) (by omega) hj (by omega)
    omega
theorem pops_ok {z : T4 Int Int Int Int} (h : Sz z) {N : Nat} (hN : z.a + z.b = N) {n : Int} {b : Box} (hb : Gd n b) (hn : n ≤ 990000) : (forP (rng 0 z.b.toNat) (rng 0 N) (fun a157 (t156 : (List Int)) =>
    (mb (mb (m__law_take (((t156.length : Nat) : Int) : Int)) fun i160 => mo (popAt t156 i160)) fun left159 => mp left159)) b).sat fun left b' => ((rng 0 N).countP (fun x => !decide (x ∈ left)) : Int) ≤ z.b ∧ Gd (n + 11) b' := by
  obtain ⟨h1, h2, h3, h4, h5, h6, h7, h8⟩ := h
  refine sat_forP (Inv := fun xs left s => xs.length ≤ z.b ∧ (left.length : Int) = N - (z.b - xs.length) ∧ ((rng 0 N).countP (fun x => !decide (x ∈ left)) : Int) ≤ z.b - xs.length ∧ Gd (n + (z.b - xs.length)) s) ?_ ?_ ⟨by rw [rng_len]; omega, by rw [rng_len, rng_len]; omega, ?_, ?_⟩
  · rintro x xs left s ⟨g1, g2, g3, g4⟩
    rw [List.length_cons] at g1 g2 g3 g4
    simp only [sat_mb, sat_mp, sat_mo]
    refine take_b g4 (by omega) (by omega) (by omega) fun i s' l u g => ?_
    have hk : i.toNat < left.length := by omega
    refine ⟨left.eraseIdx i.toNat, ?_, by omega, ?_, ?_, ?_⟩
    · unfold popAt ixN
      rw [if_pos (decide_eq_true ⟨by omega, by omega⟩), if_pos l, if_pos (by omega)]
      rfl
    · rw [List.length_eraseIdx, if_pos hk]; omega
    · have := cnt_erase (N := N) hk
      omega
    · rw [show n + (z.b - xs.length) = n + (z.b - ((xs.length + 1 : Nat) : Int)) + 1 by omega]
      exact g
  · rintro left s ⟨g1, g2, g3, g4⟩
    simp only [List.length_nil] at g1 g2 g3 g4
    refine ⟨by omega, ?_⟩
    obtain ⟨q0, q1, q2, q3, q4⟩ := g4
    exact ⟨q0, q1, q2, q3, by omega⟩
  · have : (rng 0 N).countP (fun x => !decide (x ∈ rng 0 N)) = 0 := List.countP_eq_zero.mpr fun a ha => by simp [ha]
    rw [this, rng_len]
    omega
  · rw [rng_len, show n + (z.b - (z.b.toNat : Int)) = n by omega]
    exact hb
end L34

namespace L34
open PySem L2 Mir
theorem _root_.Mir.Gd.mono {n m : Int} {b : Box} (h : Gd n b) (l : n ≤ m) : Gd m b := ⟨h.1, h.2.1, h.2.2.1, h.2.2.2.1, Int.le_trans h.2.2.2.2 l⟩
theorem turn_ok {z : T4 Int Int Int Int} (h : Sz z) {n : Int} {b : Box} (hb : Gd n b) (hn : n ≤ 900000) {Q : Bool → Box → Prop} (q : ∀ b', Gd (n + 40) b' → Q true b') : (m__law_heads_right z (Fz z) b).sat Q := by
  have hF := Fz_le h
  have h' := h
  obtain ⟨h1, h2, h3, h4, h5, h6, h7, h8⟩ := h'
  unfold m__law_heads_right
  simp only [sat_mb, sat_mp, sat_mi, sat_mu, sat_mc]
  obtain ⟨N, hN⟩ : ∃ N : Nat, z.a + z.b = N := ⟨(z.a + z.b).toNat, by omega⟩
  rw [hN]
  refine take_b hb (by omega) (by decide) (by decide) fun x1 b1 l1 u1 g1 => ?_
  have main : (((!true) || (false || (!decide (Fz z = Fz z)))) = true → Q false b1) ∧ (((!true) || (false || (!decide (Fz z = Fz z)))) = false → b62 3 = true ∧ (forC (β := Empty) (rng 0 (3 : Int).toNat) () (fun a149 (t148 : Unit) =>
    (mb (mb (mc (rgOk 0 (N : Int)) (rng 0 (N : Int).toNat)) fun x154 => mb (mb (m__law_take ((Fz z + (1 : Int)) : Int)) fun x152 => mb (mp ()) fun z153 => mp (x152, z153)) fun z155 => mp (x154, z155)) fun z151 =>
    (mb (mb (mc (b62 z.b) (rng 0 z.b.toNat)) fun xs => forP xs z151.1 fun a157 (t156 : (List Int)) =>
    (mb (mb (m__law_take (((t156.length : Nat) : Int) : Int)) fun i160 => mo (popAt t156 i160)) fun left159 => mp left159)) fun t161 =>
    (mb (mb (mc (b62 (Fz z)) (rng 0 (Fz z).toNat)) fun xs => cmP xs (fun (a162 : Int) => (mu (mb (mc (modOk (N : Int)) (a162 % (N : Int))) fun x163 => mp (decide (x163 ∈ t161))))) fun a162 => (mp a162)) fun there165 =>
    (mb (mb (mp (decide ((z.c + z.d) ≤ ((there165.length : Nat) : Int)))) fun b168 => mi b168 (mb (mo (atI there165 ((z.c + z.d) - (1 : Int)))) fun x => mp (some x)) (mp ((none : (Option Int)) : (Option Int)))) fun looked169 =>
    (mb (mb (mp looked169.isNone) fun b177 => mi b177 (mp true) (mb (mb (mo looked169) fun x170 => mp (decide (x170 < (z151.2.1 + z.d)))) fun b176 => mi b176 (mb (mo (atI there165 (z.c - (1 : Int)))) fun x174 => mp (decide (z151.2.1 ≤ x174))) (mp false))) fun b => mi b
      (mb (mp false) fun x => mp (.rt x))
      (mp (.nx ()))))))) ) b1).sat fun c s => (ctk (fun t178 => (mp true)) (fun _ => mbad) c s).sat Q) := by
    rw [decide_eq_true (rfl : Fz z = Fz z)]
    constructor
    · intro h
      cases h
    intro _
    constructor
    · exact b62_of (by omega) (by omega)
    have hx : (rng 0 (3 : Int).toNat).length = 3 := by rw [rng_len]; rfl
    generalize rng 0 (3 : Int).toNat = xs3 at hx ⊢
    refine sat_forC (Q := fun c s => (ctk (fun t178 => (mp true)) (fun _ => mbad) c s).sat Q) (Inv := fun xs _ s => xs.length ≤ 3 ∧ Gd (n + 1 + 12 * (3 - xs.length)) s) ?_ ?_ ⟨by omega, g1.mono (by omega)⟩
    · intro x xs _ s hI
      have g2 : (x :: xs).length ≤ 3 := hI.1
      have g3 : Gd (n + 1 + 12 * (3 - ((x :: xs).length : Int))) s := hI.2
      rw [List.length_cons] at g2 g3
      simp only [sat_mb, sat_mp, sat_mi, sat_mc, sat_mo]
      refine ⟨decide_eq_true ⟨by omega, by omega, by omega, by omega, by omega⟩, ?_⟩
      refine take_b g3 (by omega) (by omega) (by omega) fun at_ s1 l2 u2 g4 => ?_
      refine ⟨b62_of (by omega) (by omega), ?_⟩
      rw [Int.toNat_natCast]
      refine R.sat_imp (pops_ok h hN g4 (by omega)) fun left s2 ⟨g5, g6⟩ => ?_
      refine ⟨b62_of (by omega) (by omega), ?_⟩
      refine sat_cmP (p := fun a : Int => decide (a % (N : Int) ∈ left)) (g := fun a => a) (by rw [rng_len]; omega) (fun x _ => ?_) (fun x _ _ => ⟨rfl, rfl⟩) ?_
      · simp only [sat_mu, sat_mb, sat_mc, sat_mp]
        exact ⟨modOk_of (by omega), by simp⟩
      rw [List.map_id']
      have hlen := there_len h hN g5
      have hpw : ((rng 0 (Fz z).toNat).filter fun a : Int => decide (a % (N : Int) ∈ left)).Pairwise (· < ·) := rng_pw.filter _
      generalize ((rng 0 (Fz z).toNat).filter fun a : Int => decide (a % (N : Int) ∈ left)) = there at *
      have i1 : (z.c - 1).toNat + z.d.toNat < there.length := by omega
      have i0 : (z.c - 1).toNat < there.length := by omega
      have e1 : atI there (z.c + z.d - 1) = some there[(z.c - 1).toNat + z.d.toNat] := by
        rw [atI_get' (by omega) (by omega), show (z.c + z.d - 1).toNat = (z.c - 1).toNat + z.d.toNat by omega]
        exact List.getElem?_eq_getElem i1
      have e2 : atI there (z.c - 1) = some there[(z.c - 1).toNat] := by
        rw [atI_get' (by omega) (by omega)]
        exact List.getElem?_eq_getElem i0
      have inc := inc_get hpw (i := (z.c - 1).toNat) z.d.toNat i1
      rw [e1, e2]
      have hend : Gd (n + 1 + 12 * (3 - (xs.length : Int))) s2 := by
        obtain ⟨q0, q1, q2, q3, q4⟩ := g6
        exact ⟨q0, q1, q2, q3, by omega⟩
      refine ⟨fun _ => ⟨_, rfl, fun h => (nomatch h), fun _ => ⟨_, rfl, fun c1 => ⟨_, rfl, fun c2 => ?_, fun _ => ⟨by omega, hend⟩⟩, fun _ => ⟨fun h => (nomatch h), fun _ => ⟨by omega, hend⟩⟩⟩⟩, fun c => absurd (decide_eq_true hlen) (by rw [c]; decide)⟩
      have c1 := of_decide_eq_true c1
      have c2 := of_decide_eq_true c2
      omega
    · intro _ s hI
      have g3 : Gd (n + 1 + 12 * (3 - (([] : List Int).length : Int))) s := hI.2
      refine q s ?_
      obtain ⟨q0, q1, q2, q3, q4⟩ := g3
      rw [List.length_nil] at q4
      exact ⟨q0, q1, q2, q3, by omega⟩
  exact ⟨fun _ => heads_for_ok h main, fun _ => heads_for_ok h main⟩
end L34

namespace L34
open PySem L2 Mir
theorem box_ok (great : Int) {Q : Box → Unit → Prop} (q : ∀ b, Gd 0 b → Q b ()) : (m__law_box great ()).sat Q := by
  unfold m__law_box
  refine sat_mp.mpr (q _ ⟨?_, ?_, ?_, ?_, ?_⟩)
  · show 0 ≤ (if great < 0 then -great else great)
    split <;> omega
  · show 0 ≤ (if great < 0 then -great else great) % 2147483629
    omega
  · show (if great < 0 then -great else great) % 2147483629 < 2147483648
    omega
  · exact Int.le_refl _
  · exact Int.le_refl _
theorem law_ok (ns : List Int) (hl : ns.length ≤ 63) : (m_law ⟨ns⟩ ()).sat fun b _ => b = true := by
  unfold m_law
  simp only [sat_mb, sat_mp, sat_mc]
  generalize hk : (if (if ((ns.length : Nat) : Int) < (3 : Int) then ((ns.length : Nat) : Int) else (3 : Int)) > (1 : Int) then (if ((ns.length : Nat) : Int) < (3 : Int) then ((ns.length : Nat) : Int) else (3 : Int)) else (1 : Int)) = k
  have hk1 : 1 ≤ k ∧ k ≤ 3 ∧ (k ≤ ns.length ∨ k = 1) := by
    subst hk
    by_cases c : ((ns.length : Nat) : Int) < 3
    · rw [if_pos c]
      by_cases d : ((ns.length : Nat) : Int) > 1
      · rw [if_pos d]; omega
      · rw [if_neg d]; omega
    · rw [if_neg c, if_pos (by decide)]; omega
  refine ⟨b62_of (by omega) (by omega), ?_⟩
  refine sat_forC (Q := fun c s => (ctk (fun t287 => (mp true)) (fun _ => mbad) c s).sat fun b _ => b = true) (Inv := fun xs _ _ => ∀ x ∈ xs, 0 ≤ x) ?_ (fun _ _ _ => rfl) (fun x hx => (mem_rng.mp hx).1)
  intro x xs _ _ hI
  have hx0 := hI x (List.mem_cons_self ..)
  simp only [sat_mb, sat_mp, sat_mc, sat_mu, sat_mrun]
  have cell : ∀ Q : Int → Unit → Prop, (∀ c, Q c ()) → (m__law_cell ⟨ns⟩ x ()).sat Q := by
    intro Q q
    unfold m__law_cell
    simp only [sat_mb, sat_mp, sat_mi, sat_mo]
    refine ⟨fun c => ?_, fun _ => q _⟩
    obtain ⟨y, e, _⟩ := atI_some hx0 (of_decide_eq_true c)
    exact ⟨y, e, q y⟩
  refine cell _ fun c => box_ok c fun b hb => ?_
  refine sat_mrun.mpr ?_
  simp only [sat_mb, sat_mp]
  refine R.sat_imp (size_ok hb (by decide)) fun z1 b1 ⟨s1, g1⟩ => ?_
  refine R.sat_imp (size_ok g1 (by decide)) fun z2 b2 ⟨s2, g2⟩ => ?_
  have hz : ∀ z ∈ [z1, z2], Sz z := by
    intro z hz
    rcases List.mem_cons.mp hz with rfl | h
    · exact s1
    · rcases List.mem_cons.mp h with rfl | h
      · exact s2
      · cases h
  refine sat_cmP (p := fun _ => true) (g := Fz) (Nat.le_of_ble_eq_true rfl) (fun x _ => by simp [sat_mp]) (fun z h _ => ?_) ?_
  · refine sat_mu.mpr (R.sat_imp (least_ok (hz z h)) fun x _ hx => ⟨hx, rfl⟩)
  show ((forC [0, 1, 0] () _) b2).sat _
  refine sat_forC (Inv := fun xs _ s => (∀ x ∈ xs, x = 0 ∨ x = 1) ∧ xs.length ≤ 3 ∧ Gd (40 + 60 * (3 - (xs.length : Int))) s) ?_ ?_ ⟨by simp, Nat.le_of_ble_eq_true rfl, g2.mono (by simp)⟩
  · intro a as _ s hI2
    have h1 : a = 0 ∨ a = 1 := hI2.1 a (List.mem_cons_self ..)
    have h2 : (a :: as).length ≤ 3 := hI2.2.1
    have h3 : Gd (40 + 60 * (3 - ((a :: as).length : Int))) s := hI2.2.2
    rw [List.length_cons] at h2 h3
    simp only [sat_mb, sat_mp, sat_mi, sat_mo]
    have key : ∃ z, Sz z ∧ atI [z1, z2] a = some z ∧ atI (List.map Fz (List.filter (fun _ => true) [z1, z2])) a = some (Fz z) := by
      rcases h1 with rfl | rfl
      · exact ⟨z1, s1, rfl, rfl⟩
      · exact ⟨z2, s2, rfl, rfl⟩
    obtain ⟨z, hz, e1, e2⟩ := key
    refine ⟨z, e1, Fz z, e2, turn_ok hz h3 (by omega) fun b3 g3 => ?_⟩
    refine ⟨fun h => (nomatch h), fun _ => ?_⟩
    refine R.sat_imp (syncs_right_ok g3 (by omega)) fun y b4 ⟨hy, g4⟩ => ?_
    subst hy
    exact ⟨fun h => (nomatch h), fun _ => ⟨fun x hx => hI2.1 x (List.mem_cons_of_mem _ hx), by omega, g4.mono (by omega)⟩⟩
  · intro _ s hI2
    exact fun y hy => hI y (List.mem_cons_of_mem _ hy)
end L34

namespace L34
open PySem PySem.Spec PyProof.Rows L2 Mir
def dD (x : Str) (i : Nat) : He.DefD := ⟨(x, none), x, x, defArgs (top i), defBody (top i), defScope (top i), [], []⟩
abbrev RWL := PySem.Challenge.rw_sparesum_k34_price_of_a_sync
def fn : List He.DefD := [dD "is_whole" 8, dD "is_between" 9, dD "spread" 12, dD "check_disks" 16, dD "check_lost" 17, dD "check_symbols" 18, dD "check_pending" 19, dD "heads_for" 20, dD "syncs_for" 21, dD "_law_cell" 23, dD "_law_box" 24, dD "_law_take" 25, dD "_law_size" 26, dD "_law_least" 27, dD "_law_heads_right" 28, dD "_law_syncs" 29, dD "_law_syncs_right" 30, dD "law" 31]
def fa : List He.Fa := [.glo "is_whole", .glo "is_between", .glo "spread", .glo "check_disks", .glo "check_lost", .glo "check_symbols", .glo "check_pending", .glo "heads_for", .glo "syncs_for", .glo "_law_cell", .glo "_law_box", .glo "_law_take", .glo "_law_size", .glo "_law_least", .glo "_law_heads_right", .glo "_law_syncs", .glo "_law_syncs_right", .glo "law", .free "bool", .free "int", .free "isinstance", .free "len", .free "sum", .free "abs", .free "range", .free "sorted", .free "list", .free "min", .free "max", .int "MOST_DISKS" 12, .int "MOST_AT_ONCE" 64, .int "MOST_HEADS" 2000]
def names : List Str := ["SumError", "InvalidSymbols", "InvalidDisks", "InvalidLost", "InvalidHeads", "InvalidPending", "is_whole", "is_between", "MOST_DISKS", "spread", "MOST_HEADS", "MOST_AT_ONCE", "check_disks", "check_lost", "check_symbols", "check_pending", "heads_for", "syncs_for", "_law_cell", "_law_box", "_law_take", "_law_size", "_law_least", "_law_heads_right", "_law_syncs", "_law_syncs_right"]
abbrev R : PySem.W.OpenRow := PySem.W.OpenLaw.row RWL
abbrev hk : PySem.W.Hook := He.hookD 4 fa fn
def ob (s : PySem.W.SharedT) : He.AlD := He.obsDG 4 fa fn (HandSHeadRun.getT s)
theorem ob_eq (s : PySem.W.SharedT) : ob s = hk.obs s.abs := He.obsDG_eq (HandSHeadRun.getT_eq s)
set_option maxHeartbeats 0 in
theorem run (w : World) : HandSHeadRun.RunEq R (PySem.W.view R.prog [31]) hk ob 3000 names w := by
  intro os
  kernel_rfl
theorem facts {P : Program} {w : World} {K : PySem.W.Frag} {h : Heap} {mg : Str → Option Value} {f : Addr} (X : K.In h) (G : h.Ns mainGlobals mg) (hfa : mg ("law" : Str) = some (.ref f)) (c : He.SaysD fa fn K) :
    ∃ fd : FuncData, (∀ (s : Shared) (v : Value), BindsTo s fd ⟨[v], []⟩ [("script", v)]) ∧ ∀ base : Heap, K.In base → base.Ns mainGlobals mg → FnOk P w K mg base CX0 6 f fd ["script"] (sp_law K) := by
  obtain ⟨fd_is_whole, F_is_whole⟩ := c.def_ 0 (d := dD "is_whole" 8) rfl
  have g_is_whole := He.glo_ok X G (c.fact 0 (f := .glo "is_whole") rfl)
  obtain ⟨fd_is_between, F_is_between⟩ := c.def_ 1 (d := dD "is_between" 9) rfl
  have g_is_between := He.glo_ok X G (c.fact 1 (f := .glo "is_between") rfl)
  obtain ⟨fd_spread, F_spread⟩ := c.def_ 2 (d := dD "spread" 12) rfl
  have g_spread := He.glo_ok X G (c.fact 2 (f := .glo "spread") rfl)
  obtain ⟨fd_check_disks, F_check_disks⟩ := c.def_ 3 (d := dD "check_disks" 16) rfl
  have g_check_disks := He.glo_ok X G (c.fact 3 (f := .glo "check_disks") rfl)
  obtain ⟨fd_check_lost, F_check_lost⟩ := c.def_ 4 (d := dD "check_lost" 17) rfl
  have g_check_lost := He.glo_ok X G (c.fact 4 (f := .glo "check_lost") rfl)
  obtain ⟨fd_check_symbols, F_check_symbols⟩ := c.def_ 5 (d := dD "check_symbols" 18) rfl
  have g_check_symbols := He.glo_ok X G (c.fact 5 (f := .glo "check_symbols") rfl)
  obtain ⟨fd_check_pending, F_check_pending⟩ := c.def_ 6 (d := dD "check_pending" 19) rfl
  have g_check_pending := He.glo_ok X G (c.fact 6 (f := .glo "check_pending") rfl)
  obtain ⟨fd_heads_for, F_heads_for⟩ := c.def_ 7 (d := dD "heads_for" 20) rfl
  have g_heads_for := He.glo_ok X G (c.fact 7 (f := .glo "heads_for") rfl)
  obtain ⟨fd_syncs_for, F_syncs_for⟩ := c.def_ 8 (d := dD "syncs_for" 21) rfl
  have g_syncs_for := He.glo_ok X G (c.fact 8 (f := .glo "syncs_for") rfl)
  obtain ⟨fd__law_cell, F__law_cell⟩ := c.def_ 9 (d := dD "_law_cell" 23) rfl
  have g__law_cell := He.glo_ok X G (c.fact 9 (f := .glo "_law_cell") rfl)
  obtain ⟨fd__law_box, F__law_box⟩ := c.def_ 10 (d := dD "_law_box" 24) rfl
  have g__law_box := He.glo_ok X G (c.fact 10 (f := .glo "_law_box") rfl)
  obtain ⟨fd__law_take, F__law_take⟩ := c.def_ 11 (d := dD "_law_take" 25) rfl
  have g__law_take := He.glo_ok X G (c.fact 11 (f := .glo "_law_take") rfl)
  obtain ⟨fd__law_size, F__law_size⟩ := c.def_ 12 (d := dD "_law_size" 26) rfl
  have g__law_size := He.glo_ok X G (c.fact 12 (f := .glo "_law_size") rfl)
  obtain ⟨fd__law_least, F__law_least⟩ := c.def_ 13 (d := dD "_law_least" 27) rfl
  have g__law_least := He.glo_ok X G (c.fact 13 (f := .glo "_law_least") rfl)
  obtain ⟨fd__law_heads_right, F__law_heads_right⟩ := c.def_ 14 (d := dD "_law_heads_right" 28) rfl
  have g__law_heads_right := He.glo_ok X G (c.fact 14 (f := .glo "_law_heads_right") rfl)
  obtain ⟨fd__law_syncs, F__law_syncs⟩ := c.def_ 15 (d := dD "_law_syncs" 29) rfl
  have g__law_syncs := He.glo_ok X G (c.fact 15 (f := .glo "_law_syncs") rfl)
  obtain ⟨fd__law_syncs_right, F__law_syncs_right⟩ := c.def_ 16 (d := dD "_law_syncs_right" 30) rfl
  have g__law_syncs_right := He.glo_ok X G (c.fact 16 (f := .glo "_law_syncs_right") rfl)
  obtain ⟨fd_law, F_law⟩ := c.def_ 17 (d := dD "law" 31) rfl
  have g_law := He.glo_ok X G (c.fact 17 (f := .glo "law") rfl)
  have b_bool := He.free_ok X G (c.fact 18 (f := .free "bool") rfl)
  have b_int := He.free_ok X G (c.fact 19 (f := .free "int") rfl)
  have b_isinstance := He.free_ok X G (c.fact 20 (f := .free "isinstance") rfl)
  have b_len := He.free_ok X G (c.fact 21 (f := .free "len") rfl)
  have b_sum := He.free_ok X G (c.fact 22 (f := .free "sum") rfl)
  have b_abs := He.free_ok X G (c.fact 23 (f := .free "abs") rfl)
  have b_range := He.free_ok X G (c.fact 24 (f := .free "range") rfl)
  have b_sorted := He.free_ok X G (c.fact 25 (f := .free "sorted") rfl)
  have b_list := He.free_ok X G (c.fact 26 (f := .free "list") rfl)
  have b_min := He.free_ok X G (c.fact 27 (f := .free "min") rfl)
  have b_max := He.free_ok X G (c.fact 28 (f := .free "max") rfl)
  have c_MOST_DISKS := He.int_ok X G (c.fact 29 (f := .int "MOST_DISKS" 12) rfl)
  have c_MOST_AT_ONCE := He.int_ok X G (c.fact 30 (f := .int "MOST_AT_ONCE" 64) rfl)
  have c_MOST_HEADS := He.int_ok X G (c.fact 31 (f := .int "MOST_HEADS" 2000) rfl)
  have e := hfa.symm.trans g_law
  cases e
  have b := FunD.bindsA (ps := ["script"]) F_law fun _ _ _ _ _ _ us hl => match us, hl with | [_], _ => rfl
  refine ⟨fd_law, fun s v => b s [v] rfl, fun base _ _ => ?_⟩
  have C_is_whole := ok_is_whole (P := P) (w := w) (base := base) F_is_whole g_is_whole b_bool b_int b_isinstance
  have C_is_between := ok_is_between (P := P) (w := w) (base := base) F_is_between g_is_between C_is_whole
  have C_spread := ok_spread (P := P) (w := w) (base := base) F_spread g_spread
  have C_check_disks := ok_check_disks (P := P) (w := w) (base := base) F_check_disks g_check_disks c_MOST_DISKS C_is_between
  have C_check_lost := ok_check_lost (P := P) (w := w) (base := base) F_check_lost g_check_lost C_is_between
  have C_check_symbols := ok_check_symbols (P := P) (w := w) (base := base) F_check_symbols g_check_symbols c_MOST_AT_ONCE C_is_between
  have C_check_pending := ok_check_pending (P := P) (w := w) (base := base) F_check_pending g_check_pending c_MOST_AT_ONCE C_is_between
  have C_heads_for := ok_heads_for (P := P) (w := w) (base := base) F_heads_for g_heads_for c_MOST_DISKS C_check_disks C_check_lost C_check_symbols C_check_pending C_spread
  have D_heads_for__pending_lost_symbols_need := okK_heads_for__pending_lost_symbols_need (P := P) (w := w) (base := base) F_heads_for g_heads_for c_MOST_DISKS C_check_disks C_check_lost C_check_symbols C_check_pending C_spread
  have C_syncs_for := ok_syncs_for (P := P) (w := w) (base := base) F_syncs_for g_syncs_for c_MOST_HEADS C_is_between C_check_pending
  have D_syncs_for__pending_heads := okK_syncs_for__pending_heads (P := P) (w := w) (base := base) F_syncs_for g_syncs_for c_MOST_HEADS C_is_between C_check_pending
  have C__law_cell := ok__law_cell (P := P) (w := w) (base := base) F__law_cell g__law_cell b_int b_len b_sum
  have C__law_box := ok__law_box (P := P) (w := w) (base := base) F__law_box g__law_box b_abs b_int
  have C__law_take := ok__law_take (P := P) (w := w) (base := base) F__law_take g__law_take b_int
  have C__law_size := ok__law_size (P := P) (w := w) (base := base) F__law_size g__law_size C__law_take
  have C__law_least := ok__law_least (P := P) (w := w) (base := base) F__law_least g__law_least b_int b_range b_sorted b_sum
  have C__law_heads_right := ok__law_heads_right (P := P) (w := w) (base := base) F__law_heads_right g__law_heads_right b_bool b_int b_isinstance b_len b_list b_range C__law_take C_heads_for D_heads_for__pending_lost_symbols_need
  have C__law_syncs := ok__law_syncs (P := P) (w := w) (base := base) F__law_syncs g__law_syncs b_range
  have C__law_syncs_right := ok__law_syncs_right (P := P) (w := w) (base := base) F__law_syncs_right g__law_syncs_right b_bool b_int b_isinstance b_min C__law_take C_syncs_for D_syncs_for__pending_heads C__law_syncs
  exact fo_law F_law b_len b_max b_min b_range C__law_box C__law_cell C__law_size C__law_least C__law_heads_right C__law_syncs_right
theorem ov_emp (H : Hp) : ov emp H = H := rfl
theorem sp_law_ok {K : PySem.W.Frag} (H : Hp) (a : Addr) (ns : List Int) (hl : ns.length ≤ 63) (hS : SqL K H a (ns.map V.int)) : sp_law K [.ref a] H (fun v _ => v = .bl true) fun _ _ _ => False :=
  ⟨⟨ns⟩, (), H, emp, emp, rfl, fun _ => .inl rfl, .im ⟨a, rfl, hS⟩ .nil, R.sat_imp (law_ok ns hl) fun b s' hb v H' I' N' _ _ hr => by
    have h : v = V.bl b := hr.2.2
    rw [h, hb]⟩
end L34
open PySem PySem.W PySem.Calls PyProof.Rows
theorem PySem.Challenge.cw_sparesum_k34_price_of_a_sync_holds : PySem.Challenge.rw_sparesum_k34_price_of_a_sync.Holds := by
  w_on; o_law
  refine HandSHeadRun.head_any (r := OpenLaw.row PySem.Challenge.rw_sparesum_k34_price_of_a_sync) (q := view (OpenLaw.row PySem.Challenge.rw_sparesum_k34_price_of_a_sync).prog [31]) (H := L34.hk) (ob := L34.ob) (M := 3000) (loose := L34.names) (d := HandSHeadRun.topDef (OpenLaw.row PySem.Challenge.rw_sparesum_k34_price_of_a_sync).prog 31) (kwd := []) L34.ob_eq
    (by kernel_rfl) (fun s => by kernel_rfl) L34.run (by kernel_rfl) (by kernel_rfl) (by kernel_rfl) (by rfl) (by first | assumption | decide +kernel) (by decide +kernel) ⟨rfl, rfl, rfl, rfl, rfl, by decide +kernel⟩ ?hw ?hc
  case hw => w_witness2
  case hc =>
    refine L2.walk_ofE (l := PySem.Challenge.rw_sparesum_k34_price_of_a_sync) (n := 63) (k := 6) (x := "script") (CX := L2.CX0) rfl (by decide) (by kernel_rfl) ⟨rfl, by decide, by decide⟩ ?F (fun _ _ _ _ z => z)
    intro w mg fa h Y G hmg0
    obtain ⟨K, KX, c⟩ := Y
    have hmg : mg ("law" : PySem.Str) = some (.ref fa) := by
      have e : (HandSHeadRun.topDef (OpenLaw.row PySem.Challenge.rw_sparesum_k34_price_of_a_sync).prog 31).name = ("law" : PySem.Str) := by kernel_rfl
      rw [← e]
      exact hmg0
    obtain ⟨fd, hb, hF⟩ := L34.facts (P := (PySem.Challenge.rw_sparesum_k34_price_of_a_sync).prog) (w := w) KX G hmg c
    exact ⟨K, fd, L34.sp_law K, KX, hb, fun H a ns hl _ hS => L34.sp_law_ok H a ns hl hS, hF⟩
