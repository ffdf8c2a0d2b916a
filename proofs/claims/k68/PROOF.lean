import PyProof.Rows.All
import Wide.All
import OpenK.AllK
import Wide.FinOn
import KE.KStateDown
import HandS.ForMost
import HandS.Walk
import HandS.Conv
import HandS.Wide
import HandS.IsInst
import HandS.Style
import HandS.SortInts
import HandS.Rev
import HandS.Base
import HandS.Call
import HandS.Ends
import HandS.More
import HandS.Words
import HandS.WordsExc
import HandS.Defaults
import HandS.Head0
import HandS.Head1
import HandS.Head2
import HandS.HeadEnd
import HandS.HeadHook1
import HandS.HeadHook2
import HandS.RaiseMore
import HandS.HeadEnd
import HandS.Defaults
import PyProof.ReprRoads
import HandS.TryOnly
import HandS.Flt
import PySem.Challenge.RW_sparesum_k68_whole_met
set_option Elab.async false
set_option linter.all false
set_option maxRecDepth 100000
set_option maxHeartbeats 400000
/-! Mir1: the heap in two parts, persistent and owned; slots; the monad of mirrors -/
namespace Mir
open PySem L2

/-! ### heaps -/
def Ex (H H' : Hp) : Prop := ∀ a o, H a = some o → H' a = some o
theorem Ex.refl (H : Hp) : Ex H H := fun _ _ h => h
theorem Ex.trans {H H1 H2 : Hp} (a : Ex H H1) (b : Ex H1 H2) : Ex H H2 := fun x o h => b x o (a x o h)
def ov (M I : Hp) : Hp := fun a => match M a with
  | some o => some o
  | none => I a
def Dis (M I : Hp) : Prop := ∀ a, M a = none ∨ I a = none
def emp : Hp := fun _ => none
def sing (a : Addr) (o : HO) : Hp := upd emp a o
theorem ov_l {M I : Hp} {a : Addr} {o : HO} (h : M a = some o) : ov M I a = some o := by
  unfold ov; rw [h]
theorem ov_r {M I : Hp} {a : Addr} (h : M a = none) : ov M I a = I a := by
  unfold ov; rw [h]
theorem ov_none {M I : Hp} {a : Addr} (h : ov M I a = none) : M a = none ∧ I a = none := by
  cases e : M a with
  | none => rw [ov_r e] at h; exact ⟨rfl, h⟩
  | some o => rw [ov_l e] at h; cases h
theorem ov_none' {M I : Hp} {a : Addr} (h1 : M a = none) (h2 : I a = none) : ov M I a = none := by rw [ov_r h1, h2]
theorem Dis.symm {M I : Hp} (d : Dis M I) : Dis I M := fun a => (d a).symm
theorem Dis.some_l {M I : Hp} {a : Addr} {o : HO} (d : Dis M I) (h : M a = some o) : I a = none := by
  rcases d a with q | q
  · rw [q] at h; cases h
  · exact q
theorem Dis.some_r {M I : Hp} {a : Addr} {o : HO} (d : Dis M I) (h : I a = some o) : M a = none := d.symm.some_l h
theorem ex_ov {M I : Hp} (d : Dis M I) : Ex I (ov M I) := fun a o h => by rw [ov_r (d.some_r h)]; exact h
theorem ex_ovl {M I : Hp} : Ex M (ov M I) := fun a o h => ov_l h
theorem ov_comm {M I : Hp} (d : Dis M I) : ov M I = ov I M := by
  funext a
  cases e : M a with
  | some o => rw [ov_l e, ov_r (d.some_l e), e]
  | none =>
    rw [ov_r e]
    cases e2 : I a with
    | some o => rw [ov_l e2]
    | none => rw [ov_r e2, e]
theorem ov_assoc {A B C : Hp} : ov A (ov B C) = ov (ov A B) C := by
  funext a
  unfold ov
  cases A a <;> rfl
theorem dis_ov_l {A B C : Hp} (h : Dis (ov A B) C) : Dis A C ∧ Dis B C := by
  refine ⟨fun a => ?_, fun a => ?_⟩
  · rcases h a with q | q
    · exact .inl (ov_none q).1
    · exact .inr q
  · rcases h a with q | q
    · exact .inl (ov_none q).2
    · exact .inr q
theorem dis_ov {A B C : Hp} (h1 : Dis A C) (h2 : Dis B C) : Dis (ov A B) C := fun a => by
  rcases h1 a with q | q
  · rcases h2 a with r | r
    · exact .inl (ov_none' q r)
    · exact .inr r
  · exact .inr q
theorem dis_ov_r {A B C : Hp} (h1 : Dis A B) (h2 : Dis A C) : Dis A (ov B C) := (dis_ov h1.symm h2.symm).symm
theorem dis_r_ov {A B C : Hp} (h : Dis A (ov B C)) : Dis A B ∧ Dis A C := ⟨(dis_ov_l h.symm).1.symm, (dis_ov_l h.symm).2.symm⟩
theorem Ex.new {H : Hp} {p : Addr} {o : HO} (h : H p = none) : Ex H (upd H p o) := fun a u e => by
  rw [upd_ne (ne_of_none e h)]; exact e
theorem ov_upd {M I : Hp} {p : Addr} {o : HO} (h : M p = none) : upd (ov M I) p o = ov M (upd I p o) := by
  funext a
  by_cases e : a = p
  · subst e; rw [upd_same, ov_r h, upd_same]
  · rw [upd_ne e]
    cases q : M a with
    | some o => rw [ov_l q, ov_l q]
    | none => rw [ov_r q, ov_r q, upd_ne e]
theorem dis_upd {M I : Hp} {p : Addr} {o : HO} (d : Dis M I) (h : M p = none) : Dis M (upd I p o) := fun a => by
  by_cases e : a = p
  · subst e; exact .inl h
  · rw [upd_ne e]; exact d a
theorem sing_same {a : Addr} {o : HO} : sing a o a = some o := upd_same
theorem sing_ne {a b : Addr} {o : HO} (h : b ≠ a) : sing a o b = none := upd_ne h
theorem upd_sing {M I : Hp} {p : Addr} {o : HO} : upd (ov M I) p o = ov (sing p o) (ov M I) := by
  funext a
  by_cases e : a = p
  · subst e; rw [upd_same, ov_l sing_same]
  · rw [upd_ne e, ov_r (sing_ne e)]
theorem ov_sing {I : Hp} {p : Addr} {o : HO} : ov (sing p o) I = upd I p o := by
  funext a
  by_cases e : a = p
  · subst e; rw [upd_same, ov_l sing_same]
  · rw [upd_ne e, ov_r (sing_ne e)]
theorem dis_sing {I : Hp} {p : Addr} {o : HO} (h : I p = none) : Dis (sing p o) I := fun a => by
  by_cases e : a = p
  · subst e; exact .inr h
  · exact .inl (sing_ne e)
/-- an owned object changes -/
theorem upd_own {p : Addr} {o o' : HO} {M I : Hp} : upd (ov (ov (sing p o) M) I) p o' = ov (ov (sing p o') M) I := by
  funext a
  by_cases e : a = p
  · subst e; rw [upd_same]; exact (ov_l (ov_l sing_same)).symm
  · rw [upd_ne e]
    unfold ov
    rw [sing_ne e, sing_ne e]

/-! ### what is known of values, of owned parts -/
structure PV where
  r : Hp → V → Prop
  up : ∀ {H H' : Hp} {v : V}, Ex H H' → r H v → r H' v
structure OP where
  r : Hp → Addr → Hp → Prop
  up : ∀ {H H' : Hp} {a : Addr} {M : Hp}, Ex H H' → r H a M → r H' a M
/-- a Lean type as Python values -/
class Rp (α : Type) where
  r : PySem.W.Frag → α → Hp → V → Prop
  up : ∀ {K : PySem.W.Frag} {x : α} {H H' : Hp} {v : V}, Ex H H' → r K x H v → r K x H' v
/-- values that no heap is asked for -/
class Sc (α : Type) [Rp α] where
  s : α → V
  eq : ∀ {K : PySem.W.Frag} {x : α} {H : Hp} {v : V}, Rp.r K x H v ↔ v = s x
def pv (K : PySem.W.Frag) {α : Type} [Rp α] (x : α) : PV := ⟨Rp.r K x, Rp.up⟩
instance rpInt : Rp Int := ⟨fun _ x _ v => v = V.int x, fun _ h => h⟩
instance scInt : Sc Int := ⟨V.int, Iff.rfl⟩
instance rpBool : Rp Bool := ⟨fun _ x _ v => v = V.bl x, fun _ h => h⟩
instance scBool : Sc Bool := ⟨V.bl, Iff.rfl⟩
instance rpUnit : Rp Unit := ⟨fun _ _ _ v => v = V.non, fun _ h => h⟩
instance scUnit : Sc Unit := ⟨fun _ => V.non, Iff.rfl⟩
instance rpStr : Rp Str := ⟨fun _ x _ v => v = V.str x, fun _ h => h⟩
instance scStr : Sc Str := ⟨V.str, Iff.rfl⟩
inductive All2 {α β : Type} (F : α → β → Prop) : List α → List β → Prop where
  | nil : All2 F [] []
  | cons {a : α} {b : β} {as : List α} {bs : List β} : F a b → All2 F as bs → All2 F (a :: as) (b :: bs)
section
variable {α β : Type} {F G : α → β → Prop}
theorem All2.imp (f : ∀ a b, F a b → G a b) : ∀ {as : List α} {bs : List β}, All2 F as bs → All2 G as bs
  | _, _, .nil => .nil
  | _, _, .cons h t => .cons (f _ _ h) (All2.imp f t)
theorem All2.length : ∀ {as : List α} {bs : List β}, All2 F as bs → as.length = bs.length
  | _, _, .nil => rfl
  | _, _, .cons _ t => congrArg Nat.succ (All2.length t)
theorem All2.get : ∀ {as : List α} {bs : List β}, All2 F as bs → ∀ {i : Nat} {a : α}, as[i]? = some a → ∃ b, bs[i]? = some b ∧ F a b
  | _, _, .nil, i, a, h => by simp at h
  | _, _, .cons h t, 0, a, e => by
    cases (Option.some.inj e)
    exact ⟨_, rfl, h⟩
  | _, _, .cons h t, i + 1, a, e => by
    obtain ⟨b, h1, h2⟩ := All2.get t (i := i) (by simpa using e)
    exact ⟨b, by simpa using h1, h2⟩
theorem All2.get' : ∀ {as : List α} {bs : List β}, All2 F as bs → ∀ {i : Nat} {b : β}, bs[i]? = some b → ∃ a, as[i]? = some a ∧ F a b
  | _, _, .nil, i, a, h => by simp at h
  | _, _, .cons h t, 0, a, e => by
    cases (Option.some.inj e)
    exact ⟨_, rfl, h⟩
  | _, _, .cons h t, i + 1, a, e => by
    obtain ⟨b, h1, h2⟩ := All2.get' t (i := i) (by simpa using e)
    exact ⟨b, by simpa using h1, h2⟩
theorem All2.append : ∀ {as cs : List α} {bs ds : List β}, All2 F as bs → All2 F cs ds → All2 F (as ++ cs) (bs ++ ds)
  | _, _, _, _, .nil, s => s
  | _, _, _, _, .cons h t, s => .cons h (All2.append t s)
theorem All2.set {a : α} {b : β} (h : F a b) : ∀ {as : List α} {bs : List β} (i : Nat), All2 F as bs → All2 F (as.set i a) (bs.set i b)
  | _, _, _, .nil => .nil
  | _, _, 0, .cons _ t => .cons h t
  | _, _, i + 1, .cons q t => .cons q (All2.set h i t)
theorem All2.take : ∀ {as : List α} {bs : List β} (n : Nat), All2 F as bs → All2 F (as.take n) (bs.take n)
  | _, _, 0, _ => .nil
  | _, _, _ + 1, .nil => .nil
  | _, _, n + 1, .cons h t => .cons h (All2.take n t)
theorem All2.drop : ∀ {as : List α} {bs : List β} (n : Nat), All2 F as bs → All2 F (as.drop n) (bs.drop n)
  | _, _, 0, s => s
  | _, _, _ + 1, .nil => .nil
  | _, _, n + 1, .cons _ t => All2.drop n t
theorem All2.reverse : ∀ {as : List α} {bs : List β}, All2 F as bs → All2 F as.reverse bs.reverse
  | _, _, .nil => .nil
  | _, _, .cons h t => by
    rw [List.reverse_cons, List.reverse_cons]
    exact (All2.reverse t).append (.cons h .nil)
theorem All2.eraseIdx : ∀ {as : List α} {bs : List β} (i : Nat), All2 F as bs → All2 F (as.eraseIdx i) (bs.eraseIdx i)
  | _, _, _, .nil => .nil
  | _, _, 0, .cons _ t => t
  | _, _, i + 1, .cons q t => .cons q (All2.eraseIdx i t)
theorem All2.dropLast {as : List α} {bs : List β} (h : All2 F as bs) : All2 F as.dropLast bs.dropLast := by
  rw [List.dropLast_eq_take, List.dropLast_eq_take, ← h.length]
  exact h.take _
theorem All2.replicate {a : α} {b : β} (h : F a b) : ∀ n : Nat, All2 F (List.replicate n a) (List.replicate n b)
  | 0 => .nil
  | n + 1 => .cons h (All2.replicate h n)
theorem All2.map_r {g : α → β} (h : ∀ a, F a (g a)) : ∀ as : List α, All2 F as (as.map g)
  | [] => .nil
  | a :: as => .cons (h a) (All2.map_r h as)
theorem All2.eq_map {g : α → β} (h : ∀ a b, F a b → b = g a) : ∀ {as : List α} {bs : List β}, All2 F as bs → bs = as.map g
  | _, _, .nil => rfl
  | _, _, .cons q t => by rw [h _ _ q, All2.eq_map h t]; rfl
end
theorem rd_up {H H' : Hp} {a : Addr} {u : HO} (e : Ex H H') (h : Rd H a u) : Rd H' a u := by
  rcases h with h | ⟨o, h⟩
  · exact .inl (e a _ h)
  · exact .inr ⟨o, e a _ h⟩
theorem sql_up {K : PySem.W.Frag} {H H' : Hp} {a : Addr} {xs : List V} (e : Ex H H') (h : SqL K H a xs) : SqL K H' a xs := by
  rcases h with h | h
  · exact .inl (rd_up e h)
  · exact .inr h
theorem sqt_up {K : PySem.W.Frag} {H H' : Hp} {a : Addr} {xs : List V} (e : Ex H H') (h : SqT K H a xs) : SqT K H' a xs := by
  rcases h with h | h
  · exact .inl (rd_up e h)
  · exact .inr h
/-- a list of them -/
abbrev Rs (K : PySem.W.Frag) {α : Type} [Rp α] (xs : List α) (H : Hp) (vs : List V) : Prop := All2 (fun x v => Rp.r K x H v) xs vs
theorem rs_up {K : PySem.W.Frag} {α : Type} [Rp α] {xs : List α} {H H' : Hp} {vs : List V} (e : Ex H H') (h : Rs K xs H vs) : Rs K xs H' vs := h.imp fun _ _ q => Rp.up e q
theorem rs_sc {K : PySem.W.Frag} {α : Type} [Rp α] [Sc α] {xs : List α} {H : Hp} {vs : List V} (h : Rs K xs H vs) : vs = xs.map Sc.s := h.eq_map fun _ _ q => Sc.eq.mp q
theorem rs_int {K : PySem.W.Frag} {xs : List Int} {H : Hp} {vs : List V} (h : Rs K xs H vs) : vs = xs.map V.int := rs_sc h
theorem rs_of_int {K : PySem.W.Frag} {xs : List Int} {H : Hp} : Rs K xs H (xs.map V.int) := All2.map_r (F := fun x v => v = V.int x) (g := V.int) (fun _ => rfl) xs
instance rpList {α : Type} [Rp α] : Rp (List α) := ⟨fun K xs H v => ∃ a vs, v = V.ref a ∧ H a = some (.lst vs) ∧ Rs K xs H vs, fun e ⟨a, vs, h1, h2, h3⟩ => ⟨a, vs, h1, e _ _ h2, rs_up e h3⟩⟩
/-- the script -/
structure Scr where
  l : List Int
instance rpScr : Rp Scr := ⟨fun K x H v => ∃ a, v = V.ref a ∧ SqL K H a (x.l.map V.int), fun e ⟨a, h1, h2⟩ => ⟨a, h1, sql_up e h2⟩⟩
/-- a tuple of items of one type -/
structure Tu (α : Type) where
  l : List α
  deriving DecidableEq
instance rpTu {α : Type} [Rp α] : Rp (Tu α) := ⟨fun K xs H v => ∃ a vs, v = V.ref a ∧ SqT K H a vs ∧ Rs K xs.l H vs, fun e ⟨a, vs, h1, h2, h3⟩ => ⟨a, vs, h1, sqt_up e h2, rs_up e h3⟩⟩
/-- tuples of two to five parts -/
instance rpProd {α β : Type} [Rp α] [Rp β] : Rp (α × β) := ⟨fun K x H v => ∃ a v1 v2, v = V.ref a ∧ SqT K H a [v1, v2] ∧ Rp.r K x.1 H v1 ∧ Rp.r K x.2 H v2, fun e ⟨a, v1, v2, h1, h2, h3, h4⟩ => ⟨a, v1, v2, h1, sqt_up e h2, Rp.up e h3, Rp.up e h4⟩⟩
structure T3 (α β γ : Type) where
  a : α
  b : β
  c : γ
  deriving DecidableEq
structure T4 (α β γ δ : Type) where
  a : α
  b : β
  c : γ
  d : δ
  deriving DecidableEq
structure T5 (α β γ δ ε : Type) where
  a : α
  b : β
  c : γ
  d : δ
  e : ε
  deriving DecidableEq
instance rpT3 {α β γ : Type} [Rp α] [Rp β] [Rp γ] : Rp (T3 α β γ) := ⟨fun K x H v => ∃ p v1 v2 v3, v = V.ref p ∧ SqT K H p [v1, v2, v3] ∧ Rp.r K x.a H v1 ∧ Rp.r K x.b H v2 ∧ Rp.r K x.c H v3,
  fun e ⟨p, v1, v2, v3, h1, h2, h3, h4, h5⟩ => ⟨p, v1, v2, v3, h1, sqt_up e h2, Rp.up e h3, Rp.up e h4, Rp.up e h5⟩⟩
instance rpT4 {α β γ δ : Type} [Rp α] [Rp β] [Rp γ] [Rp δ] : Rp (T4 α β γ δ) := ⟨fun K x H v => ∃ p v1 v2 v3 v4, v = V.ref p ∧ SqT K H p [v1, v2, v3, v4] ∧ Rp.r K x.a H v1 ∧ Rp.r K x.b H v2 ∧ Rp.r K x.c H v3 ∧ Rp.r K x.d H v4,
  fun e ⟨p, v1, v2, v3, v4, h1, h2, h3, h4, h5, h6⟩ => ⟨p, v1, v2, v3, v4, h1, sqt_up e h2, Rp.up e h3, Rp.up e h4, Rp.up e h5, Rp.up e h6⟩⟩
instance rpT5 {α β γ δ ε : Type} [Rp α] [Rp β] [Rp γ] [Rp δ] [Rp ε] : Rp (T5 α β γ δ ε) := ⟨fun K x H v => ∃ p v1 v2 v3 v4 v5, v = V.ref p ∧ SqT K H p [v1, v2, v3, v4, v5] ∧ Rp.r K x.a H v1 ∧ Rp.r K x.b H v2 ∧ Rp.r K x.c H v3 ∧ Rp.r K x.d H v4 ∧ Rp.r K x.e H v5,
  fun e ⟨p, v1, v2, v3, v4, v5, h1, h2, h3, h4, h5, h6, h7⟩ => ⟨p, v1, v2, v3, v4, v5, h1, sqt_up e h2, Rp.up e h3, Rp.up e h4, Rp.up e h5, Rp.up e h6, Rp.up e h7⟩⟩
/-- None, or a value -/
instance rpOpt {α : Type} [Rp α] : Rp (Option α) := ⟨fun K x H v => match x with
  | none => v = V.non
  | some y => Rp.r K y H v ∧ v ≠ V.non, fun {K x H H' v} e h => by
    cases x with
    | none => exact h
    | some y => exact ⟨Rp.up e h.1, h.2⟩⟩

/-! ### owned parts -/
/-- a list whose items are written values -/
def hl (vs : List V) : OP := ⟨fun _ a M => M = sing a (.lst vs), fun _ h => h⟩
/-- a list -/
def ol (K : PySem.W.Frag) {α : Type} [Rp α] (xs : List α) : OP := ⟨fun I a M => ∃ vs, M = sing a (.lst vs) ∧ Rs K xs I vs, fun e ⟨vs, h1, h2⟩ => ⟨vs, h1, rs_up e h2⟩⟩
/-- what stands at an address -/
def OP.at (P : OP) (v : V) : OP := ⟨fun I a M => v = V.ref a ∧ P.r I a M, fun e ⟨h1, h2⟩ => ⟨h1, P.up e h2⟩⟩

/-! ### slots -/
inductive Sl where
  | no
  | im (p : PV)
  | ow (p : OP)
/-- F: what is owned besides; M: F and the slots' own parts -/
inductive EnvOk (I F : Hp) : Hp → St → List Sl → Prop where
  | nil : EnvOk I F F [] []
  | no {M : Hp} {σ : St} {Γ : List Sl} (o : Option V) : EnvOk I F M σ Γ → EnvOk I F M (o :: σ) (.no :: Γ)
  | im {M : Hp} {σ : St} {Γ : List Sl} {p : PV} {v : V} : p.r I v → EnvOk I F M σ Γ → EnvOk I F M (some v :: σ) (.im p :: Γ)
  | ow {M : Hp} {σ : St} {Γ : List Sl} {p : OP} {a : Addr} {Ma : Hp} : p.r I a Ma → Dis Ma M → EnvOk I F M σ Γ → EnvOk I F (ov Ma M) (some (.ref a) :: σ) (.ow p :: Γ)
section
variable {I F M : Hp} {σ : St} {Γ : List Sl}
theorem EnvOk.up {I' : Hp} (e : Ex I I') : ∀ {M : Hp} {σ : St} {Γ : List Sl}, EnvOk I F M σ Γ → EnvOk I' F M σ Γ
  | _, _, _, .nil => .nil
  | _, _, _, .no o h => .no o (EnvOk.up e h)
  | _, _, _, .im q h => .im (PV.up _ e q) (EnvOk.up e h)
  | _, _, _, .ow q d h => .ow (OP.up _ e q) d (EnvOk.up e h)
theorem EnvOk.len : ∀ {M : Hp} {σ : St} {Γ : List Sl}, EnvOk I F M σ Γ → σ.length = Γ.length
  | _, _, _, .nil => rfl
  | _, _, _, .no o h => congrArg Nat.succ (EnvOk.len h)
  | _, _, _, .im q h => congrArg Nat.succ (EnvOk.len h)
  | _, _, _, .ow q d h => congrArg Nat.succ (EnvOk.len h)
theorem EnvOk.get : ∀ {M : Hp} {σ : St} {Γ : List Sl}, EnvOk I F M σ Γ → ∀ {i : Nat} {p : PV}, Γ[i]? = some (.im p) → ∃ v, σ[i]? = some (some v) ∧ p.r I v
  | _, _, _, .nil, i, p, h => by simp at h
  | _, _, _, .no o h, 0, p, e => by simp at e
  | _, _, _, .no o h, i + 1, p, e => EnvOk.get h (i := i) (by simpa using e)
  | _, _, _, .im q h, 0, p, e => by
    cases (Sl.im.inj (Option.some.inj e))
    exact ⟨_, rfl, q⟩
  | _, _, _, .im q h, i + 1, p, e => EnvOk.get h (i := i) (by simpa using e)
  | _, _, _, .ow q d h, 0, p, e => by simp at e
  | _, _, _, .ow q d h, i + 1, p, e => EnvOk.get h (i := i) (by simpa using e)
/-- an owned slot: its part, and what may be put in its place -/
theorem EnvOk.foc : ∀ {M : Hp} {σ : St} {Γ : List Sl}, EnvOk I F M σ Γ → ∀ {i : Nat} {p : OP}, Γ[i]? = some (.ow p) → ∃ a Ma M', σ[i]? = some (some (.ref a)) ∧ p.r I a Ma ∧ Dis Ma M' ∧ M = ov Ma M' ∧
    (∀ I' p' Ma', Ex I I' → Dis Ma' M' → p'.r I' a Ma' → EnvOk I' F (ov Ma' M') σ (Γ.set i (.ow p'))) ∧ (∀ I' p', Ex I I' → PV.r p' I' (.ref a) → EnvOk I' F M' σ (Γ.set i (.im p'))) ∧ (∀ I', Ex I I' → EnvOk I' F M' σ (Γ.set i .no))
  | _, _, _, .nil, i, p, h => by simp at h
  | _, _, _, .no o h, 0, p, e => by simp at e
  | _, _, _, .im q h, 0, p, e => by simp at e
  | _, _, _, .ow q d h, 0, p, e => by
    cases (Sl.ow.inj (Option.some.inj e))
    exact ⟨_, _, _, rfl, q, d, rfl, fun I' p' Ma' e d' q' => .ow q' d' (h.up e), fun I' p' e q' => .im q' (h.up e), fun I' e => .no _ (h.up e)⟩
  | _, _, _, .no o h, i + 1, p, e => by
    obtain ⟨a, Ma, M', h1, h2, h3, h4, h5, h6, h7⟩ := EnvOk.foc h (i := i) (by simpa using e)
    exact ⟨a, Ma, M', by simpa using h1, h2, h3, h4, fun I' p' Ma' x1 x2 x3 => .no o (h5 I' p' Ma' x1 x2 x3), fun I' p' x1 x2 => .no o (h6 I' p' x1 x2), fun I' x1 => .no o (h7 I' x1)⟩
  | _, _, _, .im q h, i + 1, p, e => by
    obtain ⟨a, Ma, M', h1, h2, h3, h4, h5, h6, h7⟩ := EnvOk.foc h (i := i) (by simpa using e)
    exact ⟨a, Ma, M', by simpa using h1, h2, h3, h4, fun I' p' Ma' x1 x2 x3 => .im (PV.up _ x1 q) (h5 I' p' Ma' x1 x2 x3), fun I' p' x1 x2 => .im (PV.up _ x1 q) (h6 I' p' x1 x2), fun I' x1 => .im (PV.up _ x1 q) (h7 I' x1)⟩
  | _, _, _, .ow (Ma := Mb) q d h, i + 1, p, e => by
    obtain ⟨a, Ma, M', h1, h2, h3, h4, h5, h6, h7⟩ := EnvOk.foc h (i := i) (by simpa using e)
    subst h4
    obtain ⟨d1, d2⟩ := dis_r_ov d
    refine ⟨a, Ma, ov Mb M', by simpa using h1, h2, dis_ov_r d1.symm h3, ?_, fun I' p' Ma' x1 x2 x3 => ?_, fun I' p' x1 x2 => .ow (OP.up _ x1 q) d2 (h6 I' p' x1 x2), fun I' x1 => .ow (OP.up _ x1 q) d2 (h7 I' x1)⟩
    · rw [ov_assoc, ov_assoc, ov_comm d1]
    · obtain ⟨y1, y2⟩ := dis_r_ov x2
      have e2 : ov Ma' (ov Mb M') = ov Mb (ov Ma' M') := by rw [ov_assoc, ov_assoc, ov_comm y1]
      rw [e2]
      exact .ow (OP.up _ x1 q) (dis_ov_r y1.symm d2) (h5 I' p' Ma' x1 y2 x3)
def isOw : Sl → Bool
  | .ow _ => true
  | _ => false
/-- the slot owns nothing -/
def NotOw (Γ : List Sl) (i : Nat) : Prop := (Γ[i]?.map isOw).getD false = false
theorem EnvOk.set {v : V} {p : PV} (q : p.r I v) : ∀ {M : Hp} {σ : St} {Γ : List Sl} {i : Nat}, EnvOk I F M σ Γ → NotOw Γ i → EnvOk I F M (σ.set i (some v)) (Γ.set i (.im p))
  | _, _, _, _, .nil, _ => .nil
  | _, _, _, 0, .no o h, _ => .im q h
  | _, _, _, 0, .im _ h, _ => .im q h
  | _, _, _, 0, .ow _ _ h, e => by simp [NotOw, isOw] at e
  | _, _, _, i + 1, .no o h, e => .no o (EnvOk.set q (i := i) h (by simpa [NotOw] using e))
  | _, _, _, i + 1, .im r h, e => .im r (EnvOk.set q (i := i) h (by simpa [NotOw] using e))
  | _, _, _, i + 1, .ow r d h, e => .ow r d (EnvOk.set q (i := i) h (by simpa [NotOw] using e))
theorem EnvOk.setNo {o : Option V} : ∀ {M : Hp} {σ : St} {Γ : List Sl} {i : Nat}, EnvOk I F M σ Γ → NotOw Γ i → EnvOk I F M (σ.set i o) (Γ.set i .no)
  | _, _, _, _, .nil, _ => .nil
  | _, _, _, 0, .no _ h, _ => .no o h
  | _, _, _, 0, .im _ h, _ => .no o h
  | _, _, _, 0, .ow _ _ h, e => by simp [NotOw, isOw] at e
  | _, _, _, i + 1, .no o h, e => .no o (EnvOk.setNo (i := i) h (by simpa [NotOw] using e))
  | _, _, _, i + 1, .im r h, e => .im r (EnvOk.setNo (i := i) h (by simpa [NotOw] using e))
  | _, _, _, i + 1, .ow r d h, e => .ow r d (EnvOk.setNo (i := i) h (by simpa [NotOw] using e))
/-- a slot takes an owned part -/
theorem EnvOk.take {a : Addr} {p : OP} {Ma : Hp} (q : p.r I a Ma) : ∀ {M : Hp} {σ : St} {Γ : List Sl} {i : Nat}, EnvOk I F M σ Γ → NotOw Γ i → i < Γ.length → Dis Ma M → EnvOk I F (ov Ma M) (σ.set i (some (.ref a))) (Γ.set i (.ow p))
  | _, _, _, _, .nil, _, l, _ => by simp at l
  | _, _, _, 0, .no o h, _, _, d => .ow q d h
  | _, _, _, 0, .im _ h, _, _, d => .ow q d h
  | _, _, _, 0, .ow _ _ h, e, _, _ => by simp [NotOw, isOw] at e
  | _, _, _, i + 1, .no o h, e, l, d => .no o (EnvOk.take q (i := i) h (by simpa [NotOw] using e) (by simpa using l) d)
  | _, _, _, i + 1, .im r h, e, l, d => .im r (EnvOk.take q (i := i) h (by simpa [NotOw] using e) (by simpa using l) d)
  | _, _, _, i + 1, .ow (Ma := Mb) (M := M) r d' h, e, l, d => by
    obtain ⟨y1, y2⟩ := dis_r_ov d
    have e2 : ov Ma (ov Mb M) = ov Mb (ov Ma M) := by rw [ov_assoc, ov_assoc, ov_comm y1]
    rw [e2]
    exact .ow r (dis_ov_r y1.symm d') (EnvOk.take q (i := i) h (by simpa [NotOw] using e) (by simpa using l) y2)
end
/-- what may be forgotten of a slot -/
inductive Wk1 : Sl → Sl → Prop where
  | rfl (a : Sl) : Wk1 a a
  | no (p : PV) : Wk1 (.im p) .no
  | im {p p' : PV} : (∀ I v, p.r I v → p'.r I v) → Wk1 (.im p) (.im p')
  | fr {p : OP} {p' : PV} : (∀ I a Ma, Dis Ma I → p.r I a Ma → p'.r (ov Ma I) (.ref a)) → Wk1 (.ow p) (.im p')
  | drop (p : OP) : Wk1 (.ow p) .no
  | ow {p p' : OP} : (∀ I a Ma, p.r I a Ma → p'.r I a Ma) → Wk1 (.ow p) (.ow p')
inductive Wk : List Sl → List Sl → Prop where
  | nil : Wk [] []
  | cons {a b : Sl} {Γ Γ' : List Sl} : Wk1 a b → Wk Γ Γ' → Wk (a :: Γ) (b :: Γ')
theorem Wk.refl : ∀ Γ : List Sl, Wk Γ Γ
  | [] => .nil
  | a :: Γ => .cons (.rfl a) (Wk.refl Γ)
theorem EnvOk.wk {F : Hp} : ∀ {Γ Γ' : List Sl}, Wk Γ Γ' → ∀ {I M : Hp} {σ : St}, EnvOk I F M σ Γ → Dis M I → ∃ I' M', Ex I I' ∧ Dis M' I' ∧ ov M' I' = ov M I ∧ EnvOk I' F M' σ Γ'
  | _, _, .nil, I, M, σ, h, d => ⟨I, M, Ex.refl I, d, rfl, h⟩
  | _, _, .cons w ws, I, M, σ, h, d => by
    have own : ∀ {Ma M1 : Hp} {σ1 : St}, Dis Ma M1 → EnvOk I F M1 σ1 _ → Dis (ov Ma M1) I → ∃ I' M', Ex I I' ∧ Dis M' I' ∧ EnvOk I' F M' σ1 _ ∧ Dis Ma I' ∧ Dis Ma M' ∧ ov Ma (ov M' I') = ov (ov Ma M1) I := fun {Ma M1 σ1} d1 h1 d2 => by
      obtain ⟨y1, y2⟩ := dis_ov_l d2
      obtain ⟨I', M', x1, x2, x3, x4⟩ := EnvOk.wk ws h1 y2
      have z := dis_ov_r d1 y1
      rw [← x3] at z
      obtain ⟨z1, z2⟩ := dis_r_ov z
      exact ⟨I', M', x1, x2, x4, z2, z1, by rw [x3, ov_assoc]⟩
    cases w with
    | rfl a =>
      cases h with
      | no o h =>
        obtain ⟨I', M', x1, x2, x3, x4⟩ := EnvOk.wk ws h d
        exact ⟨I', M', x1, x2, x3, .no o x4⟩
      | im q h =>
        obtain ⟨I', M', x1, x2, x3, x4⟩ := EnvOk.wk ws h d
        exact ⟨I', M', x1, x2, x3, .im (PV.up _ x1 q) x4⟩
      | ow q d' h =>
        obtain ⟨I', M', x1, x2, x3, x4, x5, x6⟩ := own d' h d
        exact ⟨I', _, x1, dis_ov x4 x2, by rw [← ov_assoc, x6], .ow (OP.up _ x1 q) x5 x3⟩
    | no p =>
      cases h with
      | im q h =>
        obtain ⟨I', M', x1, x2, x3, x4⟩ := EnvOk.wk ws h d
        exact ⟨I', M', x1, x2, x3, .no _ x4⟩
    | im f =>
      cases h with
      | im q h =>
        obtain ⟨I', M', x1, x2, x3, x4⟩ := EnvOk.wk ws h d
        exact ⟨I', M', x1, x2, x3, .im (PV.up _ x1 (f _ _ q)) x4⟩
    | fr f =>
      cases h with
      | ow q d' h =>
        obtain ⟨I', M', x1, x2, x3, x4, x5, x6⟩ := own d' h d
        exact ⟨ov _ I', M', x1.trans (ex_ov x4), dis_ov_r x5.symm x2, by rw [ov_assoc, ← ov_comm x5, ← ov_assoc, x6], .im (f _ _ _ x4 (OP.up _ x1 q)) (x3.up (ex_ov x4))⟩
    | drop p =>
      cases h with
      | ow q d' h =>
        obtain ⟨I', M', x1, x2, x3, x4, x5, x6⟩ := own d' h d
        exact ⟨ov _ I', M', x1.trans (ex_ov x4), dis_ov_r x5.symm x2, by rw [ov_assoc, ← ov_comm x5, ← ov_assoc, x6], .no _ (x3.up (ex_ov x4))⟩
    | ow f =>
      cases h with
      | ow q d' h =>
        obtain ⟨I', M', x1, x2, x3, x4, x5, x6⟩ := own d' h d
        exact ⟨I', _, x1, dis_ov x4 x2, by rw [← ov_assoc, x6], .ow (f _ _ _ (OP.up _ x1 q)) x5 x3⟩
/-- a list is no longer changed -/
theorem fr_ol {K : PySem.W.Frag} {α : Type} [Rp α] {xs : List α} : ∀ I a Ma, Dis Ma I → (ol K xs).r I a Ma → (pv K xs).r (ov Ma I) (.ref a) := fun I a Ma d ⟨vs, e, q⟩ =>
  ⟨a, vs, rfl, by rw [e]; exact ov_l sing_same, rs_up (ex_ov d) q⟩
theorem fr_at {P : OP} {p : PV} {v : V} (h : ∀ I a Ma, Dis Ma I → P.r I a Ma → p.r (ov Ma I) (.ref a)) : ∀ I a Ma, Dis Ma I → (P.at v).r I a Ma → p.r (ov Ma I) (.ref a) := fun I a Ma d ⟨_, q⟩ => h I a Ma d q
end Mir

/-! Mir2: the monad of mirrors; what a reading computes -/
namespace Mir
open PySem L2

/-! ### the monad: a state of what is owned; ok or bad -/
inductive R (S α : Type) where
  | ok (a : α) (s : S)
  | bad
def Mn (S α : Type) : Type := S → R S α
section
variable {S α β : Type}
def R.sat (m : R S α) (Q : α → S → Prop) : Prop := match m with
  | .ok a s => Q a s
  | .bad => False
def mp (a : α) : Mn S α := fun s => .ok a s
def mbad : Mn S α := fun _ => .bad
def mb (m : Mn S α) (f : α → Mn S β) : Mn S β := fun s => match m s with
  | .ok a s' => f a s'
  | .bad => .bad
/-- checked -/
def mc (c : Bool) (a : α) : Mn S α := fun s => match c with
  | true => .ok a s
  | false => .bad
def mo (o : Option α) : Mn S α := fun s => match o with
  | some a => .ok a s
  | none => .bad
/-- of the state -/
def mg (f : S → α) : Mn S α := fun s => .ok (f s) s
def ms (f : S → S) : Mn S Unit := fun s => .ok () (f s)
def mi (b : Bool) (m1 m2 : Mn S α) : Mn S α := match b with
  | true => m1
  | false => m2
/-- of another state: get and put -/
def ml {S' : Type} (g : S → S') (p : S → S' → S) (m : Mn S' α) : Mn S α := fun s => match m (g s) with
  | .ok a s' => .ok a (p s s')
  | .bad => .bad
/-- of no state -/
def mu (m : Mn Unit α) : Mn S α := fun s => match m () with
  | .ok a _ => .ok a s
  | .bad => .bad
theorem R.sat_imp {m : R S α} {Q Q' : α → S → Prop} (h : m.sat Q) (f : ∀ a s, Q a s → Q' a s) : m.sat Q' := by
  cases m with
  | ok a s => exact f _ _ h
  | bad => exact h
theorem sat_mb {m : Mn S α} {f : α → Mn S β} {s : S} {Q : β → S → Prop} : (mb m f s).sat Q ↔ (m s).sat fun a s' => (f a s').sat Q := by
  unfold mb
  cases m s <;> exact Iff.rfl
theorem sat_mp {a : α} {s : S} {Q : α → S → Prop} : (mp a s).sat Q ↔ Q a s := Iff.rfl
theorem sat_mc {c : Bool} {a : α} {s : S} {Q : α → S → Prop} : (mc c a s).sat Q ↔ c = true ∧ Q a s := by
  cases c with
  | true => exact ⟨fun h => ⟨rfl, h⟩, fun h => h.2⟩
  | false => exact ⟨fun h => h.elim, fun h => nomatch h.1⟩
theorem sat_mo {o : Option α} {s : S} {Q : α → S → Prop} : (mo o s).sat Q ↔ ∃ a, o = some a ∧ Q a s := by
  cases o with
  | none => exact ⟨fun h => h.elim, fun ⟨_, h, _⟩ => nomatch h⟩
  | some a => exact ⟨fun h => ⟨a, rfl, h⟩, fun ⟨_, h, q⟩ => by cases h; exact q⟩
theorem sat_mg {f : S → α} {s : S} {Q : α → S → Prop} : (mg f s).sat Q ↔ Q (f s) s := Iff.rfl
theorem sat_ms {f : S → S} {s : S} {Q : Unit → S → Prop} : (ms f s).sat Q ↔ Q () (f s) := Iff.rfl
theorem sat_mbad {s : S} {Q : α → S → Prop} : ((mbad : Mn S α) s).sat Q ↔ False := Iff.rfl
theorem sat_mi {b : Bool} {m1 m2 : Mn S α} {s : S} {Q : α → S → Prop} : (mi b m1 m2 s).sat Q ↔ (b = true → (m1 s).sat Q) ∧ (b = false → (m2 s).sat Q) := by
  cases b with
  | true => exact ⟨fun h => ⟨fun _ => h, fun q => nomatch q⟩, fun h => h.1 rfl⟩
  | false => exact ⟨fun h => ⟨fun q => (nomatch q), fun _ => h⟩, fun h => h.2 rfl⟩
theorem sat_ml {S' : Type} {g : S → S'} {p : S → S' → S} {m : Mn S' α} {s : S} {Q : α → S → Prop} : (ml g p m s).sat Q ↔ (m (g s)).sat fun a s' => Q a (p s s') := by
  unfold ml
  cases m (g s) <;> exact Iff.rfl
theorem sat_mu {m : Mn Unit α} {s : S} {Q : α → S → Prop} : (mu m s).sat Q ↔ (m ()).sat fun a _ => Q a s := by
  unfold mu
  cases m () <;> exact Iff.rfl
end

/-! ### judgements -/
section
variable {K : PySem.W.Frag}
/-- an expression of known value p; nothing owned is changed -/
def EP (te : TE) (Γ : List Sl) (p : PV) : Prop := ∀ (I F M : Hp) (σ : L2.St), EnvOk I F M σ Γ → Dis M I → ∀ Q : VK, (∀ v I', Ex I I' → Dis M I' → p.r I' v → Q v (ov M I')) → te σ (ov M I) Q
/-- a test -/
def TP (tt : TT) (Γ : List Sl) (b : Bool) : Prop := ∀ (I F M : Hp) (σ : L2.St), EnvOk I F M σ Γ → Dis M I → ∀ Q : Bool → Hp → Prop, (∀ I', Ex I I' → Dis M I' → Q b (ov M I')) → tt σ (ov M I) Q
/-- an expression that may change what is owned, or be bad -/
def EM (K : PySem.W.Frag) {S α : Type} [Rp α] (te : TE) (Γ : S → List Sl) (m : Mn S α) : Prop := ∀ (s : S) (I F M : Hp) (σ : L2.St), EnvOk I F M σ (Γ s) → Dis M I → ∀ Q : VK,
  (m s).sat (fun x s' => ∀ v I' M', Ex I I' → Dis M' I' → EnvOk I' F M' σ (Γ s') → Rp.r K x I' v → Q v (ov M' I')) → te σ (ov M I) Q
def TM {S : Type} (tt : TT) (Γ : S → List Sl) (m : Mn S Bool) : Prop := ∀ (s : S) (I F M : Hp) (σ : L2.St), EnvOk I F M σ (Γ s) → Dis M I → ∀ Q : Bool → Hp → Prop,
  (m s).sat (fun b s' => ∀ I' M', Ex I I' → Dis M' I' → EnvOk I' F M' σ (Γ s') → Q b (ov M' I')) → tt σ (ov M I) Q
section
variable {S α β γ : Type} [Rp α] [Rp β] [Rp γ] {te ta tb : TE} {tt : TT} {Γ : S → List Sl} {x : α} {y : β} {z : γ}
theorem em_p {f : S → α} (h : ∀ s, EP te (Γ s) (pv K (f s))) : EM K te Γ (mg f) := fun s I F M σ e d Q q => h s I F M σ e d Q fun v I' a b c => q v I' M a b (e.up a) c
theorem em_pure (h : ∀ s, EP te (Γ s) (pv K x)) : EM K te Γ (mp x) := fun s I F M σ e d Q q => h s I F M σ e d Q fun v I' a b c => q v I' M a b (e.up a) c
theorem tm_pure {b : Bool} (h : ∀ s, TP tt (Γ s) b) : TM tt Γ (mp b) := fun s I F M σ e d Q q => h s I F M σ e d Q fun I' a b => q I' M a b (e.up a)
theorem tm_p {f : S → Bool} (h : ∀ s, TP tt (Γ s) (f s)) : TM tt Γ (mg f) := fun s I F M σ e d Q q => h s I F M σ e d Q fun I' a b => q I' M a b (e.up a)
end

/-! ### names, constants -/
section
variable {Γ : List Sl} {p q w : PV} {te ta tb tc : TE} {tt tu : TT} {a b : Bool}
theorem ep_var {i : Nat} (h : Γ[i]? = some (.im p)) : EP (tVar i) Γ p := fun I F M σ e d Q k => by
  obtain ⟨v, h1, h2⟩ := e.get h
  exact ⟨v, h1, k v I (Ex.refl I) d h2⟩
theorem ep_c {α : Type} [Rp α] {x : α} {v : V} (h : ∀ H, Rp.r K x H v) : EP (tC v) Γ (pv K x) := fun I F M σ e d Q k => k v I (Ex.refl I) d (h I)
theorem ep_int {i : Int} : EP (tC (.int i)) Γ (pv K i) := ep_c fun _ => rfl
theorem ep_bl {i : Bool} : EP (tC (.bl i)) Γ (pv K i) := ep_c fun _ => rfl
theorem ep_str {i : Str} : EP (tC (.str i)) Γ (pv K i) := ep_c fun _ => rfl
theorem ep_non : EP (tC .non) Γ (pv K ()) := ep_c fun _ => rfl
theorem ep_nonO {α : Type} [Rp α] : EP (tC .non) Γ (pv K (none : Option α)) := ep_c fun _ => rfl
theorem ep_some {α : Type} [Rp α] {x : α} (hn : ∀ H v, Rp.r K x H v → v ≠ .non) (h : EP te Γ (pv K x)) : EP te Γ (pv K (some x)) := fun I F M σ e d Q k => h I F M σ e d Q fun v I' a b c => k v I' a b ⟨c, hn _ _ c⟩

/-! ### operators on values -/
/-- what an operator gives of two values -/
def Op2 (r : R2) (p q w : PV) : Prop := ∀ (I M : Hp) (x y : V) (Q : VK), Dis M I → p.r I x → q.r I y → (∀ v I', Ex I I' → Dis M I' → w.r I' v → Q v (ov M I')) → r x y (ov M I) Q
def Op1 (r : V → Hp → VK → Prop) (p w : PV) : Prop := ∀ (I M : Hp) (x : V) (Q : VK), Dis M I → p.r I x → (∀ v I', Ex I I' → Dis M I' → w.r I' v → Q v (ov M I')) → r x (ov M I) Q
theorem op_ii {g : Int → Int → V} {α : Type} [Rp α] {i j : Int} {z : α} (h : ∀ H, Rp.r K z H (g i j)) : Op2 (rI0 g) (pv K i) (pv K j) (pv K z) := fun I M x y Q d hx hy k => ⟨i, j, hx, hy, k _ I (Ex.refl I) d (h I)⟩
theorem op_iiC {C : Int → Int → Prop} {g : Int → Int → V} {α : Type} [Rp α] {i j : Int} {z : α} (c : C i j) (h : ∀ H, Rp.r K z H (g i j)) : Op2 (rI C g) (pv K i) (pv K j) (pv K z) := fun I M x y Q d hx hy k => ⟨i, j, hx, hy, c, k _ I (Ex.refl I) d (h I)⟩
theorem ep_op {r : R2} (ha : EP ta Γ p) (hb : EP tb Γ q) (h : Op2 r p q w) : EP (tOp r ta tb) Γ w := fun I F M σ e d Q k =>
  ha I F M σ e d _ fun x I1 a1 d1 r1 => hb I1 F M σ (e.up a1) d1 _ fun y I2 a2 d2 r2 => h I2 M x y Q d2 (p.up a2 r1) r2 fun v I3 a3 d3 r3 => k v I3 ((a1.trans a2).trans a3) d3 r3
theorem ep_un {r : V → Hp → VK → Prop} (ha : EP ta Γ p) (h : Op1 r p w) : EP (tUn r ta) Γ w := fun I F M σ e d Q k =>
  ha I F M σ e d _ fun x I1 a1 d1 r1 => h I1 M x Q d1 r1 fun v I3 a3 d3 r3 => k v I3 (a1.trans a3) d3 r3
end
section
variable {S α β γ : Type} [Rp α] [Rp β] [Rp γ] {ta tb : TE} {Γ : S → List Sl} {x : α} {y : β} {z : γ} {m1 : Mn S α} {m2 : Mn S β} {r : R2} {g : α → β → γ} {c : α → β → Bool}
/-- both parts change or are checked -/
theorem em_op (ha : EM K ta Γ m1) (hb : EM K tb Γ m2) (h : ∀ x y, Op2 r (pv K x) (pv K y) (pv K (g x y))) : EM K (tOp r ta tb) Γ (mb m1 fun x => mb m2 fun y => mp (g x y)) := fun s I F M σ e d Q q =>
  ha s I F M σ e d _ (R.sat_imp (sat_mb.mp q) fun x s1 q v1 I1 M1 a1 d1 e1 r1 => hb s1 I1 F M1 σ e1 d1 _ (R.sat_imp (sat_mb.mp q) fun y s2 q v2 I2 M2 a2 d2 e2 r2 =>
    h x y I2 M2 v1 v2 Q d2 (Rp.up a2 r1) r2 fun v I3 a3 d3 r3 => q v I3 M2 ((a1.trans a2).trans a3) d3 (e2.up a3) r3))
theorem em_opC (ha : EM K ta Γ m1) (hb : EM K tb Γ m2) (h : ∀ x y, c x y = true → Op2 r (pv K x) (pv K y) (pv K (g x y))) : EM K (tOp r ta tb) Γ (mb m1 fun x => mb m2 fun y => mc (c x y) (g x y)) := fun s I F M σ e d Q q =>
  ha s I F M σ e d _ (R.sat_imp (sat_mb.mp q) fun x s1 q v1 I1 M1 a1 d1 e1 r1 => hb s1 I1 F M1 σ e1 d1 _ (R.sat_imp (sat_mb.mp q) fun y s2 q v2 I2 M2 a2 d2 e2 r2 =>
    h x y (sat_mc.mp q).1 I2 M2 v1 v2 Q d2 (Rp.up a2 r1) r2 fun v I3 a3 d3 r3 => (sat_mc.mp q).2 v I3 M2 ((a1.trans a2).trans a3) d3 (e2.up a3) r3))
/-- the left part known -/
theorem em_opl (ha : ∀ s, EP ta (Γ s) (pv K x)) (hb : EM K tb Γ m2) (h : ∀ y, Op2 r (pv K x) (pv K y) (pv K (g x y))) : EM K (tOp r ta tb) Γ (mb m2 fun y => mp (g x y)) := fun s I F M σ e d Q q =>
  ha s I F M σ e d _ fun v1 I1 a1 d1 r1 => hb s I1 F M σ (e.up a1) d1 _ (R.sat_imp (sat_mb.mp q) fun y s2 q v2 I2 M2 a2 d2 e2 r2 =>
    h y I2 M2 v1 v2 Q d2 (Rp.up a2 r1) r2 fun v I3 a3 d3 r3 => q v I3 M2 ((a1.trans a2).trans a3) d3 (e2.up a3) r3)
theorem em_oplC (ha : ∀ s, EP ta (Γ s) (pv K x)) (hb : EM K tb Γ m2) (h : ∀ y, c x y = true → Op2 r (pv K x) (pv K y) (pv K (g x y))) : EM K (tOp r ta tb) Γ (mb m2 fun y => mc (c x y) (g x y)) := fun s I F M σ e d Q q =>
  ha s I F M σ e d _ fun v1 I1 a1 d1 r1 => hb s I1 F M σ (e.up a1) d1 _ (R.sat_imp (sat_mb.mp q) fun y s2 q v2 I2 M2 a2 d2 e2 r2 =>
    h y (sat_mc.mp q).1 I2 M2 v1 v2 Q d2 (Rp.up a2 r1) r2 fun v I3 a3 d3 r3 => (sat_mc.mp q).2 v I3 M2 ((a1.trans a2).trans a3) d3 (e2.up a3) r3)
/-- the right part known -/
theorem em_opr (ha : EM K ta Γ m1) (hb : ∀ s, EP tb (Γ s) (pv K y)) (h : ∀ x, Op2 r (pv K x) (pv K y) (pv K (g x y))) : EM K (tOp r ta tb) Γ (mb m1 fun x => mp (g x y)) := fun s I F M σ e d Q q =>
  ha s I F M σ e d _ (R.sat_imp (sat_mb.mp q) fun x s1 q v1 I1 M1 a1 d1 e1 r1 => hb s1 I1 F M1 σ e1 d1 _ fun v2 I2 a2 d2 r2 =>
    h x I2 M1 v1 v2 Q d2 (Rp.up a2 r1) r2 fun v I3 a3 d3 r3 => q v I3 M1 ((a1.trans a2).trans a3) d3 (e1.up (a2.trans a3)) r3)
theorem em_oprC (ha : EM K ta Γ m1) (hb : ∀ s, EP tb (Γ s) (pv K y)) (h : ∀ x, c x y = true → Op2 r (pv K x) (pv K y) (pv K (g x y))) : EM K (tOp r ta tb) Γ (mb m1 fun x => mc (c x y) (g x y)) := fun s I F M σ e d Q q =>
  ha s I F M σ e d _ (R.sat_imp (sat_mb.mp q) fun x s1 q v1 I1 M1 a1 d1 e1 r1 => hb s1 I1 F M1 σ e1 d1 _ fun v2 I2 a2 d2 r2 =>
    h x (sat_mc.mp q).1 I2 M1 v1 v2 Q d2 (Rp.up a2 r1) r2 fun v I3 a3 d3 r3 => (sat_mc.mp q).2 v I3 M1 ((a1.trans a2).trans a3) d3 (e1.up (a2.trans a3)) r3)
/-- both parts known -/
theorem em_opC2 {c : Bool} (ha : ∀ s, EP ta (Γ s) (pv K x)) (hb : ∀ s, EP tb (Γ s) (pv K y)) (h : c = true → Op2 r (pv K x) (pv K y) (pv K z)) : EM K (tOp r ta tb) Γ (mc c z) := fun s I F M σ e d Q q =>
  ep_op (ha s) (hb s) (h (sat_mc.mp q).1) I F M σ e d Q fun v I3 a3 d3 r3 => (sat_mc.mp q).2 v I3 M a3 d3 (e.up a3) r3
/-- .. in the state -/
theorem em_un {r : V → Hp → VK → Prop} {g : α → γ} (ha : EM K ta Γ m1) (h : ∀ x, Op1 r (pv K x) (pv K (g x))) : EM K (tUn r ta) Γ (mb m1 fun x => mp (g x)) := fun s I F M σ e d Q q =>
  ha s I F M σ e d _ (R.sat_imp (sat_mb.mp q) fun x s1 q v1 I1 M1 a1 d1 e1 r1 => h x I1 M1 v1 Q d1 r1 fun v I3 a3 d3 r3 => q v I3 M1 (a1.trans a3) d3 (e1.up a3) r3)
end
end
end Mir

/-! Mir3: operators, tests, arguments, displays, items, calls -/
namespace Mir
open PySem L2
section
variable {K : PySem.W.Frag}
/-! ### operators on ints -/
section
variable {i j : Int}
theorem o_add : Op2 (rI0 fun i j => .int (i + j)) (pv K i) (pv K j) (pv K (i + j)) := op_ii fun _ => rfl
theorem o_sub : Op2 (rI0 fun i j => .int (i - j)) (pv K i) (pv K j) (pv K (i - j)) := op_ii fun _ => rfl
theorem o_lt : Op2 (rI0 fun i j => .bl (decide (i < j))) (pv K i) (pv K j) (pv K (decide (i < j))) := op_ii fun _ => rfl
theorem o_le : Op2 (rI0 fun i j => .bl (decide (i ≤ j))) (pv K i) (pv K j) (pv K (decide (i ≤ j))) := op_ii fun _ => rfl
theorem o_gt : Op2 (rI0 fun i j => .bl (decide (j < i))) (pv K i) (pv K j) (pv K (decide (j < i))) := op_ii fun _ => rfl
theorem o_ge : Op2 (rI0 fun i j => .bl (decide (j ≤ i))) (pv K i) (pv K j) (pv K (decide (j ≤ i))) := op_ii fun _ => rfl
def smallI (i : Int) : Bool := decide (-(2 ^ 64) < i ∧ i < 2 ^ 64)
def mulOk (i j : Int) : Bool := decide (i.natAbs.log2 + j.natAbs.log2 < 1000000)
def divOk (j : Int) : Bool := decide (0 < j ∧ j.natAbs.log2 < 9000)
def modOk (j : Int) : Bool := decide (0 < j)
def powOk (i j : Int) : Bool := decide (0 ≤ j ∧ j ≤ 1000000 ∧ i.natAbs < 2 ^ 64)
/-- one factor is small -/
theorem o_mulL (h : smallI i = true) : Op2 (rI CMul fun i j => .int (i * j)) (pv K i) (pv K j) (pv K (i * j)) := op_iiC (show CMul i j from .inl (of_decide_eq_true h)) fun _ => rfl
theorem o_mulR (h : smallI j = true) : Op2 (rI CMul fun i j => .int (i * j)) (pv K i) (pv K j) (pv K (i * j)) := op_iiC (show CMul i j from .inr (of_decide_eq_true h)) fun _ => rfl
theorem o_mulW (h : mulOk i j = true) : Op2 (rI CMulW fun i j => .int (i * j)) (pv K i) (pv K j) (pv K (i * j)) := op_iiC (show CMulW i j from (of_decide_eq_true h : i.natAbs.log2 + j.natAbs.log2 < 1000000)) fun _ => rfl
theorem o_divW (h : divOk j = true) : Op2 (rI CDivW fun i j => .int (i / j)) (pv K i) (pv K j) (pv K (i / j)) := op_iiC (show CDivW i j from (of_decide_eq_true h : 0 < j ∧ j.natAbs.log2 < 9000)) fun _ => rfl
theorem o_mod (h : modOk j = true) : Op2 (rI (fun _ j => 0 < j) fun i j => .int (i % j)) (pv K i) (pv K j) (pv K (i % j)) := op_iiC (C := fun _ j => 0 < j) (of_decide_eq_true h) fun _ => rfl
theorem o_pow (h : powOk i j = true) : Op2 (rI CPow fun i j => .int (i ^ j.toNat)) (pv K i) (pv K j) (pv K (i ^ j.toNat)) := op_iiC (show CPow i j from (of_decide_eq_true h : 0 ≤ j ∧ j ≤ 1000000 ∧ i.natAbs < 2 ^ 64)) fun _ => rfl
theorem o_neg : Op1 (rU fun i => .int (-i)) (pv K i) (pv K (-i)) := fun I M x Q d hx k => ⟨i, hx, k _ I (Ex.refl I) d rfl⟩
/-- scalars by == -/
class Eqs (α : Type) [Rp α] [Sc α] where
  sc : ∀ x y : α, scal (Sc.s x) (Sc.s y) = true
  inj : ∀ x y : α, Sc.s x = Sc.s y → x = y
instance eqsInt : Eqs Int := ⟨fun _ _ => rfl, fun _ _ h => V.int.inj h⟩
instance eqsBool : Eqs Bool := ⟨fun _ _ => rfl, fun _ _ h => V.bl.inj h⟩
instance eqsStr : Eqs Str := ⟨fun _ _ => rfl, fun _ _ h => V.str.inj h⟩
theorem dec_s {α : Type} [Rp α] [Sc α] [Eqs α] [DecidableEq α] (x y : α) : decide (Sc.s x = Sc.s y) = decide (x = y) := by
  by_cases h : x = y
  · rw [h]; simp
  · rw [decide_eq_false h, decide_eq_false (fun q => h (Eqs.inj _ _ q))]
theorem o_eq {α : Type} [Rp α] [Sc α] [Eqs α] [DecidableEq α] {x y : α} : Op2 rEq (pv K x) (pv K y) (pv K (decide (x = y))) := fun I M u v Q d hx hy k => by
  cases Sc.eq.mp hx
  cases Sc.eq.mp hy
  refine ⟨Eqs.sc _ _, ?_⟩
  rw [dec_s]
  exact k _ I (Ex.refl I) d rfl
theorem o_ne {α : Type} [Rp α] [Sc α] [Eqs α] [DecidableEq α] {x y : α} : Op2 rNe (pv K x) (pv K y) (pv K (!decide (x = y))) := fun I M u v Q d hx hy k => by
  cases Sc.eq.mp hx
  cases Sc.eq.mp hy
  refine ⟨Eqs.sc _ _, ?_⟩
  rw [dec_s]
  exact k _ I (Ex.refl I) d rfl
/-- x is None, of a type that is not None -/
theorem o_isN {p : PV} (b : Bool) (h : ∀ H v, p.r H v → decide (v = .non) = b) : Op2 (fun x y H Q => y = .non ∧ Q (.bl (decide (x = .non))) H) p (pv K ()) (pv K b) := fun I M x y Q d hx hy k => by
  refine ⟨hy, ?_⟩
  rw [h _ _ hx]
  exact k _ I (Ex.refl I) d rfl
theorem isN_opt {α : Type} [Rp α] {x : Option α} : ∀ H v, (pv K x).r H v → decide (v = .non) = x.isNone := fun H v h => by
  cases x with
  | none => exact decide_eq_true h
  | some y => exact decide_eq_false h.2
end

/-! ### tests -/
section
variable {Γ : List Sl} {p q q2 w : PV} {te ta tb tc : TE} {tt tu : TT} {a b : Bool} {r r' : R2}
theorem tp_test (h : EP te Γ (pv K b)) : TP (tTest te) Γ b := fun I F M σ e d Q k => h I F M σ e d _ fun v I' x y z => ⟨b, z, k I' x y⟩
theorem tp_B (h : EP te Γ (pv K b)) : TP (tB te) Γ b := fun I F M σ e d Q k => h I F M σ e d _ fun v I' x y z => ⟨b, z, k I' x y⟩
theorem tp_not (h : TP tt Γ b) : TP (tNot tt) Γ (!b) := fun I F M σ e d Q k => h I F M σ e d _ fun I' x y => k I' x y
theorem tp_and (h1 : TP tt Γ a) (h2 : a = true → TP tu Γ b) : TP (tAnd tt tu) Γ (a && b) := fun I F M σ e d Q k => h1 I F M σ e d _ fun I1 x1 y1 => by
  cases a with
  | true =>
    show tu σ (ov M I1) Q
    exact h2 rfl I1 F M σ (e.up x1) y1 _ fun I2 x2 y2 => k I2 (x1.trans x2) y2
  | false => exact k I1 x1 y1
theorem tp_or (h1 : TP tt Γ a) (h2 : a = false → TP tu Γ b) : TP (tOr tt tu) Γ (a || b) := fun I F M σ e d Q k => h1 I F M σ e d _ fun I1 x1 y1 => by
  cases a with
  | true => exact k I1 x1 y1
  | false =>
    show tu σ (ov M I1) Q
    exact h2 rfl I1 F M σ (e.up x1) y1 _ fun I2 x2 y2 => k I2 (x1.trans x2) y2
theorem ep_andV (h1 : EP ta Γ (pv K a)) (h2 : a = true → EP tb Γ (pv K b)) : EP (tAndV ta tb) Γ (pv K (a && b)) := fun I F M σ e d Q k => h1 I F M σ e d _ fun v I1 x1 y1 z1 => ⟨a, z1, by
  cases a with
  | true =>
    show tb σ (ov M I1) Q
    exact h2 rfl I1 F M σ (e.up x1) y1 _ fun v I2 x2 y2 z2 => k v I2 (x1.trans x2) y2 z2
  | false => exact k _ I1 x1 y1 rfl⟩
theorem ep_orV (h1 : EP ta Γ (pv K a)) (h2 : a = false → EP tb Γ (pv K b)) : EP (tOrV ta tb) Γ (pv K (a || b)) := fun I F M σ e d Q k => h1 I F M σ e d _ fun v I1 x1 y1 z1 => ⟨a, z1, by
  cases a with
  | true => exact k _ I1 x1 y1 rfl
  | false =>
    show tb σ (ov M I1) Q
    exact h2 rfl I1 F M σ (e.up x1) y1 _ fun v I2 x2 y2 z2 => k v I2 (x1.trans x2) y2 z2⟩
theorem ep_notV (h1 : EP ta Γ (pv K a)) : EP (tNotV ta) Γ (pv K (!a)) := fun I F M σ e d Q k => h1 I F M σ e d _ fun v I1 x1 y1 z1 => ⟨a, z1, k _ I1 x1 y1 rfl⟩
theorem ep_chain (ha : EP ta Γ p) (hb : EP tb Γ q) (hc : EP tc Γ q2) (h : Op2 r p q (pv K a)) (h' : Op2 r' q q2 (pv K b)) : EP (tChain r r' ta tb tc) Γ (pv K (a && b)) := fun I F M σ e d Q k =>
  ha I F M σ e d _ fun x I1 x1 y1 z1 => hb I1 F M σ (e.up x1) y1 _ fun y I2 x2 y2 z2 => h I2 M x y _ y2 (p.up x2 z1) z2 fun v I3 x3 y3 z3 => ⟨a, z3, by
    cases a with
    | true =>
      show tc σ (ov M I3) _
      exact hc I3 F M σ (e.up ((x1.trans x2).trans x3)) y3 _ fun u I4 x4 y4 z4 => h' I4 M y u Q y4 (q.up (x3.trans x4) z2) z4 fun v I5 x5 y5 z5 => k v I5 ((((x1.trans x2).trans x3).trans x4).trans x5) y5 z5
    | false => exact k _ I3 ((x1.trans x2).trans x3) y3 rfl⟩
theorem ep_if {α : Type} [Rp α] {x y : α} (h : TP tt Γ b) (h1 : b = true → EP ta Γ (pv K x)) (h2 : b = false → EP tb Γ (pv K y)) : EP (tIf tt ta tb) Γ (pv K (cond b x y)) := fun I F M σ e d Q k => h I F M σ e d _ fun I1 x1 y1 => by
  cases b with
  | true => exact h1 rfl I1 F M σ (e.up x1) y1 Q fun v I2 x2 y2 z2 => k v I2 (x1.trans x2) y2 z2
  | false => exact h2 rfl I1 F M σ (e.up x1) y1 Q fun v I2 x2 y2 z2 => k v I2 (x1.trans x2) y2 z2
end
section
variable {S α β γ : Type} [Rp α] {Γ : S → List Sl} {te ta tb tc : TE} {tt tu : TT}
theorem tm_test {m : Mn S Bool} (h : EM K te Γ m) : TM (tTest te) Γ m := fun s I F M σ e d Q q => h s I F M σ e d _ (R.sat_imp q fun b s' q v I' M' a1 d1 e1 r1 => ⟨b, r1, q I' M' a1 d1 e1⟩)
theorem tm_B {m : Mn S Bool} (h : EM K te Γ m) : TM (tB te) Γ m := fun s I F M σ e d Q q => h s I F M σ e d _ (R.sat_imp q fun b s' q v I' M' a1 d1 e1 r1 => ⟨b, r1, q I' M' a1 d1 e1⟩)
theorem tm_not {m : Mn S Bool} (h : TM tt Γ m) : TM (tNot tt) Γ (mb m fun b => mp (!b)) := fun s I F M σ e d Q q => h s I F M σ e d _ (R.sat_imp (sat_mb.mp q) fun b s' q I' M' a1 d1 e1 => q I' M' a1 d1 e1)
theorem tm_and {m1 m2 : Mn S Bool} (h1 : TM tt Γ m1) (h2 : TM tu Γ m2) : TM (tAnd tt tu) Γ (mb m1 fun b => mi b m2 (mp false)) := fun s I F M σ e d Q q => h1 s I F M σ e d _ (R.sat_imp (sat_mb.mp q) fun b s1 q I1 M1 a1 d1 e1 => by
  cases b with
  | true =>
    show tu σ (ov M1 I1) Q
    exact h2 s1 I1 F M1 σ e1 d1 _ (R.sat_imp q fun b s2 q I2 M2 a2 d2 e2 => q I2 M2 (a1.trans a2) d2 e2)
  | false => exact q I1 M1 a1 d1 e1)
theorem tm_or {m1 m2 : Mn S Bool} (h1 : TM tt Γ m1) (h2 : TM tu Γ m2) : TM (tOr tt tu) Γ (mb m1 fun b => mi b (mp true) m2) := fun s I F M σ e d Q q => h1 s I F M σ e d _ (R.sat_imp (sat_mb.mp q) fun b s1 q I1 M1 a1 d1 e1 => by
  cases b with
  | true => exact q I1 M1 a1 d1 e1
  | false =>
    show tu σ (ov M1 I1) Q
    exact h2 s1 I1 F M1 σ e1 d1 _ (R.sat_imp q fun b s2 q I2 M2 a2 d2 e2 => q I2 M2 (a1.trans a2) d2 e2))
theorem em_andV {m1 m2 : Mn S Bool} (h1 : EM K ta Γ m1) (h2 : EM K tb Γ m2) : EM K (tAndV ta tb) Γ (mb m1 fun b => mi b m2 (mp false)) := fun s I F M σ e d Q q => h1 s I F M σ e d _ (R.sat_imp (sat_mb.mp q) fun b s1 q v1 I1 M1 a1 d1 e1 r1 => ⟨b, r1, by
  cases b with
  | true =>
    show tb σ (ov M1 I1) Q
    exact h2 s1 I1 F M1 σ e1 d1 _ (R.sat_imp q fun b s2 q v I2 M2 a2 d2 e2 => q v I2 M2 (a1.trans a2) d2 e2)
  | false => exact q _ I1 M1 a1 d1 e1 rfl⟩)
theorem em_orV {m1 m2 : Mn S Bool} (h1 : EM K ta Γ m1) (h2 : EM K tb Γ m2) : EM K (tOrV ta tb) Γ (mb m1 fun b => mi b (mp true) m2) := fun s I F M σ e d Q q => h1 s I F M σ e d _ (R.sat_imp (sat_mb.mp q) fun b s1 q v1 I1 M1 a1 d1 e1 r1 => ⟨b, r1, by
  cases b with
  | true => exact q _ I1 M1 a1 d1 e1 rfl
  | false =>
    show tb σ (ov M1 I1) Q
    exact h2 s1 I1 F M1 σ e1 d1 _ (R.sat_imp q fun b s2 q v I2 M2 a2 d2 e2 => q v I2 M2 (a1.trans a2) d2 e2)⟩)
theorem em_notV {m1 : Mn S Bool} (h1 : EM K ta Γ m1) : EM K (tNotV ta) Γ (mb m1 fun b => mp (!b)) := fun s I F M σ e d Q q => h1 s I F M σ e d _ (R.sat_imp (sat_mb.mp q) fun b s1 q v1 I1 M1 a1 d1 e1 r1 => ⟨b, r1, q _ I1 M1 a1 d1 e1 rfl⟩)
theorem em_if {m : Mn S Bool} {m1 m2 : Mn S α} (h : TM tt Γ m) (h1 : EM K ta Γ m1) (h2 : EM K tb Γ m2) : EM K (tIf tt ta tb) Γ (mb m fun b => mi b m1 m2) := fun s I F M σ e d Q q => h s I F M σ e d _ (R.sat_imp (sat_mb.mp q) fun b s1 q I1 M1 a1 d1 e1 => by
  cases b with
  | true => exact h1 s1 I1 F M1 σ e1 d1 Q (R.sat_imp q fun b s2 q v I2 M2 a2 d2 e2 => q v I2 M2 (a1.trans a2) d2 e2)
  | false => exact h2 s1 I1 F M1 σ e1 d1 Q (R.sat_imp q fun b s2 q v I2 M2 a2 d2 e2 => q v I2 M2 (a1.trans a2) d2 e2))
/-- the test known -/
theorem em_ifp {b : S → Bool} {m1 m2 : Mn S α} (h : ∀ s, TP tt (Γ s) (b s)) (h1 : EM K ta Γ m1) (h2 : EM K tb Γ m2) : EM K (tIf tt ta tb) Γ (mb (mg b) fun b => mi b m1 m2) := em_if (tm_p h) h1 h2
end

/-! ### arguments -/
section
/-- arguments of known values -/
def AP (ta : TA) (Γ : List Sl) (ps : List PV) : Prop := ∀ (I F M : Hp) (σ : L2.St), EnvOk I F M σ Γ → Dis M I → ∀ Q : List V → Hp → Prop, (∀ vs I', Ex I I' → Dis M I' → All2 (fun (p : PV) v => p.r I' v) ps vs → Q vs (ov M I')) → ta σ (ov M I) Q
theorem pvs_up {I I' : Hp} (e : Ex I I') {ps : List PV} {vs : List V} (h : All2 (fun (p : PV) v => p.r I v) ps vs) : All2 (fun (p : PV) v => p.r I' v) ps vs := h.imp fun p _ q => p.up e q
variable {Γ : List Sl} {p : PV} {ps : List PV} {te : TE} {ta : TA}
theorem ap_nil : AP tNil Γ [] := fun I F M σ e d Q k => k [] I (Ex.refl I) d .nil
theorem ap_cons (h : EP te Γ p) (t : AP ta Γ ps) : AP (tCons te ta) Γ (p :: ps) := fun I F M σ e d Q k =>
  h I F M σ e d _ fun v I1 a1 d1 r1 => t I1 F M σ (e.up a1) d1 _ fun vs I2 a2 d2 r2 => k (v :: vs) I2 (a1.trans a2) d2 (.cons (p.up a2 r1) r2)
/-- arguments that are checked or change what is owned: m gives a datum of them -/
def AM {S ρ : Type} (ta : TA) (Γ : S → List Sl) (m : Mn S ρ) (ps : ρ → List PV) : Prop := ∀ (s : S) (I F M : Hp) (σ : L2.St), EnvOk I F M σ (Γ s) → Dis M I → ∀ Q : List V → Hp → Prop,
  (m s).sat (fun x s' => ∀ vs I' M', Ex I I' → Dis M' I' → EnvOk I' F M' σ (Γ s') → All2 (fun (p : PV) v => p.r I' v) (ps x) vs → Q vs (ov M' I')) → ta σ (ov M I) Q
section
variable {S ρ α : Type} [Rp α] {Γ : S → List Sl} {te : TE} {ta : TA}
theorem am_p {f : S → ρ} {ps : ρ → List PV} (h : ∀ s, AP ta (Γ s) (ps (f s))) : AM ta Γ (mg f) ps := fun s I F M σ e d Q q => h s I F M σ e d Q fun vs I' a b c => q vs I' M a b (e.up a) c
theorem am_nil : AM (S := S) tNil Γ (mp ()) (fun _ => []) := fun s I F M σ e d Q k => k [] I M (Ex.refl I) d e .nil
theorem am_cons {m1 : Mn S α} {m2 : Mn S ρ} {ps : ρ → List PV} (h : EM K te Γ m1) (t : AM ta Γ m2 ps) : AM (tCons te ta) Γ (mb m1 fun x => mb m2 fun y => mp (x, y)) (fun z => pv K z.1 :: ps z.2) := fun s I F M σ e d Q q =>
  h s I F M σ e d _ (R.sat_imp (sat_mb.mp q) fun x s1 q v I1 M1 a1 d1 e1 r1 => t s1 I1 F M1 σ e1 d1 _ (R.sat_imp (sat_mb.mp q) fun y s2 q vs I2 M2 a2 d2 e2 r2 =>
    q (v :: vs) I2 M2 (a1.trans a2) d2 e2 (.cons (Rp.up a2 r1) r2)))
end

/-! ### displays -/
/-- values as one type -/
theorem rs_of {α : Type} [Rp α] {I : Hp} : ∀ {xs : List α} {vs : List V}, All2 (fun (p : PV) v => p.r I v) (xs.map (pv K)) vs → Rs K xs I vs
  | [], _, .nil => .nil
  | _ :: _, _, .cons h t => .cons h (rs_of t)
theorem sz2 {n : Nat} (h : n ≤ 1000) : n ≤ sizeLine := Nat.le_trans h (by decide)
theorem mk_list {α : Type} [Rp α] {xs : List α} {I M : Hp} {p : Addr} {vs : List V} (d : Dis M I) (hp : ov M I p = none) (h : Rs K xs I vs) : Ex I (upd I p (.lst vs)) ∧ Dis M (upd I p (.lst vs)) ∧ Rp.r K xs (upd I p (.lst vs)) (.ref p) ∧ upd (ov M I) p (.lst vs) = ov M (upd I p (.lst vs)) := by
  obtain ⟨h1, h2⟩ := ov_none hp
  exact ⟨Ex.new h2, dis_upd d h1, ⟨p, vs, rfl, upd_same, rs_up (Ex.new h2) h⟩, ov_upd h1⟩
theorem mk_tup {I M : Hp} {p : Addr} {vs : List V} (d : Dis M I) (hp : ov M I p = none) : Ex I (upd I p (.tup vs)) ∧ Dis M (upd I p (.tup vs)) ∧ SqT K (upd I p (.tup vs)) p vs ∧ upd (ov M I) p (.tup vs) = ov M (upd I p (.tup vs)) := by
  obtain ⟨h1, h2⟩ := ov_none hp
  exact ⟨Ex.new h2, dis_upd d h1, SqT.of upd_same, ov_upd h1⟩
theorem ep_lst {α : Type} [Rp α] {xs : List α} (h : AP ta Γ (xs.map (pv K))) (hl : xs.length ≤ 1000 := by decide) : EP (tLst ta) Γ (pv K xs) := fun I F M σ e d Q k => h I F M σ e d _ fun vs I1 a1 d1 r1 => by
  have r := rs_of r1
  refine ⟨by rw [← r.length]; exact sz2 hl, fun p hp => ?_⟩
  obtain ⟨x1, x2, x3, x4⟩ := mk_list d1 hp r
  rw [x4]
  exact k _ _ (a1.trans x1) x2 x3
theorem em_lst {S ρ α : Type} [Rp α] {Γ : S → List Sl} {m : Mn S ρ} {f : ρ → List α} (h : AM ta Γ m fun z => (f z).map (pv K)) (hl : ∀ z, (f z).length ≤ 1000 := by intro _; decide) : EM K (tLst ta) Γ (mb m fun z => mp (f z)) := fun s I F M σ e d Q q =>
  h s I F M σ e d _ (R.sat_imp (sat_mb.mp q) fun z s1 q vs I1 M1 a1 d1 e1 r1 => by
  have r := rs_of r1
  refine ⟨by rw [← r.length]; exact sz2 (hl z), fun p hp => ?_⟩
  obtain ⟨x1, x2, x3, x4⟩ := mk_list d1 hp r
  rw [x4]
  exact q _ _ _ (a1.trans x1) x2 (e1.up x1) x3)
/-- what a tuple of such values stands for -/
def TupOf (K : PySem.W.Frag) {α : Type} [Rp α] (ps : List PV) (x : α) : Prop := ps.length ≤ 1000 ∧ ∀ (I : Hp) (p : Addr) (vs : List V), All2 (fun (p : PV) v => p.r I v) ps vs → SqT K I p vs → Rp.r K x I (.ref p)
theorem tupTu {α : Type} [Rp α] {xs : List α} (hl : xs.length ≤ 1000 := by decide) : TupOf K (xs.map (pv K)) (Tu.mk xs) := ⟨by rw [List.length_map]; exact hl, fun I p vs h q => ⟨p, vs, rfl, q, rs_of h⟩⟩
theorem all2_c {α β : Type} {F : α → β → Prop} {a : α} {as : List α} {bs : List β} (h : All2 F (a :: as) bs) : ∃ b bs', bs = b :: bs' ∧ F a b ∧ All2 F as bs' := by
  cases h with
  | cons h t => exact ⟨_, _, rfl, h, t⟩
theorem all2_n {α β : Type} {F : α → β → Prop} {bs : List β} (h : All2 F [] bs) : bs = [] := by
  cases h with
  | nil => rfl
theorem tup2 {α β : Type} [Rp α] [Rp β] {x : α} {y : β} : TupOf K [pv K x, pv K y] (x, y) := ⟨Nat.le_of_ble_eq_true rfl, fun I p vs h q => by
  obtain ⟨v1, _, rfl, h1, h⟩ := all2_c h
  obtain ⟨v2, _, rfl, h2, h⟩ := all2_c h
  cases all2_n h
  exact ⟨p, _, _, rfl, q, h1, h2⟩⟩
theorem tup3 {α β γ : Type} [Rp α] [Rp β] [Rp γ] {x : α} {y : β} {z : γ} : TupOf K [pv K x, pv K y, pv K z] (T3.mk x y z) := ⟨Nat.le_of_ble_eq_true rfl, fun I p vs h q => by
  obtain ⟨v1, _, rfl, h1, h⟩ := all2_c h
  obtain ⟨v2, _, rfl, h2, h⟩ := all2_c h
  obtain ⟨v3, _, rfl, h3, h⟩ := all2_c h
  cases all2_n h
  exact ⟨p, _, _, _, rfl, q, h1, h2, h3⟩⟩
theorem tup4 {α β γ δ : Type} [Rp α] [Rp β] [Rp γ] [Rp δ] {x : α} {y : β} {z : γ} {w : δ} : TupOf K [pv K x, pv K y, pv K z, pv K w] (T4.mk x y z w) := ⟨Nat.le_of_ble_eq_true rfl, fun I p vs h q => by
  obtain ⟨v1, _, rfl, h1, h⟩ := all2_c h
  obtain ⟨v2, _, rfl, h2, h⟩ := all2_c h
  obtain ⟨v3, _, rfl, h3, h⟩ := all2_c h
  obtain ⟨v4, _, rfl, h4, h⟩ := all2_c h
  cases all2_n h
  exact ⟨p, _, _, _, _, rfl, q, h1, h2, h3, h4⟩⟩
theorem tup5 {α β γ δ ε : Type} [Rp α] [Rp β] [Rp γ] [Rp δ] [Rp ε] {x : α} {y : β} {z : γ} {w : δ} {u : ε} : TupOf K [pv K x, pv K y, pv K z, pv K w, pv K u] (T5.mk x y z w u) := ⟨Nat.le_of_ble_eq_true rfl, fun I p vs h q => by
  obtain ⟨v1, _, rfl, h1, h⟩ := all2_c h
  obtain ⟨v2, _, rfl, h2, h⟩ := all2_c h
  obtain ⟨v3, _, rfl, h3, h⟩ := all2_c h
  obtain ⟨v4, _, rfl, h4, h⟩ := all2_c h
  obtain ⟨v5, _, rfl, h5, h⟩ := all2_c h
  cases all2_n h
  exact ⟨p, _, _, _, _, _, rfl, q, h1, h2, h3, h4, h5⟩⟩
theorem ep_tup {α : Type} [Rp α] {x : α} (h : AP ta Γ ps) (t : TupOf K ps x) : EP (tTup ta) Γ (pv K x) := fun I F M σ e d Q k => h I F M σ e d _ fun vs I1 a1 d1 r1 => by
  refine ⟨by rw [← r1.length]; exact sz2 t.1, fun p hp => ?_⟩
  obtain ⟨x1, x2, x3, x4⟩ := mk_tup (K := K) (vs := vs) d1 hp
  rw [x4]
  exact k _ _ (a1.trans x1) x2 (t.2 _ _ _ (pvs_up x1 r1) x3)
theorem em_tup {S ρ α : Type} [Rp α] {Γ : S → List Sl} {m : Mn S ρ} {f : ρ → α} {ps : ρ → List PV} (h : AM ta Γ m ps) (t : ∀ z, TupOf K (ps z) (f z)) : EM K (tTup ta) Γ (mb m fun z => mp (f z)) := fun s I F M σ e d Q q =>
  h s I F M σ e d _ (R.sat_imp (sat_mb.mp q) fun z s1 q vs I1 M1 a1 d1 e1 r1 => by
  refine ⟨by rw [← r1.length]; exact sz2 (t z).1, fun p hp => ?_⟩
  obtain ⟨x1, x2, x3, x4⟩ := mk_tup (K := K) (vs := vs) d1 hp
  rw [x4]
  exact q _ _ _ (a1.trans x1) x2 (e1.up x1) ((t z).2 _ _ _ (pvs_up x1 r1) x3))
end

/-! ### items -/
section
variable {α : Type} [Rp α] {xs : List α} {i : Int} {x : α} {I M : Hp}
theorem rs_at {vs : List V} (h : Rs K xs I vs) (e : atI xs i = some x) : ∃ v, atI vs i = some v ∧ Rp.r K x I v := by
  obtain ⟨j, h1, h2⟩ := Option.bind_eq_some_iff.mp e
  obtain ⟨v, h3, h4⟩ := h.get h2
  exact ⟨v, Option.bind_eq_some_iff.mpr ⟨j, by rw [← h.length]; exact h1, h3⟩, h4⟩
theorem sql_ov {a : Addr} {vs : List V} (d : Dis M I) (h : SqL K I a vs) : SqL K (ov M I) a vs := sql_up (ex_ov d) h
theorem sqt_ov {a : Addr} {vs : List V} (d : Dis M I) (h : SqT K I a vs) : SqT K (ov M I) a vs := sqt_up (ex_ov d) h
theorem o_ixL (e : atI xs i = some x) : Op2 (rIxL K) (pv K xs) (pv K i) (pv K x) := fun I M u w Q d ⟨a, vs, h1, h2, h3⟩ hy k => by
  obtain ⟨v, q1, q2⟩ := rs_at h3 e
  exact ⟨a, vs, i, v, h1, hy, SqL.of (ex_ov d _ _ h2), q1, k v I (Ex.refl I) d q2⟩
theorem o_ixT (e : atI xs i = some x) : Op2 (rIxT K) (pv K (Tu.mk xs)) (pv K i) (pv K x) := fun I M u w Q d ⟨a, vs, h1, h2, h3⟩ hy k => by
  obtain ⟨v, q1, q2⟩ := rs_at h3 e
  exact ⟨a, vs, i, v, h1, hy, sqt_ov d h2, q1, k v I (Ex.refl I) d q2⟩
section
variable {S : Type} {Γ : S → List Sl} {ta tb : TE}
theorem em_ixL {m1 : Mn S (List α)} {m2 : Mn S Int} (ha : EM K ta Γ m1) (hb : EM K tb Γ m2) : EM K (tOp (rIxL K) ta tb) Γ (mb m1 fun xs => mb m2 fun i => mo (atI xs i)) := fun s I F M σ e d Q q =>
  ha s I F M σ e d _ (R.sat_imp (sat_mb.mp q) fun x s1 q v1 I1 M1 a1 d1 e1 r1 => hb s1 I1 F M1 σ e1 d1 _ (R.sat_imp (sat_mb.mp q) fun y s2 q v2 I2 M2 a2 d2 e2 r2 => by
    obtain ⟨z, hz, q⟩ := sat_mo.mp q
    exact o_ixL hz I2 M2 v1 v2 Q d2 (Rp.up a2 r1) r2 fun v I3 a3 d3 r3 => q v I3 M2 ((a1.trans a2).trans a3) d3 (e2.up a3) r3))
theorem em_ixLr {m1 : Mn S (List α)} (ha : EM K ta Γ m1) (hb : ∀ s, EP tb (Γ s) (pv K i)) : EM K (tOp (rIxL K) ta tb) Γ (mb m1 fun xs => mo (atI xs i)) := fun s I F M σ e d Q q =>
  ha s I F M σ e d _ (R.sat_imp (sat_mb.mp q) fun x s1 q v1 I1 M1 a1 d1 e1 r1 => hb s1 I1 F M1 σ e1 d1 _ fun v2 I2 a2 d2 r2 => by
    obtain ⟨z, hz, q⟩ := sat_mo.mp q
    exact o_ixL hz I2 M1 v1 v2 Q d2 (Rp.up a2 r1) r2 fun v I3 a3 d3 r3 => q v I3 M1 ((a1.trans a2).trans a3) d3 (e1.up (a2.trans a3)) r3)
theorem em_ixLp (ha : ∀ s, EP ta (Γ s) (pv K xs)) (hb : ∀ s, EP tb (Γ s) (pv K i)) : EM K (tOp (rIxL K) ta tb) Γ (mo (atI xs i)) := fun s I F M σ e d Q q => by
  obtain ⟨z, hz, q⟩ := sat_mo.mp q
  exact ep_op (ha s) (hb s) (o_ixL hz) I F M σ e d Q fun v I3 a3 d3 r3 => q v I3 M a3 d3 (e.up a3) r3
theorem em_ixLl {m2 : Mn S Int} (ha : ∀ s, EP ta (Γ s) (pv K xs)) (hb : EM K tb Γ m2) : EM K (tOp (rIxL K) ta tb) Γ (mb m2 fun i => mo (atI xs i)) := fun s I F M σ e d Q q =>
  ha s I F M σ e d _ fun v1 I1 a1 d1 r1 => hb s I1 F M σ (e.up a1) d1 _ (R.sat_imp (sat_mb.mp q) fun y s2 q v2 I2 M2 a2 d2 e2 r2 => by
    obtain ⟨z, hz, q⟩ := sat_mo.mp q
    exact o_ixL hz I2 M2 v1 v2 Q d2 (Rp.up a2 r1) r2 fun v I3 a3 d3 r3 => q v I3 M2 ((a1.trans a2).trans a3) d3 (e2.up a3) r3)
theorem em_ixTr {m1 : Mn S (Tu α)} (ha : EM K ta Γ m1) (hb : ∀ s, EP tb (Γ s) (pv K i)) : EM K (tOp (rIxT K) ta tb) Γ (mb m1 fun xs => mo (atI xs.l i)) := fun s I F M σ e d Q q =>
  ha s I F M σ e d _ (R.sat_imp (sat_mb.mp q) fun x s1 q v1 I1 M1 a1 d1 e1 r1 => hb s1 I1 F M1 σ e1 d1 _ fun v2 I2 a2 d2 r2 => by
    obtain ⟨z, hz, q⟩ := sat_mo.mp q
    exact o_ixT hz I2 M1 v1 v2 Q d2 (Rp.up a2 r1) r2 fun v I3 a3 d3 r3 => q v I3 M1 ((a1.trans a2).trans a3) d3 (e1.up (a2.trans a3)) r3)
theorem em_ixTp {t : Tu α} (ha : ∀ s, EP ta (Γ s) (pv K t)) (hb : ∀ s, EP tb (Γ s) (pv K i)) : EM K (tOp (rIxT K) ta tb) Γ (mo (atI t.l i)) := fun s I F M σ e d Q q => by
  obtain ⟨z, hz, q⟩ := sat_mo.mp q
  exact ep_op (ha s) (hb s) (o_ixT (xs := t.l) hz) I F M σ e d Q fun v I3 a3 d3 r3 => q v I3 M a3 d3 (e.up a3) r3
end
/-- a part of a written tuple -/
theorem o_pr {p w : PV} {i : Int} (h : ∀ I v, p.r I v → ∃ a vs u, v = V.ref a ∧ SqT K I a vs ∧ atI vs i = some u ∧ w.r I u) : Op2 (rIxT K) p (pv K i) w := fun I M x y Q d hx hy k => by
  obtain ⟨a, vs, u, h1, h2, h3, h4⟩ := h I x hx
  exact ⟨a, vs, i, u, h1, hy, sqt_ov d h2, h3, k u I (Ex.refl I) d h4⟩
theorem pr2_0 {α β : Type} [Rp α] [Rp β] {x : α × β} : Op2 (rIxT K) (pv K x) (pv K (0 : Int)) (pv K x.1) := o_pr fun I v ⟨a, v1, v2, h1, h2, h3, h4⟩ => ⟨a, _, v1, h1, h2, rfl, h3⟩
theorem pr2_1 {α β : Type} [Rp α] [Rp β] {x : α × β} : Op2 (rIxT K) (pv K x) (pv K (1 : Int)) (pv K x.2) := o_pr fun I v ⟨a, v1, v2, h1, h2, h3, h4⟩ => ⟨a, _, v2, h1, h2, rfl, h4⟩
theorem pr3_0 {α β γ : Type} [Rp α] [Rp β] [Rp γ] {x : T3 α β γ} : Op2 (rIxT K) (pv K x) (pv K (0 : Int)) (pv K x.a) := o_pr fun I v ⟨a, v1, v2, v3, h1, h2, h3, h4, h5⟩ => ⟨a, _, v1, h1, h2, rfl, h3⟩
theorem pr3_1 {α β γ : Type} [Rp α] [Rp β] [Rp γ] {x : T3 α β γ} : Op2 (rIxT K) (pv K x) (pv K (1 : Int)) (pv K x.b) := o_pr fun I v ⟨a, v1, v2, v3, h1, h2, h3, h4, h5⟩ => ⟨a, _, v2, h1, h2, rfl, h4⟩
theorem pr3_2 {α β γ : Type} [Rp α] [Rp β] [Rp γ] {x : T3 α β γ} : Op2 (rIxT K) (pv K x) (pv K (2 : Int)) (pv K x.c) := o_pr fun I v ⟨a, v1, v2, v3, h1, h2, h3, h4, h5⟩ => ⟨a, _, v3, h1, h2, rfl, h5⟩
/-- an item of an owned list of written values -/
theorem ep_hl {Γ : List Sl} {j : Nat} {vs : List V} {P : OP} {α : Type} [Rp α] {x : α} {tb : TE} {i : Int} {u : V} (hj : Γ[j]? = some (.ow P)) (hP : ∀ I a M, P.r I a M → M = sing a (.lst vs)) (hb : EP tb Γ (pv K i)) (e : atI vs i = some u) (hx : ∀ H, Rp.r K x H u) : EP (tOp (rIxL K) (tVar j) tb) Γ (pv K x) := fun I F M σ e1 d Q k => by
  obtain ⟨a, Ma, M', h1, h2, h3, h4, _⟩ := e1.foc hj
  refine ⟨_, h1, ?_⟩
  refine hb I F M σ e1 d _ fun v I1 a1 d1 r1 => ?_
  have em := hP _ _ _ h2
  refine ⟨a, vs, i, u, rfl, r1, SqL.of ?_, e, k u I1 a1 d1 (hx I1)⟩
  rw [h4, em]
  exact ov_l (ov_l sing_same)
theorem hl_at {vs : List V} {v : V} : ∀ I a M, ((hl vs).at v).r I a M → M = sing a (.lst vs) := fun _ _ _ h => h.2
theorem hl_self {vs : List V} : ∀ I a M, (hl vs).r I a M → M = sing a (.lst vs) := fun _ _ _ h => h
end
end
end Mir

/-! Mir4: promises by mirrors, calls; statements; loops; comprehensions -/
namespace Mir
open PySem L2

/-! ### more of slots -/
section
variable {I F N : Hp} {σ : L2.St} {Γ : List Sl}
theorem EnvOk.ims {ps : List PV} {vs : List V} : All2 (fun (p : PV) v => p.r I v) ps vs → EnvOk I F F (vs.map some) (ps.map Sl.im)
  | .nil => .nil
  | .cons h t => .im h (EnvOk.ims t)
theorem EnvOk.of_ims : ∀ {ps : List PV} {N : Hp} {σ : L2.St}, EnvOk I F N σ (ps.map Sl.im) → N = F
  | [], _, _, .nil => rfl
  | _ :: _, _, _, .im _ h => EnvOk.of_ims h
theorem EnvOk.nos : ∀ {k : Nat} {N : Hp} {σ : L2.St}, EnvOk I F N σ (List.replicate k .no) → N = F
  | 0, _, _, .nil => rfl
  | _ + 1, _, _, .no _ h => EnvOk.nos h
theorem EnvOk.app : ∀ {N : Hp} {σ : L2.St} {Γ : List Sl}, EnvOk I F N σ Γ → ∀ k : Nat, EnvOk I F N (σ ++ List.replicate k none) (Γ ++ List.replicate k .no)
  | _, _, _, .nil, 0 => .nil
  | _, _, _, .nil, k + 1 => .no none (EnvOk.app .nil k)
  | _, _, _, .no o h, k => .no o (EnvOk.app h k)
  | _, _, _, .im q h, k => .im q (EnvOk.app h k)
  | _, _, _, .ow q d h, k => .ow q d (EnvOk.app h k)
/-- more is owned besides -/
theorem EnvOk.frame {G : Hp} : ∀ {N : Hp} {σ : L2.St} {Γ : List Sl}, EnvOk I F N σ Γ → Dis G N → EnvOk I (ov G F) (ov G N) σ Γ
  | _, _, _, .nil, _ => .nil
  | _, _, _, .no o h, d => .no o (EnvOk.frame h d)
  | _, _, _, .im q h, d => .im q (EnvOk.frame h d)
  | _, _, _, .ow (Ma := Ma) (M := N) q d' h, d => by
    obtain ⟨d1, d2⟩ := dis_r_ov d
    have e : ov G (ov Ma N) = ov Ma (ov G N) := by rw [ov_assoc, ov_assoc, ov_comm d1]
    rw [e]
    exact .ow q (dis_ov_r d1.symm d') (EnvOk.frame h d2)
theorem EnvOk.unframe {G : Hp} (dF : Dis G F) : ∀ {N : Hp} {σ : L2.St} {Γ : List Sl}, EnvOk I (ov G F) N σ Γ → ∃ N', N = ov G N' ∧ Dis G N' ∧ EnvOk I F N' σ Γ
  | _, _, _, .nil => ⟨F, rfl, dF, .nil⟩
  | _, _, _, .no o h => by
    obtain ⟨N', h1, h2, h3⟩ := EnvOk.unframe dF h
    exact ⟨N', h1, h2, .no o h3⟩
  | _, _, _, .im q h => by
    obtain ⟨N', h1, h2, h3⟩ := EnvOk.unframe dF h
    exact ⟨N', h1, h2, .im q h3⟩
  | _, _, _, .ow (Ma := Ma) q d h => by
    obtain ⟨N', h1, h2, h3⟩ := EnvOk.unframe dF h
    subst h1
    obtain ⟨d1, d2⟩ := dis_r_ov d
    exact ⟨ov Ma N', by rw [ov_assoc, ov_assoc, ov_comm d1], dis_ov_r d1.symm h2, .ow q d2 h3⟩
end

/-! ### promises -/
/-- a parameter: a value, or something owned, by the state -/
inductive Ar (S : Type) where
  | im (p : PV)
  | ow (P : S → OP)
def Ar.sl {S : Type} (s : S) : Ar S → Sl
  | .im p => .im p
  | .ow P => .ow (P s)
/-- how a value is handed back: by what is known of it | as something owned -/
abbrev RetT (ρ : Type) := ρ → V → Hp → Hp → Hp → Prop
def rIm (K : PySem.W.Frag) {ρ : Type} [Rp ρ] : RetT ρ := fun x v I N H => Dis N I ∧ H = ov N I ∧ Rp.r K x I v
def rOw {ρ : Type} (P : ρ → OP) : RetT ρ := fun x v I N H => ∃ a Ma, v = V.ref a ∧ Dis Ma N ∧ Dis (ov Ma N) I ∧ H = ov (ov Ma N) I ∧ (P x).r I a Ma
/-- called with such arguments it does what the mirror does -/
def Prom {S ρ ι : Type} (Ret : RetT ρ) (As : ι → List (Ar S)) (m : ι → Mn S ρ) : Sp := fun vs H Q _ => ∃ (i : ι) (s : S) (I F N : Hp), H = ov N I ∧ Dis N I ∧ EnvOk I F N (vs.map some) ((As i).map (Ar.sl s)) ∧
  (m i s).sat fun x s' => ∀ v H' I' N', Ex I I' → EnvOk I' F N' (vs.map some) ((As i).map (Ar.sl s')) → Ret x v I' N' H' → Q v H'
theorem prom_len {S ρ ι : Type} {Ret : RetT ρ} {As : ι → List (Ar S)} {m : ι → Mn S ρ} {n : Nat} (h : ∀ i, (As i).length = n) : ∀ vs H Q E, Prom Ret As m vs H Q E → vs.length = n := fun vs H Q E ⟨i, s, I, F, N, _, _, e, _⟩ => by
  have l := e.len
  rw [List.length_map, List.length_map, h i] at l
  exact l

section
variable {K : PySem.W.Frag}
/-! ### calls -/
section
variable {S S' ρ ι ζ α : Type} {Γ : S → List Sl} {ta tk : TA} {E : XK} {i : ι} {ps : List PV}
theorem call_all {Ret : RetT ρ} {As : ι → List (Ar Unit)} {m : ι → Mn Unit ρ} {I N : Hp} {vs : List V} {Q : VK} (d : Dis N I) (r : All2 (fun (p : PV) v => p.r I v) ps vs) (hA : (As i).map (Ar.sl ()) = ps.map Sl.im)
    (q : (m i ()).sat fun x _ => ∀ v H' I', Ex I I' → Ret x v I' N H' → Q v H') : Prom Ret As m vs (ov N I) Q E := by
  refine ⟨i, (), I, N, N, rfl, d, ?_, R.sat_imp q fun x s' q v H' I' N' a1 e1 r1 => ?_⟩
  · rw [hA]; exact EnvOk.ims r
  · cases s'
    rw [hA] at e1
    cases EnvOk.of_ims e1
    exact q v H' I' a1 r1
/-- what an expression hands back: a value, or something owned -/
def EO {S ρ : Type} (te : TE) (Γ : S → List Sl) (m : Mn S ρ) (Ret : RetT ρ) : Prop := ∀ (s : S) (I F N : Hp) (σ : L2.St), EnvOk I F N σ (Γ s) → Dis N I → ∀ Q : VK,
  (m s).sat (fun x s' => ∀ v H' I' N', Ex I I' → EnvOk I' F N' σ (Γ s') → Ret x v I' N' H' → Q v H') → te σ (ov N I) Q
theorem em_of_eo [Rp α] {te : TE} {m : Mn S α} (h : EO te Γ m (rIm K)) : EM K te Γ m := fun s I F N σ e d Q q => h s I F N σ e d Q (R.sat_imp q fun x s' q v H' I' N' a1 e1 ⟨d1, h1, r1⟩ => by
  rw [h1]
  exact q v I' N' a1 d1 e1 r1)
/-- all arguments known -/
theorem eo_call0 {Ret : RetT ρ} {As : ι → List (Ar Unit)} {m : ι → Mn Unit ρ} (h : ∀ s, AP ta (Γ s) ps) (hA : (As i).map (Ar.sl ()) = ps.map Sl.im) : EO (tCall (Prom Ret As m) [] E ta) Γ (mu (m i)) Ret := fun s I F N σ e d Q q =>
  h s I F N σ e d _ fun vs I1 a1 d1 r1 => by
    show Prom Ret As m (vs ++ []) _ _ _
    rw [List.append_nil]
    exact call_all d1 r1 hA (R.sat_imp (sat_mu.mp q) fun x _ q v H' I' a2 r2 => q v H' I' N (a1.trans a2) (e.up (a1.trans a2)) r2)
theorem eo_call0M {Ret : RetT ρ} {As : ι → List (Ar Unit)} {m : ι → Mn Unit ρ} {mm : Mn S ζ} {psf : ζ → List PV} {f : ζ → ι} (h : AM ta Γ mm psf) (hA : ∀ z, (As (f z)).map (Ar.sl ()) = (psf z).map Sl.im) : EO (tCall (Prom Ret As m) [] E ta) Γ (mb mm fun z => mu (m (f z))) Ret := fun s I F N σ e d Q q =>
  h s I F N σ e d _ (R.sat_imp (sat_mb.mp q) fun z s1 q vs I1 N1 a1 d1 e1 r1 => by
    show Prom Ret As m (vs ++ []) _ _ _
    rw [List.append_nil]
    exact call_all d1 r1 (hA z) (R.sat_imp (sat_mu.mp q) fun x _ q v H' I' a2 r2 => q v H' I' N1 (a1.trans a2) (e1.up a2) r2))
/-- by names alone: gV puts the values in the parameters' order -/
theorem eo_callK {Ret : RetT ρ} {As : ι → List (Ar Unit)} {m : ι → Mn Unit ρ} {gV : List V → List V → List V} {qs : List PV} (h : ∀ s, AP tk (Γ s) ps) (hg : ∀ I vs, All2 (fun (p : PV) v => p.r I v) ps vs → All2 (fun (p : PV) v => p.r I v) qs (gV [] vs)) (hA : (As i).map (Ar.sl ()) = qs.map Sl.im) :
    EO (tCallK (Prom Ret As m) gV E tNil tk) Γ (mu (m i)) Ret := fun s I F N σ e d Q q =>
  h s I F N σ e d _ fun vs I1 a1 d1 r1 => call_all d1 (hg _ _ r1) hA (R.sat_imp (sat_mu.mp q) fun x _ q v H' I' a2 r2 => q v H' I' N (a1.trans a2) (e.up (a1.trans a2)) r2)
theorem eo_callKM {Ret : RetT ρ} {As : ι → List (Ar Unit)} {m : ι → Mn Unit ρ} {gV : List V → List V → List V} {mm : Mn S ζ} {psf qsf : ζ → List PV} {f : ζ → ι} (h : AM tk Γ mm psf) (hg : ∀ z I vs, All2 (fun (p : PV) v => p.r I v) (psf z) vs → All2 (fun (p : PV) v => p.r I v) (qsf z) (gV [] vs)) (hA : ∀ z, (As (f z)).map (Ar.sl ()) = (qsf z).map Sl.im) :
    EO (tCallK (Prom Ret As m) gV E tNil tk) Γ (mb mm fun z => mu (m (f z))) Ret := fun s I F N σ e d Q q =>
  h s I F N σ e d _ (R.sat_imp (sat_mb.mp q) fun z s1 q vs I1 N1 a1 d1 e1 r1 => call_all d1 (hg z _ _ r1) (hA z) (R.sat_imp (sat_mu.mp q) fun x _ q v H' I' a2 r2 => q v H' I' N1 (a1.trans a2) (e1.up a2) r2))
/-- an argument: a value, or what a slot owns -/
inductive AK where
  | im (p : PV)
  | sl (j : Nat)
def AkOk (σ : L2.St) (I : Hp) (k : AK) (v : V) : Prop := match k with
  | .im p => p.r I v
  | .sl j => σ[j]? = some (some v)
def AKm (ta : TA) (Γ : S → List Sl) (m : Mn S ζ) (ks : ζ → List AK) : Prop := ∀ (s : S) (I F N : Hp) (σ : L2.St), EnvOk I F N σ (Γ s) → Dis N I → ∀ Q : List V → Hp → Prop,
  (m s).sat (fun x s' => ∀ vs I' N', Ex I I' → Dis N' I' → EnvOk I' F N' σ (Γ s') → All2 (AkOk σ I') (ks x) vs → Q vs (ov N' I')) → ta σ (ov N I) Q
theorem akOk_up {σ : L2.St} {I I' : Hp} (e : Ex I I') {ks : List AK} {vs : List V} (h : All2 (AkOk σ I) ks vs) : All2 (AkOk σ I') ks vs := h.imp fun k v q => by
  cases k with
  | im p => exact p.up e q
  | sl j => exact q
theorem ak_nil : AKm tNil Γ (mp ()) fun _ => [] := fun s I F N σ e d Q k => k [] I N (Ex.refl I) d e .nil
theorem ak_sl {te : TE} {j : Nat} {P : S → OP} {m : Mn S ζ} {ks : ζ → List AK} (hj : ∀ s, (Γ s)[j]? = some (.ow (P s))) (t : AKm ta Γ m ks) : AKm (tCons (tVar j) ta) Γ m fun z => .sl j :: ks z := fun s I F N σ e d Q q => by
  obtain ⟨a, Ma, M', h1, _⟩ := e.foc (hj s)
  refine ⟨_, h1, ?_⟩
  exact t s I F N σ e d _ (R.sat_imp q fun z s1 q vs I1 N1 a1 d1 e1 r1 => q _ I1 N1 a1 d1 e1 (.cons h1 r1))
theorem ak_p {te : TE} {p : PV} {m : Mn S ζ} {ks : ζ → List AK} (h : ∀ s, EP te (Γ s) p) (t : AKm ta Γ m ks) : AKm (tCons te ta) Γ m fun z => .im p :: ks z := fun s I F N σ e d Q q =>
  h s I F N σ e d _ fun v I1 a1 d1 r1 => t s I1 F N σ (e.up a1) d1 _ (R.sat_imp q fun z s1 q vs I2 N2 a2 d2 e2 r2 => q _ I2 N2 (a1.trans a2) d2 e2 (.cons (p.up a2 r1) r2))
theorem ak_m [Rp α] {te : TE} {m1 : Mn S α} {m : Mn S ζ} {ks : ζ → List AK} (h : EM K te Γ m1) (t : AKm ta Γ m ks) : AKm (tCons te ta) Γ (mb m1 fun x => mb m fun z => mp (x, z)) fun y => .im (pv K y.1) :: ks y.2 := fun s I F N σ e d Q q =>
  h s I F N σ e d _ (R.sat_imp (sat_mb.mp q) fun x s1 q v I1 N1 a1 d1 e1 r1 => t s1 I1 F N1 σ e1 d1 _ (R.sat_imp (sat_mb.mp q) fun z s2 q vs I2 N2 a2 d2 e2 r2 => q _ I2 N2 (a1.trans a2) d2 e2 (.cons (Rp.up a2 r1) r2)))
/-- one argument is owned, that of slot j -/
def OneSl (j : Nat) : List AK → Prop
  | [] => False
  | .im _ :: ks => OneSl j ks
  | .sl i :: ks => i = j ∧ ∃ ps : List PV, ks = ps.map AK.im
def AK.to (P : OP) : AK → Sl
  | .im p => .im p
  | .sl _ => .ow P
theorem ak_ims {σ : L2.St} {I : Hp} : ∀ {ps : List PV} {vs : List V}, All2 (AkOk σ I) (ps.map AK.im) vs → All2 (fun (p : PV) v => p.r I v) ps vs
  | [], _, .nil => .nil
  | _ :: _, _, .cons h t => .cons h (ak_ims t)
theorem to_ims (P : OP) : ∀ ps : List PV, (ps.map AK.im).map (AK.to P) = ps.map Sl.im
  | [] => rfl
  | p :: ps => congrArg (Sl.im p :: ·) (to_ims P ps)
theorem one_in {σ : L2.St} {I F : Hp} {j : Nat} {P : OP} {a : Addr} {Ma : Hp} (hj : σ[j]? = some (some (.ref a))) (hP : P.r I a Ma) (d : Dis Ma F) : ∀ {ks : List AK} {vs : List V}, OneSl j ks → All2 (AkOk σ I) ks vs → EnvOk I F (ov Ma F) (vs.map some) (ks.map (AK.to P))
  | .im _ :: _, _, o, .cons h t => .im h (one_in hj hP d o t)
  | .sl _ :: _, v :: vs, ⟨e, ps, e2⟩, .cons h t => by
    subst e e2
    have h1 : σ[_]? = some (some v) := h
    rw [hj] at h1
    cases h1
    refine .ow hP d ?_
    rw [to_ims]
    exact EnvOk.ims (ak_ims t)
theorem one_out {σ : L2.St} {I I' F N : Hp} {j : Nat} {P : OP} {a : Addr} (hj : σ[j]? = some (some (.ref a))) : ∀ {ks : List AK} {vs : List V}, OneSl j ks → All2 (AkOk σ I) ks vs → EnvOk I' F N (vs.map some) (ks.map (AK.to P)) → ∃ Ma, N = ov Ma F ∧ Dis Ma F ∧ P.r I' a Ma
  | .im p :: ks, v :: vs, o, .cons h t, e => by
    have e2 : EnvOk I' F N (some v :: vs.map some) (.im p :: ks.map (AK.to P)) := e
    cases e2 with
    | im _ e3 => exact one_out (ks := ks) hj o t e3
  | .sl _ :: _, v :: vs, ⟨e, ps, e2⟩, .cons h t, e3 => by
    subst e e2
    have h1 : σ[_]? = some (some v) := h
    rw [hj] at h1
    cases h1
    have e4 : EnvOk I' F N (some (V.ref a) :: vs.map some) (.ow P :: (ps.map AK.im).map (AK.to P)) := e3
    rw [to_ims] at e4
    cases e4 with
    | ow q d e5 =>
      cases EnvOk.of_ims e5
      exact ⟨_, rfl, d, q⟩
/-- what a slot owns is what the callee wants, and stays so -/
def Cv (P Pc : S' → OP) : Prop := ∀ s I a Ma, (Pc s).r I a Ma → (P s).r I a Ma ∧ ∀ s' I' Ma', (P s').r I' a Ma' → (Pc s').r I' a Ma'
theorem cv_rfl {P : S' → OP} : Cv P P := fun _ _ _ _ h => ⟨h, fun _ _ _ q => q⟩
theorem cv_at {P : S' → OP} {v : V} : Cv P fun s => (P s).at v := fun _ _ _ _ h => ⟨h.2, fun _ _ _ q => ⟨h.1, q⟩⟩
/-- one argument is owned -/
theorem eo_call1 {Ret : RetT ρ} {As : ι → List (Ar S')} {m : ι → Mn S' ρ} {mm : Mn S ζ} {ks : ζ → List AK} {f : ζ → ι} {j : Nat} {P Pc : S' → OP} {g : S → S'} {p : S → S' → S} (h : AKm ta Γ mm ks) (o : ∀ z, OneSl j (ks z)) (cv : Cv P Pc) (hj : ∀ s, (Γ s)[j]? = some (.ow (Pc (g s))))
    (hp : ∀ s s', (Γ s).set j (.ow (Pc s')) = Γ (p s s')) (hA : ∀ z s', (As (f z)).map (Ar.sl s') = (ks z).map (AK.to (P s'))) : EO (tCall (Prom Ret As m) [] E ta) Γ (mb mm fun z => ml g p (m (f z))) Ret := fun s I F N σ e d Q q =>
  h s I F N σ e d _ (R.sat_imp (sat_mb.mp q) fun z s1 q vs I1 N1 a1 d1 e1 r1 => by
    show Prom Ret As m (vs ++ []) _ _ _
    rw [List.append_nil]
    obtain ⟨a, Ma, M', h1, h2, h3, h4, h5, _⟩ := e1.foc (hj s1)
    obtain ⟨c1, c2⟩ := cv _ _ _ _ h2
    subst h4
    refine ⟨f z, g s1, I1, M', ov Ma M', rfl, d1, ?_, R.sat_imp (sat_ml.mp q) fun x s2 q v H2 I2 N2 a2 e2 r2 => ?_⟩
    · rw [hA z]
      exact one_in h1 c1 h3 (o z) r1
    · rw [hA z] at e2
      obtain ⟨Mb, h6, h7, h8⟩ := one_out h1 (o z) r1 e2
      subst h6
      refine q v H2 I2 _ (a1.trans a2) ?_ r2
      rw [← hp]
      exact h5 I2 _ Mb a2 h7 (c2 _ _ _ h8))
end

/-! ### statements -/
/-- a statement that goes on, behind it x and the slots by x and the state -/
def RP {S τ : Type} (t : TS) (Γ : S → List Sl) (m : Mn S τ) (Γ' : τ → S → List Sl) : Prop := ∀ (s : S) (I F N : Hp) (σ : L2.St), EnvOk I F N σ (Γ s) → Dis N I → ∀ D : Ends,
  (m s).sat (fun x s' => ∀ I' N' σ', Ex I I' → Dis N' I' → EnvOk I' F N' σ' (Γ' x s') → D.nx σ' (ov N' I')) → t D σ (ov N I)
/-- statements that end in a return -/
def RT {S ρ : Type} (Ret : RetT ρ) (t : TS) (Γ : S → List Sl) (m : Mn S ρ) (Γr : S → List Sl) : Prop := ∀ (s : S) (I F N : Hp) (σ : L2.St), EnvOk I F N σ (Γ s) → Dis N I → ∀ D : Ends,
  (m s).sat (fun x s' => ∀ v H' I' N' σ', Ex I I' → EnvOk I' F N' σ' (Γr s') → Ret x v I' N' H' → D.rt v H') → t D σ (ov N I)
/-- .. or at the def's end -/
def RN {S ρ : Type} (Ret : RetT ρ) (t : TS) (Γ : S → List Sl) (m : Mn S ρ) (Γr : S → List Sl) : Prop := ∀ (s : S) (I F N : Hp) (σ : L2.St), EnvOk I F N σ (Γ s) → Dis N I → ∀ D : Ends, (∀ σ H, D.rt .non H → D.nx σ H) →
  (m s).sat (fun x s' => ∀ v H' I' N' σ', Ex I I' → EnvOk I' F N' σ' (Γr s') → Ret x v I' N' H' → D.rt v H') → t D σ (ov N I)
/-- ways out of a statement -/
inductive Ct (ρ τ β : Type) where
  | rt (x : ρ)
  | nx (t : τ)
  | br (b : β)
def CtQ {S ρ τ β : Type} (Ret : RetT ρ) (D : Ends) (F : Hp) (Γr : S → List Sl) (Γn : τ → S → List Sl) (Γb : β → S → List Sl) (I : Hp) (c : Ct ρ τ β) (s' : S) : Prop :=
  match c with
    | .rt x => ∀ v H' I' N' σ', Ex I I' → EnvOk I' F N' σ' (Γr s') → Ret x v I' N' H' → D.rt v H'
    | .nx x => ∀ I' N' σ', Ex I I' → Dis N' I' → EnvOk I' F N' σ' (Γn x s') → D.nx σ' (ov N' I')
    | .br x => ∀ I' N' σ', Ex I I' → Dis N' I' → EnvOk I' F N' σ' (Γb x s') → D.bk σ' (ov N' I')
def CxQ {S ρ τ β : Type} (Ret : RetT ρ) (D : Ends) (F : Hp) (Γr : S → List Sl) (Γb : β → S → List Sl) (I : Hp) (c : Ct ρ τ β) (s' : S) : Prop :=
  match c with
    | .rt x => ∀ v H' I' N' σ', Ex I I' → EnvOk I' F N' σ' (Γr s') → Ret x v I' N' H' → D.rt v H'
    | .nx x => True
    | .br x => ∀ I' N' σ', Ex I I' → Dis N' I' → EnvOk I' F N' σ' (Γb x s') → D.bk σ' (ov N' I')
def RC {S ρ τ β : Type} (Ret : RetT ρ) (t : TS) (Γ : S → List Sl) (m : Mn S (Ct ρ τ β)) (Γr : S → List Sl) (Γn : τ → S → List Sl) (Γb : β → S → List Sl) : Prop := ∀ (s : S) (I F N : Hp) (σ : L2.St), EnvOk I F N σ (Γ s) → Dis N I → ∀ D : Ends,
  (m s).sat (CtQ Ret D F Γr Γn Γb I) → t D σ (ov N I)
/-- .. that doesn't go on behind itself -/
def RX {S ρ τ β : Type} (Ret : RetT ρ) (t : TS) (Γ : S → List Sl) (m : Mn S (Ct ρ τ β)) (Γr : S → List Sl) (Γb : β → S → List Sl) : Prop := ∀ (s : S) (I F N : Hp) (σ : L2.St), EnvOk I F N σ (Γ s) → Dis N I → ∀ D : Ends,
  (m s).sat (CxQ Ret D F Γr Γb I) → t D σ (ov N I)
section
variable {S ρ τ τ' β α : Type} {Ret : RetT ρ} [Rp α] {t t1 t2 : TS} {te : TE} {tc : TT} {Γ Γr Γ1 : S → List Sl} {Γ' Γ2 : τ → S → List Sl} {Γt : τ' → S → List Sl}
theorem rn_of {m : Mn S ρ} (h : RT Ret t Γ m Γr) : RN Ret t Γ m Γr := fun s I F N σ e d D _ q => h s I F N σ e d D q
/-- forgetting ahead -/
theorem rp_pre {m : Mn S τ} (w : ∀ s, Wk (Γ s) (Γ1 s)) (h : RP t Γ1 m Γ') : RP t Γ m Γ' := fun s I F N σ e d D q => by
  obtain ⟨I1, N1, x1, x2, x3, x4⟩ := e.wk (w s) d
  rw [← x3]
  exact h s I1 F N1 σ x4 x2 D (R.sat_imp q fun x s' q I' N' σ' a1 d1 e1 => q I' N' σ' (x1.trans a1) d1 e1)
theorem rt_pre {m : Mn S ρ} (w : ∀ s, Wk (Γ s) (Γ1 s)) (h : RT Ret t Γ1 m Γr) : RT Ret t Γ m Γr := fun s I F N σ e d D q => by
  obtain ⟨I1, N1, x1, x2, x3, x4⟩ := e.wk (w s) d
  rw [← x3]
  exact h s I1 F N1 σ x4 x2 D (R.sat_imp q fun x s' q v H' I' N' σ' a1 e1 r1 => q v H' I' N' σ' (x1.trans a1) e1 r1)
theorem rn_pre {m : Mn S ρ} (w : ∀ s, Wk (Γ s) (Γ1 s)) (h : RN Ret t Γ1 m Γr) : RN Ret t Γ m Γr := fun s I F N σ e d D hn q => by
  obtain ⟨I1, N1, x1, x2, x3, x4⟩ := e.wk (w s) d
  rw [← x3]
  exact h s I1 F N1 σ x4 x2 D hn (R.sat_imp q fun x s' q v H' I' N' σ' a1 e1 r1 => q v H' I' N' σ' (x1.trans a1) e1 r1)
/-- forgetting behind -/
theorem rp_post {m : Mn S τ} {f : τ → τ'} (h : RP t Γ m Γ') (w : ∀ x s, Wk (Γ' x s) (Γt (f x) s)) : RP t Γ (mb m fun x => mp (f x)) Γt := fun s I F N σ e d D q =>
  h s I F N σ e d D (R.sat_imp (sat_mb.mp q) fun x s' q I' N' σ' a1 d1 e1 => by
    obtain ⟨I1, N1, x1, x2, x3, x4⟩ := e1.wk (w x s') d1
    rw [← x3]
    exact q I1 N1 σ' (a1.trans x1) x2 x4)
theorem rp_next {x : τ} (w : ∀ s, Wk (Γ s) (Γ' x s)) : RP tNext Γ (mp x) Γ' := fun s I F N σ e d D q => by
  obtain ⟨I1, N1, x1, x2, x3, x4⟩ := e.wk (w s) d
  show D.nx σ (ov N I)
  rw [← x3]
  exact q I1 N1 σ x1 x2 x4
theorem rp_never : RP (τ := τ) tNever Γ mbad Γ' := fun s I F N σ e d D q => q
theorem rt_never : RT Ret tNever Γ (mbad : Mn S ρ) Γr := fun s I F N σ e d D q => q
theorem rc_never {Γb : β → S → List Sl} : RC Ret (ρ := ρ) (τ := τ) (β := β) tNever Γ mbad Γr Γ' Γb := fun s I F N σ e d D q => q
theorem rx_never {Γb : β → S → List Sl} : RX Ret (ρ := ρ) (τ := τ) (β := β) tNever Γ mbad Γr Γb := fun s I F N σ e d D q => q
theorem rt_ret {m : Mn S α} (h : EM K te Γ m) (w : ∀ s, Wk (Γ s) (Γr s)) : RT (rIm K) (tRet te) Γ m Γr := fun s I F N σ e d D q =>
  h s I F N σ e d _ (R.sat_imp q fun x s' q v I' N' a1 d1 e1 r1 => by
    obtain ⟨I1, N1, x1, x2, x3, x4⟩ := e1.wk (w s') d1
    exact q v _ I1 N1 σ (a1.trans x1) x4 ⟨x2, x3.symm, Rp.up x1 r1⟩)
/-- something owned is handed on -/
theorem rt_reto {m : Mn S ρ} {P : ρ → OP} (h : EO te Γ m (rOw P)) (w : ∀ s, Wk (Γ s) (Γr s)) : RT (rOw P) (tRet te) Γ m Γr := fun s I F N σ e d D q =>
  h s I F N σ e d _ (R.sat_imp q fun x s' q v H' I' N' a1 e1 ⟨a, Ma, h1, h2, h3, h4, h5⟩ => by
    obtain ⟨y1, y2⟩ := dis_ov_l h3
    obtain ⟨I1, N1, x1, x2, x3, x4⟩ := e1.wk (w s') y2
    have z := dis_ov_r h2 y1
    rw [← x3] at z
    obtain ⟨z1, z2⟩ := dis_r_ov z
    refine q v H' I1 N1 σ (a1.trans x1) x4 ⟨a, Ma, h1, z1, dis_ov z2 x2, ?_, (P x).up x1 h5⟩
    rw [h4, ← ov_assoc, ← ov_assoc, x3])
/-- what a slot owns is handed on -/
theorem rt_retv {i : Nat} {P Pr : S → OP} {f : S → ρ} {Pρ : ρ → OP} (hi : ∀ s, (Γ s)[i]? = some (.ow (P s))) (hP : ∀ s I a Ma, (P s).r I a Ma → (Pρ (f s)).r I a Ma) (w : ∀ s, Wk ((Γ s).set i .no) (Γr s)) : RT (rOw Pρ) (tRet (tVar i)) Γ (mg f) Γr := fun s I F N σ e d D q => by
  obtain ⟨a, Ma, M', h1, h2, h3, h4, h5, h6, h7⟩ := e.foc (hi s)
  subst h4
  refine ⟨_, h1, ?_⟩
  obtain ⟨y1, y2⟩ := dis_ov_l d
  obtain ⟨I1, N1, x1, x2, x3, x4⟩ := (h7 I (Ex.refl I)).wk (w s) y2
  have z := dis_ov_r h3 y1
  rw [← x3] at z
  obtain ⟨z1, z2⟩ := dis_r_ov z
  refine q _ _ I1 N1 σ x1 x4 ⟨a, Ma, rfl, z1, dis_ov z2 x2, ?_, (Pρ (f s)).up x1 (hP s _ _ _ h2)⟩
  rw [← ov_assoc, ← ov_assoc, x3]
theorem rt_retN (w : ∀ s, Wk (Γ s) (Γr s)) : RT (rIm K) tRetN Γ (mp ()) Γr := fun s I F N σ e d D q => by
  obtain ⟨I1, N1, x1, x2, x3, x4⟩ := e.wk (w s) d
  exact q _ _ I1 N1 σ x1 x4 ⟨x2, x3.symm, rfl⟩
theorem rc_ret {Γb : β → S → List Sl} {m : Mn S ρ} (h : RT Ret t Γ m Γr) : RC Ret (τ := τ) (β := β) t Γ (mb m fun x => mp (.rt x)) Γr Γ' Γb := fun s I F N σ e d D q => h s I F N σ e d D (sat_mb.mp q)
theorem rx_ret {Γb : β → S → List Sl} {m : Mn S ρ} (h : RT Ret t Γ m Γr) : RX Ret (τ := τ) (β := β) t Γ (mb m fun x => mp (.rt x)) Γr Γb := fun s I F N σ e d D q => h s I F N σ e d D (sat_mb.mp q)
theorem rx_brk {Γb : β → S → List Sl} {b : β} (w : ∀ s, Wk (Γ s) (Γb b s)) : RX Ret (ρ := ρ) (τ := τ) tBreak Γ (mp (.br b)) Γr Γb := fun s I F N σ e d D q => by
  obtain ⟨I1, N1, x1, x2, x3, x4⟩ := e.wk (w s) d
  show D.bk σ (ov N I)
  rw [← x3]
  exact q I1 N1 σ x1 x2 x4
theorem rc_of_x {Γb : β → S → List Sl} {m : Mn S (Ct ρ τ β)} (h : RX Ret t Γ m Γr Γb) : RC Ret t Γ m Γr Γ' Γb := fun s I F N σ e d D q => h s I F N σ e d D (R.sat_imp q fun c s' q => by
  cases c with
  | rt x => exact q
  | nx x => trivial
  | br x => exact q)
theorem rc_of_p {Γb : β → S → List Sl} {m : Mn S τ} (h : RP t Γ m Γ') : RC Ret (ρ := ρ) t Γ (mb m fun x => mp (.nx x)) Γr Γ' Γb := fun s I F N σ e d D q => h s I F N σ e d D (sat_mb.mp q)
/-! statements in a row -/
theorem rp_seq {m1 : Mn S τ'} {m2 : τ' → Mn S τ} (h1 : RP t1 Γ m1 Γt) (h2 : ∀ x, RP t2 (Γt x) (m2 x) Γ') : RP (tSeq t1 t2) Γ (mb m1 m2) Γ' := fun s I F N σ e d D q =>
  h1 s I F N σ e d _ (R.sat_imp (sat_mb.mp q) fun x s1 q I1 N1 σ1 a1 d1 e1 => h2 x s1 I1 F N1 σ1 e1 d1 D (R.sat_imp q fun y s2 q I2 N2 σ2 a2 d2 e2 => q I2 N2 σ2 (a1.trans a2) d2 e2))
theorem rt_seq {m1 : Mn S τ'} {m2 : τ' → Mn S ρ} (h1 : RP t1 Γ m1 Γt) (h2 : ∀ x, RT Ret t2 (Γt x) (m2 x) Γr) : RT Ret (tSeq t1 t2) Γ (mb m1 m2) Γr := fun s I F N σ e d D q =>
  h1 s I F N σ e d _ (R.sat_imp (sat_mb.mp q) fun x s1 q I1 N1 σ1 a1 d1 e1 => h2 x s1 I1 F N1 σ1 e1 d1 D (R.sat_imp q fun y s2 q v H2 I2 N2 σ2 a2 e2 r2 => q v H2 I2 N2 σ2 (a1.trans a2) e2 r2))
theorem rn_seq {m1 : Mn S τ'} {m2 : τ' → Mn S ρ} (h1 : RP t1 Γ m1 Γt) (h2 : ∀ x, RN Ret t2 (Γt x) (m2 x) Γr) : RN Ret (tSeq t1 t2) Γ (mb m1 m2) Γr := fun s I F N σ e d D hn q =>
  h1 s I F N σ e d _ (R.sat_imp (sat_mb.mp q) fun x s1 q I1 N1 σ1 a1 d1 e1 => h2 x s1 I1 F N1 σ1 e1 d1 D hn (R.sat_imp q fun y s2 q v H2 I2 N2 σ2 a2 e2 r2 => q v H2 I2 N2 σ2 (a1.trans a2) e2 r2))
theorem rn_last {m : Mn S τ} (h : RP t Γ m Γ') (w : ∀ x s, Wk (Γ' x s) (Γr s)) : RN (rIm K) t Γ (mb m fun _ => mp ()) Γr := fun s I F N σ e d D hn q =>
  h s I F N σ e d _ (R.sat_imp (sat_mb.mp q) fun x s1 q I1 N1 σ1 a1 d1 e1 => by
    obtain ⟨I2, N2, x1, x2, x3, x4⟩ := e1.wk (w x s1) d1
    exact hn σ1 _ (q _ _ I2 N2 σ1 (a1.trans x1) x4 ⟨x2, x3.symm, rfl⟩))
theorem rn_next (w : ∀ s, Wk (Γ s) (Γr s)) : RN (rIm K) tNext Γ (mp ()) Γr := fun s I F N σ e d D hn q => by
  obtain ⟨I2, N2, x1, x2, x3, x4⟩ := e.wk (w s) d
  exact hn σ _ (q _ _ I2 N2 σ x1 x4 ⟨x2, x3.symm, rfl⟩)
theorem rc_seqP {Γb : β → S → List Sl} {m1 : Mn S τ'} {m2 : τ' → Mn S (Ct ρ τ β)} (h1 : RP t1 Γ m1 Γt) (h2 : ∀ x, RC Ret t2 (Γt x) (m2 x) Γr Γ' Γb) : RC Ret (tSeq t1 t2) Γ (mb m1 m2) Γr Γ' Γb := fun s I F N σ e d D q =>
  h1 s I F N σ e d _ (R.sat_imp (sat_mb.mp q) fun x s1 q I1 N1 σ1 a1 d1 e1 => h2 x s1 I1 F N1 σ1 e1 d1 D (R.sat_imp q fun c s2 q => by
    cases c with
    | rt x => exact fun v H2 I2 N2 σ2 a2 e2 r2 => q v H2 I2 N2 σ2 (a1.trans a2) e2 r2
    | nx x => exact fun I2 N2 σ2 a2 d2 e2 => q I2 N2 σ2 (a1.trans a2) d2 e2
    | br x => exact fun I2 N2 σ2 a2 d2 e2 => q I2 N2 σ2 (a1.trans a2) d2 e2))
theorem rx_seqP {Γb : β → S → List Sl} {m1 : Mn S τ'} {m2 : τ' → Mn S (Ct ρ τ β)} (h1 : RP t1 Γ m1 Γt) (h2 : ∀ x, RX Ret t2 (Γt x) (m2 x) Γr Γb) : RX Ret (tSeq t1 t2) Γ (mb m1 m2) Γr Γb := fun s I F N σ e d D q =>
  h1 s I F N σ e d _ (R.sat_imp (sat_mb.mp q) fun x s1 q I1 N1 σ1 a1 d1 e1 => h2 x s1 I1 F N1 σ1 e1 d1 D (R.sat_imp q fun c s2 q => by
    cases c with
    | rt x => exact fun v H2 I2 N2 σ2 a2 e2 r2 => q v H2 I2 N2 σ2 (a1.trans a2) e2 r2
    | nx x => trivial
    | br x => exact fun I2 N2 σ2 a2 d2 e2 => q I2 N2 σ2 (a1.trans a2) d2 e2))
/-- what follows a statement with ways out -/
def ctk {S ρ τ β : Type} (k : τ → Mn S ρ) (j : β → Mn S ρ) : Ct ρ τ β → Mn S ρ
  | .rt x => mp x
  | .nx x => k x
  | .br x => j x
def ctc {S ρ τ τ' β : Type} (k : τ' → Mn S (Ct ρ τ β)) : Ct ρ τ' β → Mn S (Ct ρ τ β)
  | .rt x => mp (.rt x)
  | .nx x => k x
  | .br x => mp (.br x)
theorem rt_seqC {Γb : β → S → List Sl} {m1 : Mn S (Ct ρ τ' β)} {m2 : τ' → Mn S ρ} (h1 : RC Ret t1 Γ m1 Γr Γt Γb) (h2 : ∀ x, RT Ret t2 (Γt x) (m2 x) Γr) : RT Ret (tSeq t1 t2) Γ (mb m1 (ctk m2 fun _ => mbad)) Γr := fun s I F N σ e d D q =>
  h1 s I F N σ e d _ (R.sat_imp (sat_mb.mp q) fun c s1 q => by
    cases c with
    | rt x => exact q
    | nx x => exact fun I1 N1 σ1 a1 d1 e1 => h2 x s1 I1 F N1 σ1 e1 d1 D (R.sat_imp q fun y s2 q v H2 I2 N2 σ2 a2 e2 r2 => q v H2 I2 N2 σ2 (a1.trans a2) e2 r2)
    | br x => exact q.elim)
theorem rn_seqC {Γb : β → S → List Sl} {m1 : Mn S (Ct ρ τ' β)} {m2 : τ' → Mn S ρ} (h1 : RC Ret t1 Γ m1 Γr Γt Γb) (h2 : ∀ x, RN Ret t2 (Γt x) (m2 x) Γr) : RN Ret (tSeq t1 t2) Γ (mb m1 (ctk m2 fun _ => mbad)) Γr := fun s I F N σ e d D hn q =>
  h1 s I F N σ e d _ (R.sat_imp (sat_mb.mp q) fun c s1 q => by
    cases c with
    | rt x => exact q
    | nx x => exact fun I1 N1 σ1 a1 d1 e1 => h2 x s1 I1 F N1 σ1 e1 d1 D hn (R.sat_imp q fun y s2 q v H2 I2 N2 σ2 a2 e2 r2 => q v H2 I2 N2 σ2 (a1.trans a2) e2 r2)
    | br x => exact q.elim)
theorem rc_seq {Γb : β → S → List Sl} {m1 : Mn S (Ct ρ τ' β)} {m2 : τ' → Mn S (Ct ρ τ β)} (h1 : RC Ret t1 Γ m1 Γr Γt Γb) (h2 : ∀ x, RC Ret t2 (Γt x) (m2 x) Γr Γ' Γb) : RC Ret (tSeq t1 t2) Γ (mb m1 (ctc m2)) Γr Γ' Γb := fun s I F N σ e d D q =>
  h1 s I F N σ e d _ (R.sat_imp (sat_mb.mp q) fun c s1 q => by
    cases c with
    | rt x => exact q
    | nx x => exact fun I1 N1 σ1 a1 d1 e1 => h2 x s1 I1 F N1 σ1 e1 d1 D (R.sat_imp q fun c s2 q => by
        cases c with
        | rt x => exact fun v H2 I2 N2 σ2 a2 e2 r2 => q v H2 I2 N2 σ2 (a1.trans a2) e2 r2
        | nx x => exact fun I2 N2 σ2 a2 d2 e2 => q I2 N2 σ2 (a1.trans a2) d2 e2
        | br x => exact fun I2 N2 σ2 a2 d2 e2 => q I2 N2 σ2 (a1.trans a2) d2 e2)
    | br x => exact q)
/-! if -/
theorem ifS {mc : Mn S Bool} {α : Type} {m1 m2 : Mn S α} {G : Mn S α → TS → Prop} (hc : TM tc Γ mc) {s : S} {I F N : Hp} {σ : L2.St} {D : Ends} (e : EnvOk I F N σ (Γ s)) (d : Dis N I) {Q : α → S → Prop} (q : (mb mc (fun b => mi b m1 m2) s).sat Q)
    (h1 : ∀ s1 I1 N1, Ex I I1 → Dis N1 I1 → EnvOk I1 F N1 σ (Γ s1) → (m1 s1).sat Q → t1 D σ (ov N1 I1)) (h2 : ∀ s1 I1 N1, Ex I I1 → Dis N1 I1 → EnvOk I1 F N1 σ (Γ s1) → (m2 s1).sat Q → t2 D σ (ov N1 I1)) : tIfS tc t1 t2 D σ (ov N I) :=
  hc s I F N σ e d _ (R.sat_imp (sat_mb.mp q) fun b s1 q I1 N1 a1 d1 e1 => by
    cases b with
    | true => exact h1 s1 I1 N1 a1 d1 e1 q
    | false => exact h2 s1 I1 N1 a1 d1 e1 q)
theorem rp_if {mc : Mn S Bool} {m1 m2 : Mn S τ} (hc : TM tc Γ mc) (h1 : RP t1 Γ m1 Γ') (h2 : RP t2 Γ m2 Γ') : RP (tIfS tc t1 t2) Γ (mb mc fun b => mi b m1 m2) Γ' := fun s I F N σ e d D q =>
  ifS (G := fun _ _ => True) hc e d q (fun s1 I1 N1 a1 d1 e1 q => h1 s1 I1 F N1 σ e1 d1 D (R.sat_imp q fun y s2 q I2 N2 σ2 a2 d2 e2 => q I2 N2 σ2 (a1.trans a2) d2 e2)) (fun s1 I1 N1 a1 d1 e1 q => h2 s1 I1 F N1 σ e1 d1 D (R.sat_imp q fun y s2 q I2 N2 σ2 a2 d2 e2 => q I2 N2 σ2 (a1.trans a2) d2 e2))
theorem rt_if {mc : Mn S Bool} {m1 m2 : Mn S ρ} (hc : TM tc Γ mc) (h1 : RT Ret t1 Γ m1 Γr) (h2 : RT Ret t2 Γ m2 Γr) : RT Ret (tIfS tc t1 t2) Γ (mb mc fun b => mi b m1 m2) Γr := fun s I F N σ e d D q =>
  ifS (G := fun _ _ => True) hc e d q (fun s1 I1 N1 a1 d1 e1 q => h1 s1 I1 F N1 σ e1 d1 D (R.sat_imp q fun y s2 q v H2 I2 N2 σ2 a2 e2 r2 => q v H2 I2 N2 σ2 (a1.trans a2) e2 r2)) (fun s1 I1 N1 a1 d1 e1 q => h2 s1 I1 F N1 σ e1 d1 D (R.sat_imp q fun y s2 q v H2 I2 N2 σ2 a2 e2 r2 => q v H2 I2 N2 σ2 (a1.trans a2) e2 r2))
theorem rn_if {mc : Mn S Bool} {m1 m2 : Mn S ρ} (hc : TM tc Γ mc) (h1 : RN Ret t1 Γ m1 Γr) (h2 : RN Ret t2 Γ m2 Γr) : RN Ret (tIfS tc t1 t2) Γ (mb mc fun b => mi b m1 m2) Γr := fun s I F N σ e d D hn q =>
  ifS (G := fun _ _ => True) hc e d q (fun s1 I1 N1 a1 d1 e1 q => h1 s1 I1 F N1 σ e1 d1 D hn (R.sat_imp q fun y s2 q v H2 I2 N2 σ2 a2 e2 r2 => q v H2 I2 N2 σ2 (a1.trans a2) e2 r2)) (fun s1 I1 N1 a1 d1 e1 q => h2 s1 I1 F N1 σ e1 d1 D hn (R.sat_imp q fun y s2 q v H2 I2 N2 σ2 a2 e2 r2 => q v H2 I2 N2 σ2 (a1.trans a2) e2 r2))
/-- if c: .. that returns; the rest -/
theorem rt_ifr {mc : Mn S Bool} {m1 m2 : Mn S ρ} (hc : TM tc Γ mc) (h1 : RT Ret t1 Γ m1 Γr) (h2 : RT Ret t2 Γ m2 Γr) : RT Ret (tSeq (tIfS tc t1 tNext) t2) Γ (mb mc fun b => mi b m1 m2) Γr := fun s I F N σ e d D q =>
  ifS (t2 := tNext) (D := { D with nx := t2 D }) (G := fun _ _ => True) hc e d q (fun s1 I1 N1 a1 d1 e1 q => h1 s1 I1 F N1 σ e1 d1 _ (R.sat_imp q fun y s2 q v H2 I2 N2 σ2 a2 e2 r2 => q v H2 I2 N2 σ2 (a1.trans a2) e2 r2)) (fun s1 I1 N1 a1 d1 e1 q => h2 s1 I1 F N1 σ e1 d1 D (R.sat_imp q fun y s2 q v H2 I2 N2 σ2 a2 e2 r2 => q v H2 I2 N2 σ2 (a1.trans a2) e2 r2))
theorem rn_ifr {mc : Mn S Bool} {m1 m2 : Mn S ρ} (hc : TM tc Γ mc) (h1 : RT Ret t1 Γ m1 Γr) (h2 : RN Ret t2 Γ m2 Γr) : RN Ret (tSeq (tIfS tc t1 tNext) t2) Γ (mb mc fun b => mi b m1 m2) Γr := fun s I F N σ e d D hn q =>
  ifS (t2 := tNext) (D := { D with nx := t2 D }) (G := fun _ _ => True) hc e d q (fun s1 I1 N1 a1 d1 e1 q => h1 s1 I1 F N1 σ e1 d1 _ (R.sat_imp q fun y s2 q v H2 I2 N2 σ2 a2 e2 r2 => q v H2 I2 N2 σ2 (a1.trans a2) e2 r2)) (fun s1 I1 N1 a1 d1 e1 q => h2 s1 I1 F N1 σ e1 d1 D hn (R.sat_imp q fun y s2 q v H2 I2 N2 σ2 a2 e2 r2 => q v H2 I2 N2 σ2 (a1.trans a2) e2 r2))
theorem ctup {S : Type} {D : Ends} {Γr : S → List Sl} {F : Hp} {Γ' : τ → S → List Sl} {Γb : β → S → List Sl} {I I1 : Hp} (a1 : Ex I I1) {c : Ct ρ τ β} {s' : S} (q : CtQ Ret D F Γr Γ' Γb I c s') : CtQ Ret D F Γr Γ' Γb I1 c s' := by
  cases c with
  | rt x => exact fun v H2 I2 N2 σ2 a2 e2 r2 => q v H2 I2 N2 σ2 (a1.trans a2) e2 r2
  | nx x => exact fun I2 N2 σ2 a2 d2 e2 => q I2 N2 σ2 (a1.trans a2) d2 e2
  | br x => exact fun I2 N2 σ2 a2 d2 e2 => q I2 N2 σ2 (a1.trans a2) d2 e2
theorem rc_if {Γb : β → S → List Sl} {mc : Mn S Bool} {m1 m2 : Mn S (Ct ρ τ β)} (hc : TM tc Γ mc) (h1 : RC Ret t1 Γ m1 Γr Γ' Γb) (h2 : RC Ret t2 Γ m2 Γr Γ' Γb) : RC Ret (tIfS tc t1 t2) Γ (mb mc fun b => mi b m1 m2) Γr Γ' Γb := fun s I F N σ e d D q =>
  ifS (G := fun _ _ => True) hc e d q (fun s1 I1 N1 a1 d1 e1 q => h1 s1 I1 F N1 σ e1 d1 D (R.sat_imp q fun c s2 q => ctup a1 q)) (fun s1 I1 N1 a1 d1 e1 q => h2 s1 I1 F N1 σ e1 d1 D (R.sat_imp q fun c s2 q => ctup a1 q))
theorem rx_if {Γb : β → S → List Sl} {mc : Mn S Bool} {m1 m2 : Mn S (Ct ρ τ β)} (hc : TM tc Γ mc) (h1 : RX Ret t1 Γ m1 Γr Γb) (h2 : RX Ret t2 Γ m2 Γr Γb) : RX Ret (tIfS tc t1 t2) Γ (mb mc fun b => mi b m1 m2) Γr Γb := fun s I F N σ e d D q =>
  ifS (G := fun _ _ => True) hc e d q (fun s1 I1 N1 a1 d1 e1 q => h1 s1 I1 F N1 σ e1 d1 D (R.sat_imp q fun c s2 q => by
      cases c with
      | rt x => exact fun v H2 I2 N2 σ2 a2 e2 r2 => q v H2 I2 N2 σ2 (a1.trans a2) e2 r2
      | nx x => trivial
      | br x => exact fun I2 N2 σ2 a2 d2 e2 => q I2 N2 σ2 (a1.trans a2) d2 e2))
    (fun s1 I1 N1 a1 d1 e1 q => h2 s1 I1 F N1 σ e1 d1 D (R.sat_imp q fun c s2 q => by
      cases c with
      | rt x => exact fun v H2 I2 N2 σ2 a2 e2 r2 => q v H2 I2 N2 σ2 (a1.trans a2) e2 r2
      | nx x => trivial
      | br x => exact fun I2 N2 σ2 a2 d2 e2 => q I2 N2 σ2 (a1.trans a2) d2 e2))
theorem rc_ifr {Γb : β → S → List Sl} {mc : Mn S Bool} {m1 m2 : Mn S (Ct ρ τ β)} (hc : TM tc Γ mc) (h1 : RX Ret t1 Γ m1 Γr Γb) (h2 : RC Ret t2 Γ m2 Γr Γ' Γb) : RC Ret (tSeq (tIfS tc t1 tNext) t2) Γ (mb mc fun b => mi b m1 m2) Γr Γ' Γb := fun s I F N σ e d D q =>
  ifS (t2 := tNext) (D := { D with nx := t2 D }) (G := fun _ _ => True) hc e d q (fun s1 I1 N1 a1 d1 e1 q => h1 s1 I1 F N1 σ e1 d1 _ (R.sat_imp q fun c s2 q => by
      cases c with
      | rt x => exact fun v H2 I2 N2 σ2 a2 e2 r2 => q v H2 I2 N2 σ2 (a1.trans a2) e2 r2
      | nx x => trivial
      | br x => exact fun I2 N2 σ2 a2 d2 e2 => q I2 N2 σ2 (a1.trans a2) d2 e2))
    (fun s1 I1 N1 a1 d1 e1 q => h2 s1 I1 F N1 σ e1 d1 D (R.sat_imp q fun c s2 q => ctup a1 q))
/-! assignments -/
theorem rp_asg {i : Nat} {m : Mn S α} {Γ' : α → S → List Sl} (h : EM K te Γ m) (hn : ∀ s, NotOw (Γ s) i) (hΓ : ∀ x s, (Γ s).set i (.im (pv K x)) = Γ' x s) : RP (tAsg te (gName i)) Γ m Γ' := fun s I F N σ e d D q =>
  h s I F N σ e d _ (R.sat_imp q fun x s' q v I' N' a1 d1 e1 r1 => q I' N' _ a1 d1 (by rw [← hΓ]; exact e1.set r1 (hn s')))
theorem rp_drop {m : Mn S α} (h : EM K te Γ m) : RP (tDrop te) Γ m (fun _ => Γ) := fun s I F N σ e d D q =>
  h s I F N σ e d _ (R.sat_imp q fun x s' q v I' N' a1 d1 e1 r1 => q I' N' σ a1 d1 e1)
end
end
end Mir

/-! Mir5: what is walked; loops; comprehensions; a def's body and its promise -/
namespace Mir
open PySem L2
section
variable {K : PySem.W.Frag}
/-! ### what is walked -/
def ItOk (K : PySem.W.Frag) {α : Type} [Rp α] (J : It) (I : Hp) (xs : List α) : Prop := ∀ I1 N1, Ex I I1 → Dis N1 I1 →
  (∀ (i : Nat) (x : α), xs[i]? = some x → J.go i (ov N1 I1) ∧ ∀ v H', J.yld i (ov N1 I1) v H' → ∃ I2, H' = ov N1 I2 ∧ Ex I1 I2 ∧ Dis N1 I2 ∧ Rp.r K x I2 v) ∧ J.stop xs.length (ov N1 I1)
def IM (K : PySem.W.Frag) {S α : Type} [Rp α] (wi : TI) (Γ : S → List Sl) (m : Mn S (List α)) : Prop := ∀ (s : S) (I F N : Hp) (σ : L2.St), EnvOk I F N σ (Γ s) → Dis N I → ∀ Rr : It → Hp → Prop,
  (m s).sat (fun xs s' => ∀ J I' N', Ex I I' → Dis N' I' → EnvOk I' F N' σ (Γ s') → ItOk K J I' xs → Rr J (ov N' I')) → wi σ (ov N I) Rr
section
variable {S α β γ : Type} [Rp α] [Rp β] {Γ : S → List Sl} {te : TE} {ta : TA}
theorem it_list {a : Addr} {xs : List α} {vs : List V} {I : Hp} (h : SqL K I a vs) (r : Rs K xs I vs) : ItOk K (Itl K a) I xs := fun I1 N1 a1 d1 => by
  have h1 : SqL K (ov N1 I1) a vs := sql_up (a1.trans (ex_ov d1)) h
  refine ⟨fun i x hx => ?_, ⟨vs, h1, by rw [r.length]; exact Nat.le_refl _⟩⟩
  obtain ⟨v, e1, e2⟩ := r.get hx
  refine ⟨⟨vs, v, h1, e1⟩, fun u H' ⟨y1, y2⟩ => ?_⟩
  have e3 := y2 vs h1
  rw [e1] at e3
  cases e3
  exact ⟨I1, y1, Ex.refl I1, d1, Rp.up a1 e2⟩
theorem it_tup {a : Addr} {xs : List α} {vs : List V} {I : Hp} (h : SqT K I a vs) (r : Rs K xs I vs) : ItOk K (Itt K a) I xs := fun I1 N1 a1 d1 => by
  have h1 : SqT K (ov N1 I1) a vs := sqt_up (a1.trans (ex_ov d1)) h
  refine ⟨fun i x hx => ?_, ⟨vs, h1, by rw [r.length]; exact Nat.le_refl _⟩⟩
  obtain ⟨v, e1, e2⟩ := r.get hx
  refine ⟨⟨vs, v, h1, e1⟩, fun u H' ⟨y1, y2⟩ => ?_⟩
  have e3 := y2 vs h1
  rw [e1] at e3
  cases e3
  exact ⟨I1, y1, Ex.refl I1, d1, Rp.up a1 e2⟩
/-- lo, lo + 1, .. -/
def rng (lo : Int) (n : Nat) : List Int := (List.range n).map fun i => lo + (i : Nat)
theorem rng_len {lo : Int} {n : Nat} : (rng lo n).length = n := by unfold rng; rw [List.length_map, List.length_range]
theorem rng_get {lo : Int} {n i : Nat} {x : Int} (h : (rng lo n)[i]? = some x) : i < n ∧ x = lo + (i : Nat) := by
  have hi : i < n := by
    have := (List.getElem?_eq_some_iff.mp h).1
    rw [rng_len] at this
    exact this
  unfold rng at h
  rw [List.getElem?_map, List.getElem?_range hi] at h
  exact ⟨hi, (Option.some.inj h).symm⟩
theorem it_rng {lo : Int} {n : Nat} {I : Hp} : ItOk K (Itr lo n) I (rng lo n) := fun I1 N1 a1 d1 => by
  refine ⟨fun i x hx => ?_, by rw [rng_len]; exact Nat.le_refl _⟩
  obtain ⟨h1, h2⟩ := rng_get hx
  refine ⟨h1, fun u H' ⟨y1, y2⟩ => ⟨I1, y1, Ex.refl I1, d1, ?_⟩⟩
  rw [h2]
  exact y2
theorem im_list {xs : List α} (h : ∀ s, EP te (Γ s) (pv K xs)) : IM K (iList K te) Γ (mp xs) := fun s I F N σ e d Rr q =>
  h s I F N σ e d _ fun v I1 a1 d1 ⟨a, vs, h1, h2, h3⟩ => ⟨a, h1, ⟨vs, SqL.of (ex_ov d1 _ _ h2)⟩, q _ I1 N a1 d1 (e.up a1) (it_list (SqL.of h2) h3)⟩
theorem im_listM {m : Mn S (List α)} (h : EM K te Γ m) : IM K (iList K te) Γ m := fun s I F N σ e d Rr q =>
  h s I F N σ e d _ (R.sat_imp q fun xs s1 q v I1 N1 a1 d1 e1 ⟨a, vs, h1, h2, h3⟩ => ⟨a, h1, ⟨vs, SqL.of (ex_ov d1 _ _ h2)⟩, q _ I1 N1 a1 d1 e1 (it_list (SqL.of h2) h3)⟩)
theorem im_tup {xs : Tu α} (h : ∀ s, EP te (Γ s) (pv K xs)) : IM K (iTup K te) Γ (mp xs.l) := fun s I F N σ e d Rr q =>
  h s I F N σ e d _ fun v I1 a1 d1 ⟨a, vs, h1, h2, h3⟩ => ⟨a, h1, ⟨vs, sqt_ov d1 h2⟩, q _ I1 N a1 d1 (e.up a1) (it_tup h2 h3)⟩
theorem im_tupM {m : Mn S (Tu α)} (h : EM K te Γ m) : IM K (iTup K te) Γ (mb m fun x => mp x.l) := fun s I F N σ e d Rr q =>
  h s I F N σ e d _ (R.sat_imp (sat_mb.mp q) fun xs s1 q v I1 N1 a1 d1 e1 ⟨a, vs, h1, h2, h3⟩ => ⟨a, h1, ⟨vs, sqt_ov d1 h2⟩, q _ I1 N1 a1 d1 e1 (it_tup h2 h3)⟩)
/-- range(n), range(lo, n): bounds within 2 ^ 62 -/
def b62 (i : Int) : Bool := decide (-(2 ^ 62) ≤ i ∧ i < 2 ^ 62)
theorem im_rng1 {n : Int} (h : ∀ s, AP ta (Γ s) [pv K n]) : IM K (iRng1 ta) Γ (mc (b62 n) (rng 0 n.toNat)) := fun s I F N σ e d Rr q => by
  obtain ⟨c, q⟩ := sat_mc.mp q
  have c := of_decide_eq_true c
  refine h s I F N σ e d _ fun vs I1 a1 d1 r1 => ?_
  obtain ⟨v, _, rfl, r, r1⟩ := all2_c r1
  cases all2_n r1
  cases (show v = V.int n from r)
  exact ⟨n, rfl, c.1, c.2, q _ I1 N a1 d1 (e.up a1) it_rng⟩
theorem im_rng1M {ζ : Type} {m : Mn S ζ} {f : ζ → Int} (h : AM ta Γ m fun z => [pv K (f z)]) : IM K (iRng1 ta) Γ (mb m fun z => mc (b62 (f z)) (rng 0 (f z).toNat)) := fun s I F N σ e d Rr q => by
  refine h s I F N σ e d _ (R.sat_imp (sat_mb.mp q) fun z s1 q vs I1 N1 a1 d1 e1 r1 => ?_)
  obtain ⟨c, q⟩ := sat_mc.mp q
  have c := of_decide_eq_true c
  obtain ⟨v, _, rfl, r, r1⟩ := all2_c r1
  cases all2_n r1
  cases (show v = V.int (f z) from r)
  exact ⟨f z, rfl, c.1, c.2, q _ I1 N1 a1 d1 e1 it_rng⟩
theorem im_rng2 {lo n : Int} (h : ∀ s, AP ta (Γ s) [pv K lo, pv K n]) : IM K (iRng2 ta) Γ (mc (b62 lo && b62 n) (rng lo (n - lo).toNat)) := fun s I F N σ e d Rr q => by
  obtain ⟨c, q⟩ := sat_mc.mp q
  obtain ⟨c1, c2⟩ := Bool.and_eq_true_iff.mp c
  have c1 := of_decide_eq_true c1
  have c2 := of_decide_eq_true c2
  refine h s I F N σ e d _ fun vs I1 a1 d1 r1 => ?_
  obtain ⟨v, _, rfl, r, r1⟩ := all2_c r1
  obtain ⟨w, _, rfl, r', r1⟩ := all2_c r1
  cases all2_n r1
  cases (show v = V.int lo from r)
  cases (show w = V.int n from r')
  exact ⟨lo, n, rfl, ⟨c1.1, c1.2, c2.1, c2.2⟩, q _ I1 N a1 d1 (e.up a1) it_rng⟩
theorem im_rng2M {ζ : Type} {m : Mn S ζ} {f g : ζ → Int} (h : AM ta Γ m fun z => [pv K (f z), pv K (g z)]) : IM K (iRng2 ta) Γ (mb m fun z => mc (b62 (f z) && b62 (g z)) (rng (f z) (g z - f z).toNat)) := fun s I F N σ e d Rr q => by
  refine h s I F N σ e d _ (R.sat_imp (sat_mb.mp q) fun z s1 q vs I1 N1 a1 d1 e1 r1 => ?_)
  obtain ⟨c, q⟩ := sat_mc.mp q
  obtain ⟨c1, c2⟩ := Bool.and_eq_true_iff.mp c
  have c1 := of_decide_eq_true c1
  have c2 := of_decide_eq_true c2
  obtain ⟨v, _, rfl, r, r1⟩ := all2_c r1
  obtain ⟨w, _, rfl, r', r1⟩ := all2_c r1
  cases all2_n r1
  cases (show v = V.int (f z) from r)
  cases (show w = V.int (g z) from r')
  exact ⟨f z, g z, rfl, ⟨c1.1, c1.2, c2.1, c2.2⟩, q _ I1 N1 a1 d1 e1 it_rng⟩
end

/-! ### targets -/
/-- the item x is bound; js: the slots -/
def GT (K : PySem.W.Frag) {α : Type} [Rp α] (g : TG) (Γ : List Sl) (x : α) (Γ' : List Sl) (js : List Nat) : Prop := ∀ (I F N : Hp) (σ : L2.St) (v : V), EnvOk I F N σ Γ → Dis N I → Rp.r K x I v → ∀ Q : L2.St → Hp → Prop,
  (∀ σ', EnvOk I F N σ' Γ' → (∀ vs : List Nat, (∀ j ∈ js, j ∈ vs) → wipe σ' vs = wipe σ vs) → Q σ' (ov N I)) → g v σ (ov N I) Q
theorem wipe_get {σ : L2.St} {i : Nat} : ∀ vs : List Nat, (wipe σ vs)[i]? = if i ∈ vs then σ[i]?.map fun _ => none else σ[i]?
  | [] => by simp [wipe]
  | v :: vs => by
    unfold wipe
    rw [List.getElem?_set, wipe_get vs, wipe_length]
    by_cases h : v = i
    · subst h
      by_cases hl : v < σ.length
      · simp [hl, List.getElem?_eq_getElem hl]
      · simp [hl, List.getElem?_eq_none (Nat.le_of_not_lt hl)]
    · have h' : ¬ i = v := fun q => h q.symm
      rw [if_neg h]
      simp only [List.mem_cons, h', false_or]
theorem wipe_set {σ : L2.St} {j : Nat} {y : Option V} {vs : List Nat} (h : j ∈ vs) : wipe (σ.set j y) vs = wipe σ vs := by
  refine List.ext_getElem? fun i => ?_
  rw [wipe_get, wipe_get, List.getElem?_set]
  by_cases e : j = i
  · subst e
    by_cases hl : j < σ.length
    · simp [h, hl, List.getElem?_eq_getElem hl]
    · simp [h, hl, List.getElem?_eq_none (Nat.le_of_not_lt hl)]
  · rw [if_neg e]
theorem wipe_wipe {σ : L2.St} {vs : List Nat} : wipe (wipe σ vs) vs = wipe σ vs := by
  refine List.ext_getElem? fun i => ?_
  rw [wipe_get, wipe_get]
  by_cases e : i ∈ vs
  · rw [if_pos e, if_pos e, Option.map_map]
    rfl
  · rw [if_neg e, if_neg e]
section
variable {α β γ δ ε : Type} [Rp α] [Rp β] [Rp γ] [Rp δ] [Rp ε] {Γ Γ' : List Sl} {i j k l : Nat}
theorem gt_name {x : α} (hn : NotOw Γ i) (hΓ : Γ.set i (.im (pv K x)) = Γ') : GT K (gName i) Γ x Γ' [i] := fun I F N σ v e d r Q q => by
  refine q _ ?_ fun vs h => wipe_set (h i (List.mem_cons_self ..))
  rw [← hΓ]
  exact e.set r hn
/-- a name that nobody reads -/
theorem gt_nameNo {x : α} (hn : NotOw Γ i) (hΓ : Γ.set i .no = Γ') : GT K (gName i) Γ x Γ' [i] := fun I F N σ v e d r Q q => by
  refine q _ ?_ fun vs h => wipe_set (h i (List.mem_cons_self ..))
  rw [← hΓ]
  exact e.setNo hn
theorem gt_2 {x : α × β} {Γ1 : List Sl} {g1 g2 : TG} {js ks : List Nat} (h1 : GT K g1 Γ x.1 Γ1 js) (h2 : GT K g2 Γ1 x.2 Γ' ks) : GT K (gTup K 2 (gCons g1 (gCons g2 gNil))) Γ x Γ' (js ++ ks) := fun I F N σ v e d ⟨a, v1, v2, r1, r2, r3, r4⟩ Q q =>
  ⟨a, _, r1, sqt_ov d r2, rfl, v1, _, rfl, h1 I F N σ v1 e d r3 _ fun σ1 e1 w1 => ⟨v2, _, rfl, h2 I F N σ1 v2 e1 d r4 _ fun σ2 e2 w2 => ⟨rfl, q σ2 e2 fun vs h => (w2 vs fun j hj => h j (List.mem_append_right _ hj)).trans (w1 vs fun j hj => h j (List.mem_append_left _ hj))⟩⟩⟩
theorem gt_3 {x : T3 α β γ} {Γ1 Γ2 : List Sl} {g1 g2 g3 : TG} {js ks ls : List Nat} (h1 : GT K g1 Γ x.a Γ1 js) (h2 : GT K g2 Γ1 x.b Γ2 ks) (h3 : GT K g3 Γ2 x.c Γ' ls) : GT K (gTup K 3 (gCons g1 (gCons g2 (gCons g3 gNil)))) Γ x Γ' (js ++ (ks ++ ls)) := fun I F N σ v e d ⟨a, v1, v2, v3, r1, r2, r3, r4, r5⟩ Q q =>
  ⟨a, _, r1, sqt_ov d r2, rfl, v1, _, rfl, h1 I F N σ v1 e d r3 _ fun σ1 e1 w1 => ⟨v2, _, rfl, h2 I F N σ1 v2 e1 d r4 _ fun σ2 e2 w2 => ⟨v3, _, rfl, h3 I F N σ2 v3 e2 d r5 _ fun σ3 e3 w3 => ⟨rfl, q σ3 e3 fun vs h =>
    ((w3 vs fun j hj => h j (List.mem_append_right _ (List.mem_append_right _ hj))).trans (w2 vs fun j hj => h j (List.mem_append_right _ (List.mem_append_left _ hj)))).trans (w1 vs fun j hj => h j (List.mem_append_left _ hj))⟩⟩⟩⟩
theorem gt_4 {x : T4 α β γ δ} {Γ1 Γ2 Γ3 : List Sl} {g1 g2 g3 g4 : TG} {js ks ls ms : List Nat} (h1 : GT K g1 Γ x.a Γ1 js) (h2 : GT K g2 Γ1 x.b Γ2 ks) (h3 : GT K g3 Γ2 x.c Γ3 ls) (h4 : GT K g4 Γ3 x.d Γ' ms) : GT K (gTup K 4 (gCons g1 (gCons g2 (gCons g3 (gCons g4 gNil))))) Γ x Γ' (js ++ (ks ++ (ls ++ ms))) := fun I F N σ v e d ⟨a, v1, v2, v3, v4, r1, r2, r3, r4, r5, r6⟩ Q q =>
  ⟨a, _, r1, sqt_ov d r2, rfl, v1, _, rfl, h1 I F N σ v1 e d r3 _ fun σ1 e1 w1 => ⟨v2, _, rfl, h2 I F N σ1 v2 e1 d r4 _ fun σ2 e2 w2 => ⟨v3, _, rfl, h3 I F N σ2 v3 e2 d r5 _ fun σ3 e3 w3 => ⟨v4, _, rfl, h4 I F N σ3 v4 e3 d r6 _ fun σ4 e4 w4 => ⟨rfl, q σ4 e4 fun vs h =>
    (((w4 vs fun j hj => h j (List.mem_append_right _ (List.mem_append_right _ (List.mem_append_right _ hj)))).trans (w3 vs fun j hj => h j (List.mem_append_right _ (List.mem_append_right _ (List.mem_append_left _ hj))))).trans (w2 vs fun j hj => h j (List.mem_append_right _ (List.mem_append_left _ hj)))).trans (w1 vs fun j hj => h j (List.mem_append_left _ hj))⟩⟩⟩⟩⟩
theorem gt_5 {x : T5 α β γ δ ε} {Γ1 Γ2 Γ3 Γ4 : List Sl} {g1 g2 g3 g4 g5 : TG} {js ks ls ms ns : List Nat} (h1 : GT K g1 Γ x.a Γ1 js) (h2 : GT K g2 Γ1 x.b Γ2 ks) (h3 : GT K g3 Γ2 x.c Γ3 ls) (h4 : GT K g4 Γ3 x.d Γ4 ms) (h5 : GT K g5 Γ4 x.e Γ' ns) : GT K (gTup K 5 (gCons g1 (gCons g2 (gCons g3 (gCons g4 (gCons g5 gNil)))))) Γ x Γ' (js ++ (ks ++ (ls ++ (ms ++ ns)))) := fun I F N σ v e d ⟨a, v1, v2, v3, v4, v5, r1, r2, r3, r4, r5, r6, r7⟩ Q q =>
  ⟨a, _, r1, sqt_ov d r2, rfl, v1, _, rfl, h1 I F N σ v1 e d r3 _ fun σ1 e1 w1 => ⟨v2, _, rfl, h2 I F N σ1 v2 e1 d r4 _ fun σ2 e2 w2 => ⟨v3, _, rfl, h3 I F N σ2 v3 e2 d r5 _ fun σ3 e3 w3 => ⟨v4, _, rfl, h4 I F N σ3 v4 e3 d r6 _ fun σ4 e4 w4 => ⟨v5, _, rfl, h5 I F N σ4 v5 e4 d r7 _ fun σ5 e5 w5 => ⟨rfl, q σ5 e5 fun vs h =>
    ((((w5 vs fun j hj => h j (List.mem_append_right _ (List.mem_append_right _ (List.mem_append_right _ (List.mem_append_right _ hj))))).trans (w4 vs fun j hj => h j (List.mem_append_right _ (List.mem_append_right _ (List.mem_append_right _ (List.mem_append_left _ hj)))))).trans (w3 vs fun j hj => h j (List.mem_append_right _ (List.mem_append_right _ (List.mem_append_left _ hj))))).trans (w2 vs fun j hj => h j (List.mem_append_right _ (List.mem_append_left _ hj)))).trans (w1 vs fun j hj => h j (List.mem_append_left _ hj))⟩⟩⟩⟩⟩⟩
/-- a, b = e and its like -/
theorem rp_tup {S : Type} {Γ : S → List Sl} {te : TE} {g : TG} {m : Mn S α} {Γ' : α → S → List Sl} {js : List Nat} (h : EM K te Γ m) (hg : ∀ x s, GT K g (Γ s) x (Γ' x s) js) : RP (tAsg te g) Γ m Γ' := fun s I F N σ e d D q =>
  h s I F N σ e d _ (R.sat_imp q fun x s' q v I' N' a1 d1 e1 r1 => hg x s' I' F N' σ v e1 d1 r1 _ fun σ' e2 _ => q I' N' σ' a1 d1 e2)
/-- a, b = e1, e2 -/
theorem rp_par {S : Type} {Γ : S → List Sl} {ta : TA} {m : Mn S (α × (β × Unit))} {Γ' : α × (β × Unit) → S → List Sl} (h : AM ta Γ m fun z => [pv K z.1, pv K z.2.1]) (hi : ∀ s, NotOw (Γ s) i) (hj : ∀ x s, NotOw ((Γ s).set i (.im (pv K (x : α)))) j)
    (hΓ : ∀ x y s, ((Γ s).set i (.im (pv K x))).set j (.im (pv K y)) = Γ' (x, (y, ())) s) : RP (tPar i j ta) Γ m Γ' := fun s I F N σ e d D q =>
  h s I F N σ e d _ (R.sat_imp q fun z s' q vs I' N' a1 d1 e1 r1 => by
    obtain ⟨v, _, rfl, r, r1⟩ := all2_c r1
    obtain ⟨w, _, rfl, r', r1⟩ := all2_c r1
    cases all2_n r1
    obtain ⟨x, y, u⟩ := z
    refine ⟨v, w, rfl, q I' N' _ a1 d1 ?_⟩
    rw [show Γ' (x, y, u) s' = ((Γ s').set i (.im (pv K x))).set j (.im (pv K y)) from (hΓ x y s').symm]
    exact (e1.set (p := pv K x) r (hi s')).set (p := pv K y) r' (hj x s'))
end

/-! ### loops -/
section
variable {S α τ τ' ρ β : Type} [Rp α] {Ret : RetT ρ}
def forP {S α τ : Type} : List α → τ → (α → τ → Mn S τ) → Mn S τ
  | [], t, _ => mp t
  | x :: xs, t, b => mb (b x t) fun t' => forP xs t' b
/-- with ways out; a break ends the loop -/
def forC {S α τ ρ β : Type} : List α → τ → (α → τ → Mn S (Ct ρ τ τ)) → Mn S (Ct ρ τ β)
  | [], t, _ => mp (.nx t)
  | x :: xs, t, b => mb (b x t) fun c => match c with
    | .rt y => mp (.rt y)
    | .nx t' => forC xs t' b
    | .br t' => mp (.nx t')
theorem rp_for {wi : TI} {g : TG} {tb : TS} {Γ : S → List Sl} {mx : Mn S (List α)} {t0 : τ} {body : α → τ → Mn S τ} {ΓL : τ → S → List Sl} {Γx : α → τ → S → List Sl} {js : List Nat} (hi : IM K wi Γ mx) (w : ∀ s, Wk (Γ s) (ΓL t0 s)) (hg : ∀ x t s, GT K g (ΓL t s) x (Γx x t s) js)
    (hb : ∀ x t, RP tb (Γx x t) (body x t) ΓL) : RP (tFor wi g tb) Γ (mb mx fun xs => forP xs t0 body) ΓL := fun s I F N σ e d D q =>
  hi s I F N σ e d _ (R.sat_imp (sat_mb.mp q) fun xs s1 q J I1 N1 a1 d1 e1 jt => by
    obtain ⟨I2, N2, x1, x2, x3, x4⟩ := e1.wk (w s1) d1
    refine ⟨fun i m σ' H' => m = xs.length - i ∧ i ≤ xs.length ∧ ∃ (t : τ) (s' : S) (I' N' : Hp), H' = ov N' I' ∧ Ex I2 I' ∧ Dis N' I' ∧ EnvOk I' F N' σ' (ΓL t s') ∧ (forP (xs.drop i) t body s').sat (fun x s' => ∀ I' N' σ', Ex I I' → Dis N' I' → EnvOk I' F N' σ' (ΓL x s') → D.nx σ' (ov N' I')),
      ⟨xs.length, rfl, Nat.zero_le _, t0, s1, I2, N2, x3.symm, Ex.refl I2, x2, x4, q⟩, ?_⟩
    rintro i m σ' H' ⟨rfl, hle, t, s', I', N', rfl, y1, y2, y3, y4⟩
    by_cases hlt : i < xs.length
    · have hx : xs[i]? = some xs[i] := List.getElem?_eq_getElem hlt
      have j1 := (jt I' N' (x1.trans y1) y2).1 i _ hx
      refine .inr ⟨j1.1, fun σ2 H2 => ∃ (t : τ) (s' : S) (I' N' : Hp), H2 = ov N' I' ∧ Ex I2 I' ∧ Dis N' I' ∧ EnvOk I' F N' σ2 (ΓL t s') ∧ (forP (xs.drop (i + 1)) t body s').sat (fun x s' => ∀ I' N' σ', Ex I I' → Dis N' I' → EnvOk I' F N' σ' (ΓL x s') → D.nx σ' (ov N' I')),
        fun σ2 H2 hN => ⟨xs.length - (i + 1), by omega, rfl, hlt, hN⟩, fun v H2 hy => ?_⟩
      obtain ⟨I3, rfl, z1, z2, z3⟩ := j1.2 v H2 hy
      refine hg xs[i] t s' I3 F N' σ' v (y3.up z1) z2 z3 _ fun σ3 e3 _ => ?_
      rw [List.drop_eq_getElem_cons hlt] at y4
      refine hb xs[i] t s' I3 F N' σ3 e3 z2 _ (R.sat_imp (sat_mb.mp y4) fun t' s2 q2 I4 N4 σ4 a4 d4 e4 => ?_)
      exact ⟨t', s2, I4, N4, rfl, (y1.trans z1).trans a4, d4, e4, q2⟩
    · have hi : i = xs.length := by omega
      subst hi
      rw [List.drop_length] at y4
      exact .inl ⟨(jt I' N' (x1.trans y1) y2).2, y4 I' N' σ' ((a1.trans x1).trans y1) y2 y3⟩)
theorem rc_for {wi : TI} {g : TG} {tb : TS} {Γ Γr : S → List Sl} {mx : Mn S (List α)} {t0 : τ} {body : α → τ → Mn S (Ct ρ τ τ)} {ΓL : τ → S → List Sl} {Γb : β → S → List Sl} {Γx : α → τ → S → List Sl} {js : List Nat} (hi : IM K wi Γ mx) (w : ∀ s, Wk (Γ s) (ΓL t0 s)) (hg : ∀ x t s, GT K g (ΓL t s) x (Γx x t s) js)
    (hb : ∀ x t, RC Ret tb (Γx x t) (body x t) Γr ΓL ΓL) : RC Ret (tFor wi g tb) Γ (mb mx fun xs => forC xs t0 body) Γr ΓL Γb := fun s I F N σ e d D q =>
  hi s I F N σ e d _ (R.sat_imp (sat_mb.mp q) fun xs s1 q J I1 N1 a1 d1 e1 jt => by
    obtain ⟨I2, N2, x1, x2, x3, x4⟩ := e1.wk (w s1) d1
    refine ⟨fun i m σ' H' => m = xs.length - i ∧ i ≤ xs.length ∧ ∃ (t : τ) (s' : S) (I' N' : Hp), H' = ov N' I' ∧ Ex I2 I' ∧ Dis N' I' ∧ EnvOk I' F N' σ' (ΓL t s') ∧ (forC (xs.drop i) t body s').sat (CtQ Ret D F Γr ΓL Γb I),
      ⟨xs.length, rfl, Nat.zero_le _, t0, s1, I2, N2, x3.symm, Ex.refl I2, x2, x4, q⟩, ?_⟩
    rintro i m σ' H' ⟨rfl, hle, t, s', I', N', rfl, y1, y2, y3, y4⟩
    by_cases hlt : i < xs.length
    · have hx : xs[i]? = some xs[i] := List.getElem?_eq_getElem hlt
      have j1 := (jt I' N' (x1.trans y1) y2).1 i _ hx
      refine .inr ⟨j1.1, fun σ2 H2 => ∃ (t : τ) (s' : S) (I' N' : Hp), H2 = ov N' I' ∧ Ex I2 I' ∧ Dis N' I' ∧ EnvOk I' F N' σ2 (ΓL t s') ∧ (forC (xs.drop (i + 1)) t body s').sat (CtQ Ret D F Γr ΓL Γb I),
        fun σ2 H2 hN => ⟨xs.length - (i + 1), by omega, rfl, hlt, hN⟩, fun v H2 hy => ?_⟩
      obtain ⟨I3, rfl, z1, z2, z3⟩ := j1.2 v H2 hy
      refine hg xs[i] t s' I3 F N' σ' v (y3.up z1) z2 z3 _ fun σ3 e3 _ => ?_
      rw [List.drop_eq_getElem_cons hlt] at y4
      refine hb xs[i] t s' I3 F N' σ3 e3 z2 _ (R.sat_imp (sat_mb.mp y4) fun c s2 q2 => ?_)
      have ex3 : Ex I I3 := ((a1.trans x1).trans y1).trans z1
      cases c with
      | rt y => exact fun v H4 I4 N4 σ4 a4 e4 r4 => q2 v H4 I4 N4 σ4 (ex3.trans a4) e4 r4
      | nx t' => exact fun I4 N4 σ4 a4 d4 e4 => ⟨t', s2, I4, N4, rfl, (y1.trans z1).trans a4, d4, e4, q2⟩
      | br t' => exact fun I4 N4 σ4 a4 d4 e4 => q2 I4 N4 σ4 (ex3.trans a4) d4 e4
    · have hi : i = xs.length := by omega
      subst hi
      rw [List.drop_length] at y4
      exact .inl ⟨(jt I' N' (x1.trans y1) y2).2, y4 I' N' σ' ((a1.trans x1).trans y1) y2 y3⟩)
/-- while, of so many turns at most -/
def whP {S τ : Type} : Nat → τ → (τ → Mn S Bool) → (τ → Mn S τ) → Mn S τ
  | 0, _, _, _ => mbad
  | n + 1, t, c, b => mb (c t) fun k => mi k (mb (b t) fun t' => whP n t' c b) (mp t)
theorem rp_while {tc : TT} {tb : TS} {Γ : S → List Sl} {n : Nat} {t0 : τ} {mc : τ → Mn S Bool} {body : τ → Mn S τ} {ΓL : τ → S → List Sl} (w : ∀ s, Wk (Γ s) (ΓL t0 s)) (hc : ∀ t, TM tc (ΓL t) (mc t)) (hb : ∀ t, RP tb (ΓL t) (body t) ΓL) :
    RP (tWhile tc tb) Γ (whP n t0 mc body) ΓL := fun s I F N σ e d D q => by
  obtain ⟨I2, N2, x1, x2, x3, x4⟩ := e.wk (w s) d
  refine ⟨fun m σ' H' => ∃ (t : τ) (s' : S) (I' N' : Hp), H' = ov N' I' ∧ Ex I2 I' ∧ Dis N' I' ∧ EnvOk I' F N' σ' (ΓL t s') ∧ (whP m t mc body s').sat (fun x s' => ∀ I' N' σ', Ex I I' → Dis N' I' → EnvOk I' F N' σ' (ΓL x s') → D.nx σ' (ov N' I')),
    ⟨n, t0, s, I2, N2, x3.symm, Ex.refl I2, x2, x4, q⟩, ?_⟩
  rintro m σ' H' ⟨t, s', I', N', rfl, y1, y2, y3, y4⟩
  cases m with
  | zero => exact y4.elim
  | succ m =>
    refine hc t s' I' F N' σ' y3 y2 _ (R.sat_imp (sat_mb.mp y4) fun k s2 q2 I3 N3 a3 d3 e3 => ?_)
    cases k with
    | true =>
      refine ⟨fun σ2 H2 => ∃ (t : τ) (s' : S) (I' N' : Hp), H2 = ov N' I' ∧ Ex I2 I' ∧ Dis N' I' ∧ EnvOk I' F N' σ2 (ΓL t s') ∧ (whP m t mc body s').sat (fun x s' => ∀ I' N' σ', Ex I I' → Dis N' I' → EnvOk I' F N' σ' (ΓL x s') → D.nx σ' (ov N' I')),
        fun σ2 H2 hN => ⟨m, Nat.lt_succ_self m, hN⟩, ?_⟩
      exact hb t s2 I3 F N3 σ' e3 d3 _ (R.sat_imp (sat_mb.mp q2) fun t' s3 q3 I4 N4 σ4 a4 d4 e4 => ⟨t', s3, I4, N4, rfl, (y1.trans a3).trans a4, d4, e4, q3⟩)
    | false => exact q2 I3 N3 σ' ((x1.trans y1).trans a3) d3 e3
/-- .. with ways out -/
def whC {S τ ρ β : Type} : Nat → τ → (τ → Mn S Bool) → (τ → Mn S (Ct ρ τ τ)) → Mn S (Ct ρ τ β)
  | 0, _, _, _ => mbad
  | n + 1, t, c, b => mb (c t) fun k => mi k (mb (b t) fun u => match u with
    | .rt y => mp (.rt y)
    | .nx t' => whC n t' c b
    | .br t' => mp (.nx t')) (mp (.nx t))
theorem rc_while {tc : TT} {tb : TS} {Γ Γr : S → List Sl} {n : Nat} {t0 : τ} {mc : τ → Mn S Bool} {body : τ → Mn S (Ct ρ τ τ)} {ΓL : τ → S → List Sl} {Γb : β → S → List Sl} (w : ∀ s, Wk (Γ s) (ΓL t0 s)) (hc : ∀ t, TM tc (ΓL t) (mc t)) (hb : ∀ t, RC Ret tb (ΓL t) (body t) Γr ΓL ΓL) :
    RC Ret (tWhile tc tb) Γ (whC n t0 mc body) Γr ΓL Γb := fun s I F N σ e d D q => by
  obtain ⟨I2, N2, x1, x2, x3, x4⟩ := e.wk (w s) d
  refine ⟨fun m σ' H' => ∃ (t : τ) (s' : S) (I' N' : Hp), H' = ov N' I' ∧ Ex I2 I' ∧ Dis N' I' ∧ EnvOk I' F N' σ' (ΓL t s') ∧ (whC m t mc body s').sat (CtQ Ret D F Γr ΓL Γb I),
    ⟨n, t0, s, I2, N2, x3.symm, Ex.refl I2, x2, x4, q⟩, ?_⟩
  rintro m σ' H' ⟨t, s', I', N', rfl, y1, y2, y3, y4⟩
  cases m with
  | zero => exact y4.elim
  | succ m =>
    refine hc t s' I' F N' σ' y3 y2 _ (R.sat_imp (sat_mb.mp y4) fun k s2 q2 I3 N3 a3 d3 e3 => ?_)
    cases k with
    | true =>
      refine ⟨fun σ2 H2 => ∃ (t : τ) (s' : S) (I' N' : Hp), H2 = ov N' I' ∧ Ex I2 I' ∧ Dis N' I' ∧ EnvOk I' F N' σ2 (ΓL t s') ∧ (whC m t mc body s').sat (CtQ Ret D F Γr ΓL Γb I),
        fun σ2 H2 hN => ⟨m, Nat.lt_succ_self m, hN⟩, ?_⟩
      refine hb t s2 I3 F N3 σ' e3 d3 _ (R.sat_imp (sat_mb.mp q2) fun u s3 q3 => ?_)
      have ex3 : Ex I I3 := (x1.trans y1).trans a3
      cases u with
      | rt y => exact fun v H4 I4 N4 σ4 a4 e4 r4 => q3 v H4 I4 N4 σ4 (ex3.trans a4) e4 r4
      | nx t' => exact fun I4 N4 σ4 a4 d4 e4 => ⟨t', s3, I4, N4, rfl, (y1.trans a3).trans a4, d4, e4, q3⟩
      | br t' => exact fun I4 N4 σ4 a4 d4 e4 => q3 I4 N4 σ4 (ex3.trans a4) d4 e4
    | false => exact q2 I3 N3 σ' ((x1.trans y1).trans a3) d3 e3
end

/-! ### comprehensions -/
theorem EnvOk.sub {I F : Hp} : ∀ {N : Hp} {σ : L2.St} {Γ : List Sl}, EnvOk I F N σ Γ → ∀ {a : Addr}, N a = none → F a = none
  | _, _, _, .nil, a, h => h
  | _, _, _, .no o e, a, h => EnvOk.sub e h
  | _, _, _, .im q e, a, h => EnvOk.sub e h
  | _, _, _, .ow q d e, a, h => EnvOk.sub e (ov_none h).2
def NoAt (Γ : List Sl) (vs : List Nat) : Prop := vs.all (fun v => match Γ[v]? with | some .no => true | _ => false) = true
theorem NoAt.at {Γ : List Sl} {vs : List Nat} (h : NoAt Γ vs) {v : Nat} (hv : v ∈ vs) : Γ[v]? = some .no := by
  have q := List.all_eq_true.mp h v hv
  cases e : Γ[v]? with
  | none => rw [e] at q; cases q
  | some a =>
    cases a with
    | no => rfl
    | im p => rw [e] at q; cases q
    | ow p => rw [e] at q; cases q
/-- slots of which nothing is known may hold anything -/
theorem EnvOk.ext {I F : Hp} : ∀ {N : Hp} {σ : L2.St} {Γ : List Sl} {σ' : L2.St}, EnvOk I F N σ Γ → σ.length = σ'.length → (∀ i : Nat, Γ[i]? ≠ some Sl.no → σ[i]? = σ'[i]?) → EnvOk I F N σ' Γ
  | _, _, _, σ', .nil, h, _ => by
    cases σ' with
    | nil => exact .nil
    | cons a b => simp at h
  | _, _, _, [], .no o e, h, _ => by simp at h
  | _, _, _, a :: σ', .no o e, h, g => .no a (EnvOk.ext e (by simpa using h) fun i hi => by have q := g (i + 1) (by simpa using hi); simpa using q)
  | _, _, _, [], .im q e, h, _ => by simp at h
  | _, _, _, a :: σ', .im q e, h, g => by
    have q0 := g 0 (by simp)
    have q1 : some _ = a := Option.some.inj q0
    subst q1
    exact .im q (EnvOk.ext e (by simpa using h) fun i hi => by have q := g (i + 1) (by simpa using hi); simpa using q)
  | _, _, _, [], .ow q d e, h, _ => by simp at h
  | _, _, _, a :: σ', .ow q d e, h, g => by
    have q0 := g 0 (by simp)
    have q1 : some _ = a := Option.some.inj q0
    subst q1
    exact .ow q d (EnvOk.ext e (by simpa using h) fun i hi => by have q := g (i + 1) (by simpa using hi); simpa using q)
theorem EnvOk.rewipe {I F N : Hp} {σ σ' : L2.St} {Γ : List Sl} {vs : List Nat} (e : EnvOk I F N σ Γ) (h : NoAt Γ vs) (w : wipe σ vs = wipe σ' vs) : EnvOk I F N σ' Γ := by
  refine e.ext ?_ fun i hi => ?_
  · have l := congrArg List.length w
    rw [wipe_length, wipe_length] at l
    exact l
  · have hv : i ∉ vs := fun q => hi (h.at q)
    have g := congrArg (fun z : L2.St => z[i]?) w
    have g2 : (wipe σ vs)[i]? = (wipe σ' vs)[i]? := g
    rw [wipe_get, wipe_get, if_neg hv, if_neg hv] at g2
    exact g2
section
variable {S α β : Type} [Rp α] [Rp β]
def cmGo {S α β : Type} : List α → List β → (α → Mn S Bool) → (α → Mn S β) → Mn S (List β)
  | [], acc, _, _ => mp acc
  | x :: xs, acc, c, f => mb (c x) fun k => mi k (mb (f x) fun y => cmGo xs (acc ++ [y]) c f) (cmGo xs acc c f)
/-- [f(x) for x in xs if c(x)] -/
def cmP {S α β : Type} (xs : List α) (c : α → Mn S Bool) (f : α → Mn S β) : Mn S (List β) := mb (mc (decide (xs.length ≤ 16000000)) ()) fun _ => cmGo xs [] c f
theorem em_lc {wi : TI} {g : TG} {tt : TT} {te : TE} {vs : List Nat} {Γ : S → List Sl} {mx : Mn S (List α)} {c : α → Mn S Bool} {f : α → Mn S β} {Γx : α → S → List Sl} {js : List Nat} (hi : IM K wi Γ mx) (hv : ∀ s, NoAt (Γ s) vs)
    (hg : ∀ x s, GT K g (Γ s) x (Γx x s) js) (hj : js.all (fun j => vs.contains j) = true) (hc : ∀ x, TM tt (Γx x) (c x)) (hf : ∀ x, EM K te (Γx x) (f x)) (wb : ∀ x s, Wk (Γx x s) (Γ s)) : EM K (tLc wi g tt te vs) Γ (mb mx fun xs => cmP xs c f) := fun s I F N σ e d Q q =>
  hi s I F N σ e d _ (R.sat_imp (sat_mb.mp q) fun xs s1 q J I1 N1 a1 d1 e1 jt => by
    obtain ⟨hlen, q⟩ := sat_mc.mp (sat_mb.mp q)
    have hlen := of_decide_eq_true hlen
    intro D hD
    obtain ⟨hD1, hD2⟩ := ov_none hD
    have hDF : F D = none := e1.sub hD1
    have hjs : ∀ j ∈ js, j ∈ vs := fun j hj' => by simpa using List.all_eq_true.mp hj j hj'
    refine ⟨fun i m H' => m = xs.length - i ∧ i ≤ xs.length ∧ ∃ (s' : S) (I' N' : Hp) (acc : List β) (us : List V), H' = ov (ov (sing D (.lst us)) N') I' ∧ Ex I1 I' ∧ Dis N' I' ∧ I' D = none ∧ N' D = none ∧ EnvOk I' F N' σ (Γ s') ∧ Rs K acc I' us ∧ acc.length ≤ i ∧
      (cmGo (xs.drop i) acc c f s').sat (fun x s' => ∀ v I' M', Ex I I' → Dis M' I' → EnvOk I' F M' σ (Γ s') → Rp.r K x I' v → Q v (ov M' I')),
      ⟨xs.length, rfl, Nat.zero_le _, s1, I1, N1, [], [], by rw [upd_sing, ov_assoc], Ex.refl I1, d1, hD2, hD1, e1, .nil, Nat.le_refl _, q⟩, ?_⟩
    rintro i m H' ⟨rfl, hle, s', I', N', acc, us, rfl, y1, y2, y3, y4, y5, y6, y7, y8⟩
    have dG : Dis (sing D (.lst us)) N' := dis_sing y4
    have dGI : Dis (ov (sing D (.lst us)) N') I' := dis_ov (dis_sing y3) y2
    by_cases hlt : i < xs.length
    · have hx : xs[i]? = some xs[i] := List.getElem?_eq_getElem hlt
      have j1 := (jt I' _ y1 dGI).1 i _ hx
      refine .inr ⟨j1.1, fun H' => ∃ (s' : S) (I' N' : Hp) (acc : List β) (us : List V), H' = ov (ov (sing D (.lst us)) N') I' ∧ Ex I1 I' ∧ Dis N' I' ∧ I' D = none ∧ N' D = none ∧ EnvOk I' F N' σ (Γ s') ∧ Rs K acc I' us ∧ acc.length ≤ i + 1 ∧
        (cmGo (xs.drop (i + 1)) acc c f s').sat (fun x s' => ∀ v I' M', Ex I I' → Dis M' I' → EnvOk I' F M' σ (Γ s') → Rp.r K x I' v → Q v (ov M' I')), fun H' hN => ⟨xs.length - (i + 1), by omega, rfl, hlt, hN⟩, fun v H2 hy => ?_⟩
      obtain ⟨I3, rfl, z1, z2, z3⟩ := j1.2 v H2 hy
      have ew : EnvOk I3 (ov (sing D (.lst us)) F) (ov (sing D (.lst us)) N') (wipe σ vs) (Γ s') := by
        have e3 := (y5.up z1).frame dG
        refine e3.rewipe (hv s') ?_
        rw [wipe_wipe]
      refine hg xs[i] s' I3 _ _ _ v ew z2 z3 _ fun σ3 e3 w3 => ?_
      have w4 : wipe σ3 vs = wipe σ vs := by rw [w3 vs hjs, wipe_wipe]
      refine ⟨w4, ?_⟩
      rw [List.drop_eq_getElem_cons hlt] at y8
      refine hc xs[i] s' I3 _ _ σ3 e3 z2 _ (R.sat_imp (sat_mb.mp y8) fun k s2 q2 I4 N4 a4 d4 e4 => ?_)
      have back : ∀ {I5 M5 : Hp} {s5 : S}, EnvOk I5 (ov (sing D (.lst us)) F) M5 σ3 (Γx xs[i] s5) → Dis M5 I5 → ∃ I6 N6, Ex I5 I6 ∧ ov M5 I5 = ov (ov (sing D (.lst us)) N6) I6 ∧ Dis N6 I6 ∧ I6 D = none ∧ N6 D = none ∧ EnvOk I6 F N6 σ (Γ s5) := fun {I5 M5 s5} e5 d5 => by
        obtain ⟨I6, M6, x1, x2, x3, x4⟩ := e5.wk (wb xs[i] s5) d5
        obtain ⟨N6, h1, h2, h3⟩ := x4.unframe (dis_sing hDF)
        subst h1
        obtain ⟨x5, x6⟩ := dis_ov_l x2
        exact ⟨I6, N6, x1, x3.symm, x6, x5.some_l sing_same, h2.some_l sing_same, h3.rewipe (hv s5) w4⟩
      cases k with
      | true =>
        show te σ3 (ov N4 I4) _
        refine hf xs[i] s2 I4 _ N4 σ3 e4 d4 _ (R.sat_imp (sat_mb.mp q2) fun y s3 q3 u I5 N5 a5 d5 e5 r5 => ?_)
        obtain ⟨I6, N6, b1, b2, b3, b4, b5, b6⟩ := back e5 d5
        refine ⟨us, ?_, ?_, s3, I6, N6, acc ++ [y], us ++ [u], ?_, ((((y1.trans z1).trans a4).trans a5).trans b1), b3, b4, b5, b6, (rs_up (((z1.trans a4).trans a5).trans b1) y6).append (.cons (Rp.up b1 r5) .nil), by rw [List.length_append]; simpa using y7, q3⟩
        · rw [b2]; exact ov_l (ov_l sing_same)
        · rw [← y6.length]
          exact Nat.lt_of_le_of_lt (Nat.le_trans y7 (Nat.le_trans (Nat.le_of_lt hlt) hlen)) (by decide)
        · rw [b2, upd_own]
      | false =>
        obtain ⟨I6, N6, b1, b2, b3, b4, b5, b6⟩ := back e4 d4
        exact ⟨s2, I6, N6, acc, us, b2, ((y1.trans z1).trans a4).trans b1, b3, b4, b5, b6, rs_up ((z1.trans a4).trans b1) y6, by omega, q2⟩
    · have hi : i = xs.length := by omega
      subst hi
      rw [List.drop_length] at y8
      refine .inl ⟨(jt I' _ y1 dGI).2, ?_⟩
      have dG2 : Dis (sing D (.lst us)) I' := dis_sing y3
      have e9 : ov (ov (sing D (.lst us)) N') I' = ov N' (ov (sing D (.lst us)) I') := by rw [ov_comm dG, ov_assoc]
      rw [e9]
      exact y8 _ _ N' ((a1.trans y1).trans (ex_ov dG2)) (dis_ov_r dG.symm y2) (y5.up (ex_ov dG2)) ⟨D, us, rfl, ov_l sing_same, rs_up (ex_ov dG2) y6⟩)
theorem tm_yes {Γ : S → List Sl} : TM tYes Γ (mp true) := fun s I F N σ e d Q q => q I N (Ex.refl I) d e
end

/-! ### a def's body keeps its promise -/
def tagL : List V → List Sl → List Sl
  | v :: vs, .ow P :: Γ => .ow (P.at v) :: tagL vs Γ
  | _ :: vs, a :: Γ => a :: tagL vs Γ
  | _, Γ => Γ
def tagR : List V → List Sl → List Sl
  | v :: vs, .ow P :: Γ => .ow (P.at v) :: tagR vs Γ
  | _ :: vs, .im _ :: Γ => .no :: tagR vs Γ
  | _ :: vs, a :: Γ => a :: tagR vs Γ
  | _, Γ => Γ
theorem EnvOk.tag {I F : Hp} : ∀ {vs : List V} {N : Hp} {Γ : List Sl}, EnvOk I F N (vs.map some) Γ → EnvOk I F N (vs.map some) (tagL vs Γ)
  | [], _, _, .nil => .nil
  | v :: vs, N, Γ, e => by
    have e1 : EnvOk I F N (some v :: vs.map some) Γ := e
    show EnvOk I F N (some v :: vs.map some) (tagL (v :: vs) Γ)
    cases e1 with
    | no o e2 => exact .no _ (EnvOk.tag e2)
    | im q e2 => exact .im q (EnvOk.tag e2)
    | ow q d e2 => exact .ow ⟨rfl, q⟩ d (EnvOk.tag e2)
theorem EnvOk.untag {S : Type} {s s' : S} {I I' F F' : Hp} (x : Ex I I') {k : Nat} : ∀ {As : List (Ar S)} {vs : List V} {N N' : Hp} {σ' : L2.St}, EnvOk I F N (vs.map some) (As.map (Ar.sl s)) → EnvOk I' F' N' σ' (tagR vs (As.map (Ar.sl s')) ++ List.replicate k .no) → EnvOk I' F' N' (vs.map some) (As.map (Ar.sl s'))
  | [], [], _, _, _, _, e' => by
    cases EnvOk.nos (k := k) e'
    exact .nil
  | [], _ :: _, _, _, _, e, _ => by cases e
  | .im p :: As, v :: vs, _, _, σ', e, e' => by
    have e1 : EnvOk I F _ (some v :: vs.map some) (.im p :: As.map (Ar.sl s)) := e
    have e2 : EnvOk I' F' _ σ' (.no :: (tagR vs (As.map (Ar.sl s')) ++ List.replicate k .no)) := e'
    cases e1 with
    | im q e1 =>
      cases e2 with
      | no o e2 => exact .im (p.up x q) (EnvOk.untag x e1 e2)
  | .im p :: As, [], _, _, _, e, _ => by cases e
  | .ow P :: As, [], _, _, _, e, _ => by cases e
  | .ow P :: As, v :: vs, _, _, σ', e, e' => by
    have e1 : EnvOk I F _ (some v :: vs.map some) (.ow (P s) :: As.map (Ar.sl s)) := e
    have e2 : EnvOk I' F' _ σ' (.ow ((P s').at v) :: (tagR vs (As.map (Ar.sl s')) ++ List.replicate k .no)) := e'
    cases e1 with
    | ow q d e1 =>
      cases e2 with
      | ow q2 d2 e2 =>
        obtain ⟨q3, q4⟩ := q2
        cases q3
        exact .ow q4 d2 (EnvOk.untag x e1 e2)
theorem prom_ok {S ρ ι : Type} {Ret : RetT ρ} {As : ι → List (Ar S)} {m : ι → Mn S ρ} {t : TS} {N : List Str} {vs : List V} {H : Hp} {Q : VK} {E : XK} {n : Nat} (k : Nat) (hA : ∀ i, (As i).length = n) (hk : N.length - n = k)
    (h : ∀ i, RN Ret t (fun s => tagL vs ((As i).map (Ar.sl s)) ++ List.replicate k .no) (m i) (fun s => tagR vs ((As i).map (Ar.sl s)) ++ List.replicate k .no)) (p : Prom Ret As m vs H Q E) : t { nx := fun _ H' => Q .non H', rt := Q } (L2.start N vs) H := by
  have hl := prom_len hA vs H Q E p
  obtain ⟨i, s, I, F, M, rfl, d, e, q⟩ := p
  have e0 : L2.start N vs = vs.map some ++ List.replicate k none := by unfold L2.start; rw [hl, hk]
  rw [e0]
  exact h i s I F M _ (e.tag.app k) d _ (fun σ H q => q) (R.sat_imp q fun x s' q v H' I' N' σ' a1 e1 r1 => q v H' I' N' a1 (e.untag a1 e1) r1)
end
end Mir

/-! Mir6: owned things made, stored, changed; built-ins; calls by names -/
namespace Mir
open PySem L2
section
variable {K : PySem.W.Frag}
/-! ### owned things -/
section
variable {S ρ α β ζ τ : Type} [Rp α] [Rp β] {Γ : S → List Sl} {te ta tb : TE} {tl : TA} {xs : List α}
/-- handed back as owned: so it may be kept as it is -/
theorem em_own {m : Mn S α} {P : α → OP} (h : EO te Γ m (rOw P)) (fr : ∀ x I a Ma, Dis Ma I → (P x).r I a Ma → Rp.r K x (ov Ma I) (.ref a)) : EM K te Γ m := fun s I F N σ e d Q q => h s I F N σ e d Q (R.sat_imp q fun x s' q v H' I' N' a1 e1 ⟨a, Ma, h1, h2, h3, h4, h5⟩ => by
  obtain ⟨y1, y2⟩ := dis_ov_l h3
  subst h1 h4
  have e9 : ov (ov Ma N') I' = ov N' (ov Ma I') := by rw [ov_comm h2, ov_assoc]
  rw [e9]
  exact q _ _ N' (a1.trans (ex_ov y1)) (dis_ov_r h2.symm y2) (e1.up (ex_ov y1)) (fr x I' a Ma y1 h5))
theorem em_ownL {m : Mn S (List α)} (h : EO te Γ m (rOw (ol K))) : EM K te Γ m := em_own h fun x I a Ma d q => fr_ol I a Ma d q
/-- a new list -/
theorem new_list {I N : Hp} {p : Addr} {vs : List V} (d : Dis N I) (hp : ov N I p = none) (r : Rs K xs I vs) : rOw (ol K) xs (.ref p) I N (upd (ov N I) p (.lst vs)) := by
  obtain ⟨h1, h2⟩ := ov_none hp
  exact ⟨p, sing p (.lst vs), rfl, dis_sing h1, dis_ov (dis_sing h2) d, by rw [upd_sing, ov_assoc], vs, rfl, r⟩
theorem eo_lst (h : ∀ s, AP tl (Γ s) (xs.map (pv K))) (hl : xs.length ≤ 1000 := by decide) : EO (tLst tl) Γ (mp xs) (rOw (ol K)) := fun s I F N σ e d Q q => h s I F N σ e d _ fun vs I1 a1 d1 r1 => by
  have r := rs_of r1
  exact ⟨by rw [← r.length]; exact sz2 hl, fun p hp => q _ _ I1 N a1 (e.up a1) (new_list d1 hp r)⟩
theorem eo_lstM {m : Mn S ζ} {f : ζ → List α} (h : AM tl Γ m fun z => (f z).map (pv K)) (hl : ∀ z, (f z).length ≤ 1000 := by intro _; decide) : EO (tLst tl) Γ (mb m fun z => mp (f z)) (rOw (ol K)) := fun s I F N σ e d Q q => h s I F N σ e d _ (R.sat_imp (sat_mb.mp q) fun z s1 q vs I1 N1 a1 d1 e1 r1 => by
  have r := rs_of r1
  exact ⟨by rw [← r.length]; exact sz2 (hl z), fun p hp => q _ _ I1 N1 a1 e1 (new_list d1 hp r)⟩)
/-- a list of written values of several types -/
theorem eo_hl {x : ρ} {P : ρ → OP} {ps : List PV} {us : List V} (h : ∀ s, AP tl (Γ s) ps) (hu : ∀ I vs, All2 (fun (p : PV) v => p.r I v) ps vs → vs = us) (hP : P x = hl us) (hl : us.length ≤ 1000 := by decide) : EO (tLst tl) Γ (mp x) (rOw P) := fun s I F N σ e d Q q => h s I F N σ e d _ fun vs I1 a1 d1 r1 => by
  have e1 := hu _ _ r1
  subst e1
  refine ⟨sz2 hl, fun p hp => ?_⟩
  obtain ⟨h1, h2⟩ := ov_none hp
  refine q _ _ I1 N a1 (e.up a1) ⟨p, sing p (.lst vs), rfl, dis_sing h1, dis_ov (dis_sing h2) d1, by rw [upd_sing, ov_assoc], ?_⟩
  rw [hP]
  rfl
theorem eo_hlM {m : Mn S ζ} {f : ζ → ρ} {P : ρ → OP} {ps : ζ → List PV} {us : ζ → List V} (h : AM tl Γ m ps) (hu : ∀ z I vs, All2 (fun (p : PV) v => p.r I v) (ps z) vs → vs = us z) (hP : ∀ z, P (f z) = Mir.hl (us z)) (hl : ∀ z, (us z).length ≤ 1000 := by intro _; decide) : EO (tLst tl) Γ (mb m fun z => mp (f z)) (rOw P) := fun s I F N σ e d Q q => h s I F N σ e d _ (R.sat_imp (sat_mb.mp q) fun z s1 q vs I1 N1 a1 d1 e1 r1 => by
  have e2 := hu z _ _ r1
  subst e2
  refine ⟨sz2 (hl z), fun p hp => ?_⟩
  obtain ⟨h1, h2⟩ := ov_none hp
  refine q _ _ I1 N1 a1 e1 ⟨p, sing p (.lst _), rfl, dis_sing h1, dis_ov (dis_sing h2) d1, by rw [upd_sing, ov_assoc], ?_⟩
  rw [hP]
  rfl)
/-- x = e, e something owned -/
theorem rp_take {i : Nat} {m : Mn S ρ} {P : ρ → OP} {Γ' : ρ → S → List Sl} (h : EO te Γ m (rOw P)) (hn : ∀ s, NotOw (Γ s) i) (hl : ∀ s, i < (Γ s).length) (hΓ : ∀ x s, (Γ s).set i (.ow (P x)) = Γ' x s) : RP (tAsg te (gName i)) Γ m Γ' := fun s I F N σ e d D q =>
  h s I F N σ e d _ (R.sat_imp q fun x s' q v H' I' N' a1 e1 ⟨a, Ma, h1, h2, h3, h4, h5⟩ => by
    subst h1 h4
    refine q I' _ _ a1 h3 ?_
    rw [← hΓ]
    exact e1.take h5 (hn s') (hl s') h2)
/-- .. and from there on it is the state -/
def mrun {S α : Type} (s : S) (m : Mn S α) : Mn Unit α := fun _ => match m s with
  | .ok a _ => .ok a ()
  | .bad => .bad
theorem sat_mrun {S α : Type} {s : S} {m : Mn S α} {Q : α → Unit → Prop} : (mrun s m ()).sat Q ↔ (m s).sat fun a _ => Q a () := by
  unfold mrun
  cases m s <;> exact Iff.rfl
section
variable {Γ0 : Unit → List Sl} {Γ2 : S → List Sl} {i : Nat} {m : Mn Unit S} {P : S → OP} {t2 : TS} {Ret : RetT ρ}
theorem op_take (h : EO te Γ0 m (rOw P)) (hn : NotOw (Γ0 ()) i) (hl : i < (Γ0 ()).length) (hΓ : ∀ b, (Γ0 ()).set i (.ow (P b)) = Γ2 b) {I F N : Hp} {σ : L2.St} (e : EnvOk I F N σ (Γ0 ())) (d : Dis N I) {D : Ends} {Q : S → Unit → Prop} (q : (m ()).sat Q) (k : ∀ b I1 N1 σ1, Ex I I1 → Dis N1 I1 → EnvOk I1 F N1 σ1 (Γ2 b) → Q b () → t2 D σ1 (ov N1 I1)) : tSeq (tAsg te (gName i)) t2 D σ (ov N I) :=
  h () I F N σ e d _ (R.sat_imp q fun b s' q v H' I' N' a1 e1 ⟨a, Ma, h1, h2, h3, h4, h5⟩ => by
    subst h1 h4
    refine k b I' _ _ a1 h3 ?_ q
    rw [← hΓ]
    exact e1.take h5 hn hl h2)
theorem rt_open {Γr : Unit → List Sl} {m2 : Mn S ρ} (h : EO te Γ0 m (rOw P)) (hn : NotOw (Γ0 ()) i) (hl : i < (Γ0 ()).length) (hΓ : ∀ b, (Γ0 ()).set i (.ow (P b)) = Γ2 b) (h2 : RT Ret t2 Γ2 m2 fun _ => Γr ()) : RT Ret (tSeq (tAsg te (gName i)) t2) Γ0 (mb m fun b => mrun b m2) Γr := fun s I F N σ e d D q =>
  op_take h hn hl hΓ e d (sat_mb.mp q) fun b I1 N1 σ1 a1 d1 e1 q => h2 b I1 F N1 σ1 e1 d1 D (R.sat_imp (sat_mrun.mp q) fun y s2 q v H2 I2 N2 σ2 a2 e2 r2 => q v H2 I2 N2 σ2 (a1.trans a2) e2 r2)
theorem rp_open {Γ' : τ → Unit → List Sl} {m2 : Mn S τ} (h : EO te Γ0 m (rOw P)) (hn : NotOw (Γ0 ()) i) (hl : i < (Γ0 ()).length) (hΓ : ∀ b, (Γ0 ()).set i (.ow (P b)) = Γ2 b) (h2 : RP t2 Γ2 m2 fun x _ => Γ' x ()) : RP (tSeq (tAsg te (gName i)) t2) Γ0 (mb m fun b => mrun b m2) Γ' := fun s I F N σ e d D q =>
  op_take h hn hl hΓ e d (sat_mb.mp q) fun b I1 N1 σ1 a1 d1 e1 q => h2 b I1 F N1 σ1 e1 d1 D (R.sat_imp (sat_mrun.mp q) fun y s2 q I2 N2 σ2 a2 d2 e2 => q I2 N2 σ2 (a1.trans a2) d2 e2)
theorem rc_open {β : Type} {Γr : Unit → List Sl} {Γ' : τ → Unit → List Sl} {Γb : β → Unit → List Sl} {m2 : Mn S (Ct ρ τ β)} (h : EO te Γ0 m (rOw P)) (hn : NotOw (Γ0 ()) i) (hl : i < (Γ0 ()).length) (hΓ : ∀ b, (Γ0 ()).set i (.ow (P b)) = Γ2 b) (h2 : RC Ret t2 Γ2 m2 (fun _ => Γr ()) (fun x _ => Γ' x ()) fun x _ => Γb x ()) : RC Ret (tSeq (tAsg te (gName i)) t2) Γ0 (mb m fun b => mrun b m2) Γr Γ' Γb := fun s I F N σ e d D q =>
  op_take h hn hl hΓ e d (sat_mb.mp q) fun b I1 N1 σ1 a1 d1 e1 q => h2 b I1 F N1 σ1 e1 d1 D (R.sat_imp (sat_mrun.mp q) fun c s2 q => by
    cases c with
    | rt x => exact fun v H2 I2 N2 σ2 a2 e2 r2 => q v H2 I2 N2 σ2 (a1.trans a2) e2 r2
    | nx x => exact fun I2 N2 σ2 a2 d2 e2 => q I2 N2 σ2 (a1.trans a2) d2 e2
    | br x => exact fun I2 N2 σ2 a2 d2 e2 => q I2 N2 σ2 (a1.trans a2) d2 e2)
end

/-! ### what is owned, read: an expression of a written type -/
def noOw (Γ : List Sl) : Bool := Γ.all fun a => !isOw a
theorem EnvOk.noOw {I F : Hp} : ∀ {N : Hp} {σ : L2.St} {Γ : List Sl}, EnvOk I F N σ Γ → Mir.noOw Γ = true → N = F
  | _, _, _, .nil, _ => rfl
  | _, _, _, .no o e, h => EnvOk.noOw e h
  | _, _, _, .im q e, h => EnvOk.noOw e h
  | _, _, _, .ow q d e, h => by cases h
theorem EnvOk.subF {I F : Hp} : ∀ {N : Hp} {σ : L2.St} {Γ : List Sl}, EnvOk I F N σ Γ → ∀ {a : Addr} {o : HO}, F a = some o → N a = some o
  | _, _, _, .nil, a, o, h => h
  | _, _, _, .no _ e, a, o, h => EnvOk.subF e h
  | _, _, _, .im q e, a, o, h => EnvOk.subF e h
  | _, _, _, .ow q d e, a, o, h => by
    have h1 := EnvOk.subF e h
    rw [ov_r (d.some_r h1)]
    exact h1
theorem bor {I F N : Hp} {σ : L2.St} {Γs Γ0 : List Sl} (e : EnvOk I F N σ Γs) (d : Dis N I) (w : Wk Γs Γ0) (n : noOw Γ0 = true) : ∃ I1, Dis F I1 ∧ EnvOk I1 F F σ Γ0 ∧ ov F I1 = ov N I ∧ (∀ I2, Ex I1 I2 → Dis F I2 → ∃ I3, Ex I I3 ∧ Dis N I3 ∧ ov N I3 = ov F I2) := by
  obtain ⟨I1, N1, x1, x2, x3, x4⟩ := e.wk w d
  cases x4.noOw n
  refine ⟨I1, x2, x4, x3, fun I2 a2 d2 => ⟨fun a => match N a with
    | some _ => none
    | none => I2 a, fun a o h => ?_, fun a => ?_, ?_⟩⟩
  · have hN := d.some_r h
    show (match N a with | some _ => none | none => I2 a) = some o
    rw [hN]
    exact a2 a o (x1 a o h)
  · cases hN : N a with
    | none => exact .inl rfl
    | some o =>
      refine .inr ?_
      show (match N a with | some _ => none | none => I2 a) = none
      rw [hN]
  · funext a
    cases hN : N a with
    | none =>
      rw [ov_r hN]
      show (match N a with | some _ => none | none => I2 a) = _
      rw [hN, ov_r (e.sub hN)]
    | some o =>
      rw [ov_l hN]
      cases hF : F a with
      | some u =>
        rw [ov_l hF]
        have := e.subF hF
        rw [hN] at this
        exact this
      | none =>
        rw [ov_r hF]
        have h1 : ov F I1 a = ov N I a := by rw [x3]
        rw [ov_l hN, ov_r hF] at h1
        exact (a2 a o h1).symm
theorem em_bor [Sc α] {Γ0 : List Sl} {m0 : Mn Unit α} (w : ∀ s, Wk (Γ s) Γ0) (n : noOw Γ0 = true) (h : EM K te (fun _ : Unit => Γ0) m0) : EM K te Γ (mu m0) := fun s I F N σ e d Q q => by
  obtain ⟨I1, x1, x2, x3, x4⟩ := bor e d (w s) n
  rw [← x3]
  refine h () I1 F F σ x2 x1 Q (R.sat_imp (sat_mu.mp q) fun x _ q v I2 N2 a2 d2 e2 r2 => ?_)
  cases e2.noOw n
  obtain ⟨I3, y1, y2, y3⟩ := x4 I2 a2 d2
  rw [← y3]
  exact q v I3 N y1 y2 (e.up y1) (Sc.eq.mpr (Sc.eq.mp r2))
theorem tm_bor {tt : TT} {Γ0 : List Sl} {m0 : Mn Unit Bool} (w : ∀ s, Wk (Γ s) Γ0) (n : noOw Γ0 = true) (h : TM tt (fun _ : Unit => Γ0) m0) : TM tt Γ (mu m0) := fun s I F N σ e d Q q => by
  obtain ⟨I1, x1, x2, x3, x4⟩ := bor e d (w s) n
  rw [← x3]
  refine h () I1 F F σ x2 x1 Q (R.sat_imp (sat_mu.mp q) fun x _ q I2 N2 a2 d2 e2 => ?_)
  cases e2.noOw n
  obtain ⟨I3, y1, y2, y3⟩ := x4 I2 a2 d2
  rw [← y3]
  exact q I3 N y1 y2 (e.up y1)
theorem ep_bor [Sc α] {Γ1 Γ0 : List Sl} {x : α} (w : Wk Γ1 Γ0) (n : noOw Γ0 = true) (h : EP te Γ0 (pv K x)) : EP te Γ1 (pv K x) := fun I F N σ e d Q q => by
  obtain ⟨I1, x1, x2, x3, x4⟩ := bor e d w n
  rw [← x3]
  refine h I1 F F σ x2 x1 Q fun v I2 a2 d2 r2 => ?_
  obtain ⟨I3, y1, y2, y3⟩ := x4 I2 a2 d2
  rw [← y3]
  exact q v I3 y1 y2 (Sc.eq.mpr (Sc.eq.mp r2))
theorem tp_bor {tt : TT} {Γ1 Γ0 : List Sl} {b : Bool} (w : Wk Γ1 Γ0) (n : noOw Γ0 = true) (h : TP tt Γ0 b) : TP tt Γ1 b := fun I F N σ e d Q q => by
  obtain ⟨I1, x1, x2, x3, x4⟩ := bor e d w n
  rw [← x3]
  refine h I1 F F σ x2 x1 Q fun I2 a2 d2 => ?_
  obtain ⟨I3, y1, y2, y3⟩ := x4 I2 a2 d2
  rw [← y3]
  exact q I3 y1 y2

/-! ### an owned list changes -/
/-- what a slot owns changes in place: j the slot -/
theorem own_upd {P' : OP} {I F N I' N' : Hp} {Γs : List Sl} {σ : L2.St} {j : Nat} {a : Addr} {vs us : List V} (e : EnvOk I F N σ Γs) (d : Dis N I) {P : OP} (hj : Γs[j]? = some (.ow P)) (hσ : σ[j]? = some (some (.ref a))) (hP : ∀ I a Ma, P.r I a Ma → ∃ vs, Ma = sing a (.lst vs)) (hP' : P'.r I a (sing a (.lst us))) :
    ∃ N', upd (ov N I) a (.lst us) = ov N' I ∧ Dis N' I ∧ EnvOk I F N' σ (Γs.set j (.ow P')) := by
  obtain ⟨a', Ma, M', h1, h2, h3, h4, h5, _⟩ := e.foc hj
  rw [hσ] at h1
  cases h1
  obtain ⟨ws, hw⟩ := hP _ _ _ h2
  subst hw h4
  obtain ⟨y1, y2⟩ := dis_ov_l d
  have z : Dis (sing a (.lst us)) I := dis_sing (y1.some_l sing_same)
  exact ⟨_, upd_own, dis_ov z y2, h5 I P' _ (Ex.refl I) (dis_sing (h3.some_l sing_same)) hP'⟩
theorem own_at {I F N : Hp} {Γs : List Sl} {σ : L2.St} {j : Nat} (e : EnvOk I F N σ Γs) (hj : Γs[j]? = some (.ow (ol K xs))) : ∃ a vs, σ[j]? = some (some (.ref a)) ∧ N a = some (.lst vs) ∧ Rs K xs I vs := by
  obtain ⟨a, Ma, M', h1, ⟨vs, h2, h3⟩, _, h4, _⟩ := e.foc hj
  exact ⟨a, vs, h1, by rw [h4, h2]; exact ov_l sing_same, h3⟩
theorem ol_sing : ∀ I a Ma, (ol K xs).r I a Ma → ∃ vs, Ma = sing a (.lst vs) := fun I a Ma ⟨vs, h, _⟩ => ⟨vs, h⟩
theorem sz16 {n : Nat} (h : n ≤ 16000000) : n < sizeLine := Nat.lt_of_le_of_lt h (by decide)
theorem sz16' {n : Nat} (h : n ≤ 16000000) : n ≤ sizeLine := Nat.le_of_lt (sz16 h)
def lenOk (n : Nat) : Bool := decide (n ≤ 16000000)
/-- xs.append(e) -/
theorem rp_app {j : Nat} {m : Mn S α} {Γ' : List α → S → List Sl} (hj : ∀ s, (Γ s)[j]? = some (.ow (ol K xs))) (h : EM K te Γ m) (hΓ : ∀ ys s, (Γ s).set j (.ow (ol K ys)) = Γ' ys s) : RP (tDrop (tBM K "list" rAppend (tVar j) (tCons te tNil))) Γ (mb m fun x => mc (lenOk xs.length) (xs ++ [x])) Γ' := fun s I F N σ e d D q => by
  obtain ⟨a, vs, h1, h2, h3⟩ := own_at e (hj s)
  refine ⟨_, h1, .inl ⟨rfl, vs, SqL.of (ov_l h2)⟩, h s I F N σ e d _ (R.sat_imp (sat_mb.mp q) fun x s1 q v I1 N1 a1 d1 e1 r1 => ?_)⟩
  obtain ⟨c, q⟩ := sat_mc.mp q
  have c := of_decide_eq_true c
  obtain ⟨a', us, h1', h2', h3'⟩ := own_at e1 (hj s1)
  rw [h1] at h1'
  cases h1'
  refine ⟨a, us, v, rfl, rfl, ov_l h2', sz16 (by rw [← h3'.length]; exact c), ?_⟩
  obtain ⟨N2, x1, x2, x3⟩ := own_upd (P' := ol K (xs ++ [x])) (us := us ++ [v]) (vs := us) (I' := I1) (N' := N1) e1 d1 (hj s1) h1 ol_sing ⟨_, rfl, h3'.append (.cons r1 .nil)⟩
  rw [x1]
  exact q I1 N2 σ a1 x2 (by rw [← hΓ]; exact x3)
/-- xs[i] = e -/
theorem rp_seti {j : Nat} {m : Mn S α} {mi' : Mn S Int} {Γ' : List α → S → List Sl} (hj : ∀ s, (Γ s)[j]? = some (.ow (ol K xs))) (h : EM K te Γ m) (h2 : EM K tb Γ mi') (hΓ : ∀ ys s, (Γ s).set j (.ow (ol K ys)) = Γ' ys s) : RP (tAsg te (gSub (tVar j) tb rSetL)) Γ (mb m fun x => mb mi' fun i => mo ((ixN xs.length i).map fun k => xs.set k x)) Γ' := fun s I F N σ e d D q =>
  h s I F N σ e d _ (R.sat_imp (sat_mb.mp q) fun x s1 q v I1 N1 a1 d1 e1 r1 => by
    obtain ⟨a, vs, g1, g2, g3⟩ := own_at e1 (hj s1)
    refine ⟨_, g1, h2 s1 I1 F N1 σ e1 d1 _ (R.sat_imp (sat_mb.mp q) fun i s2 q w I2 N2 a2 d2 e2 r2 => ?_)⟩
    obtain ⟨ys, hy, q⟩ := sat_mo.mp q
    obtain ⟨k, hk, rfl⟩ := Option.map_eq_some_iff.mp hy
    obtain ⟨a', us, g1', g2', g3'⟩ := own_at e2 (hj s2)
    rw [g1] at g1'
    cases g1'
    refine ⟨a, us, i, k, rfl, r2, ov_l g2', by rw [← g3'.length]; exact hk, ?_⟩
    obtain ⟨N3, x1, x2, x3⟩ := own_upd (P' := ol K (xs.set k x)) (us := us.set k v) (vs := us) (I' := I2) (N' := N2) e2 d2 (hj s2) g1 ol_sing ⟨_, rfl, All2.set (F := fun x v => Rp.r K x I2 v) (Rp.up a2 r1) k g3'⟩
    rw [x1]
    exact q I2 N3 σ (a1.trans a2) x2 (by rw [← hΓ]; exact x3))
/-- xs.pop(i), the item thrown away -/
theorem rp_popD {j : Nat} {m : Mn S Int} {Γ' : List α → S → List Sl} (hj : ∀ s, (Γ s)[j]? = some (.ow (ol K xs))) (h : EM K te Γ m) (hΓ : ∀ ys s, (Γ s).set j (.ow (ol K ys)) = Γ' ys s) : RP (tDrop (tBM K "list" rPopAt (tVar j) (tCons te tNil))) Γ (mb m fun i => mo (if decide (-(2 ^ 63) ≤ i ∧ i < 2 ^ 63) = true then (ixN xs.length i).map fun k => xs.eraseIdx k else none)) Γ' := fun s I F N σ e d D q => by
  obtain ⟨a, vs, h1, h2, h3⟩ := own_at e (hj s)
  refine ⟨_, h1, .inl ⟨rfl, vs, SqL.of (ov_l h2)⟩, h s I F N σ e d _ (R.sat_imp (sat_mb.mp q) fun i s1 q v I1 N1 a1 d1 e1 r1 => ?_)⟩
  obtain ⟨ys, hy, q⟩ := sat_mo.mp q
  by_cases c : decide (-(2 ^ 63) ≤ i ∧ i < 2 ^ 63) = true
  · rw [if_pos c] at hy
    have c := of_decide_eq_true c
    obtain ⟨k, hk, rfl⟩ := Option.map_eq_some_iff.mp hy
    obtain ⟨a', us, h1', h2', h3'⟩ := own_at e1 (hj s1)
    rw [h1] at h1'
    cases h1'
    rw [h3'.length] at hk
    obtain ⟨k1, k2, _⟩ := ixN_seq hk
    refine ⟨a, us, i, k, us[k], rfl, by rw [show v = V.int i from r1], ov_l h2', c.1, c.2, k1, List.getElem?_eq_getElem k2, ?_⟩
    obtain ⟨N2, x1, x2, x3⟩ := own_upd (P' := ol K (xs.eraseIdx k)) (us := us.eraseIdx k) (vs := us) (I' := I1) (N' := N1) e1 d1 (hj s1) h1 ol_sing ⟨_, rfl, All2.eraseIdx k h3'⟩
    rw [x1]
    exact q I1 N2 σ a1 x2 (by rw [← hΓ]; exact x3)
  · rw [if_neg c] at hy
    cases hy
/-- an owned list of written values: xs[i] = e, i written; b the state -/
theorem rp_hset {j : Nat} {m : Mn S α} {P : S → OP} {us : S → List V} {i : Int} {k : Nat} {sv : α → V} {f : α → S → S} (hj : ∀ s, (Γ s)[j]? = some (.ow (P s))) (hP : ∀ s I a M, (P s).r I a M → M = sing a (.lst (us s))) (hP' : ∀ x s I a M, (P s).r I a M → (P (f x s)).r I a (sing a (.lst ((us s).set k (sv x))))) (h : EM K te Γ m) (h2 : ∀ s, EP tb (Γ s) (pv K i)) (hk : ∀ s, ixN (us s).length i = some k) (hv : ∀ H x v, Rp.r K x H v → v = sv x)
    (hΓ : ∀ x s, (Γ s).set j (.ow (P (f x s))) = Γ (f x s)) : RP (tAsg te (gSub (tVar j) tb rSetL)) Γ (mb m fun x => ms (f x)) fun _ => Γ := fun s I F N σ e d D q =>
  h s I F N σ e d _ (R.sat_imp (sat_mb.mp q) fun x s1 q v I1 N1 a1 d1 e1 r1 => by
    obtain ⟨a, Ma, M', g1, g2, g3, g4, _⟩ := e1.foc (hj s1)
    refine ⟨_, g1, h2 s1 I1 F N1 σ e1 d1 _ fun w I2 a2 d2 r2 => ?_⟩
    have em := hP _ _ _ _ g2
    have e2 := e1.up a2
    refine ⟨a, us s1, i, k, rfl, r2, ?_, hk s1, ?_⟩
    · rw [g4, em]; exact ov_l (ov_l sing_same)
    · obtain ⟨N3, x1, x2, x3⟩ := own_upd (P' := P (f x s1)) (us := (us s1).set k (sv x)) (vs := []) (I' := I2) (N' := N1) e2 d2 (hj s1) g1 (fun I a M q => ⟨_, hP _ _ _ _ q⟩) (hP' x s1 I2 a Ma ((P s1).up a2 g2))
      rw [hv _ _ _ r1, x1]
      exact q I2 N3 σ (a1.trans a2) x2 (by show EnvOk I2 F N3 σ (Γ (f x s1)); rw [← hΓ]; exact x3))
end

/-! ### built-ins -/
section
variable {S α ζ : Type} [Rp α] {Γ1 : List Sl} {Γ : S → List Sl} {te ta tb : TE} {tl : TA} {ps : List PV} {w : PV} {I : Hp}
def Cb (r : List V → Hp → VK → Prop) (ps : List PV) (w : PV) : Prop := ∀ (I N : Hp) (vs : List V) (Q : VK), Dis N I → All2 (fun (p : PV) v => p.r I v) ps vs → (∀ v I', Ex I I' → Dis N I' → w.r I' v → Q v (ov N I')) → r vs (ov N I) Q
theorem ep_cb {r : List V → Hp → VK → Prop} (h : AP tl Γ1 ps) (c : Cb r ps w) : EP (tCB r tl) Γ1 w := fun I F N σ e d Q q => h I F N σ e d _ fun vs I1 a1 d1 r1 => c I1 N vs Q d1 r1 fun v I2 a2 d2 r2 => q v I2 (a1.trans a2) d2 r2
theorem em_cb {r : List V → Hp → VK → Prop} {m : Mn S ζ} {psf : ζ → List PV} {f : ζ → α} (h : AM tl Γ m psf) (c : ∀ z, Cb r (psf z) (pv K (f z))) : EM K (tCB r tl) Γ (mb m fun z => mp (f z)) := fun s I F N σ e d Q q =>
  h s I F N σ e d _ (R.sat_imp (sat_mb.mp q) fun z s1 q vs I1 N1 a1 d1 e1 r1 => c z I1 N1 vs Q d1 r1 fun v I2 a2 d2 r2 => q v I2 N1 (a1.trans a2) d2 (e1.up a2) r2)
theorem em_cbC {r : List V → Hp → VK → Prop} {m : Mn S ζ} {psf : ζ → List PV} {f : ζ → α} {g : ζ → Bool} (h : AM tl Γ m psf) (c : ∀ z, g z = true → Cb r (psf z) (pv K (f z))) : EM K (tCB r tl) Γ (mb m fun z => mc (g z) (f z)) := fun s I F N σ e d Q q =>
  h s I F N σ e d _ (R.sat_imp (sat_mb.mp q) fun z s1 q vs I1 N1 a1 d1 e1 r1 => c z (sat_mc.mp q).1 I1 N1 vs Q d1 r1 fun v I2 a2 d2 r2 => (sat_mc.mp q).2 v I2 N1 (a1.trans a2) d2 (e1.up a2) r2)
/-- one argument -/
theorem cb1 {r : List V → Hp → VK → Prop} {p : PV} (h : ∀ (I N : Hp) (v : V) (Q : VK), Dis N I → p.r I v → (∀ v I', Ex I I' → Dis N I' → w.r I' v → Q v (ov N I')) → r [v] (ov N I) Q) : Cb r [p] w := fun I N vs Q d a q => by
  obtain ⟨v, _, rfl, r1, a⟩ := all2_c a
  cases all2_n a
  exact h I N v Q d r1 q
theorem cb2 {r : List V → Hp → VK → Prop} {p p2 : PV} (h : ∀ (I N : Hp) (v u : V) (Q : VK), Dis N I → p.r I v → p2.r I u → (∀ v I', Ex I I' → Dis N I' → w.r I' v → Q v (ov N I')) → r [v, u] (ov N I) Q) : Cb r [p, p2] w := fun I N vs Q d a q => by
  obtain ⟨v, _, rfl, r1, a⟩ := all2_c a
  obtain ⟨u, _, rfl, r2, a⟩ := all2_c a
  cases all2_n a
  exact h I N v u Q d r1 r2 q
theorem c_abs {i : Int} : Cb (fun xs H Q => ∃ i, xs = [.int i] ∧ Q (.int (if i < 0 then -i else i)) H) [pv K i] (pv K (if i < 0 then -i else i)) := cb1 fun I N v Q d h q => ⟨i, by rw [show v = V.int i from h], q _ I (Ex.refl I) d rfl⟩
theorem c_max2 {i j : Int} : Cb (fun xs H Q => ∃ i j, xs = [.int i, .int j] ∧ Q (.int (if j > i then j else i)) H) [pv K i, pv K j] (pv K (if j > i then j else i)) := cb2 fun I N v u Q d h h2 q => ⟨i, j, by rw [show v = V.int i from h, show u = V.int j from h2], q _ I (Ex.refl I) d rfl⟩
theorem c_min2 {i j : Int} : Cb (fun xs H Q => ∃ i j, xs = [.int i, .int j] ∧ Q (.int (if j < i then j else i)) H) [pv K i, pv K j] (pv K (if j < i then j else i)) := cb2 fun I N v u Q d h h2 q => ⟨i, j, by rw [show v = V.int i from h, show u = V.int j from h2], q _ I (Ex.refl I) d rfl⟩
theorem c_int {i : Int} : Cb (fun xs H Q => (∃ i, xs = [.int i] ∧ Q (.int i) H) ∨ ∃ k, xs = [.bl k] ∧ Q (.int (if k then 1 else 0)) H) [pv K i] (pv K i) := cb1 fun I N v Q d h q => .inl ⟨i, by rw [show v = V.int i from h], q _ I (Ex.refl I) d rfl⟩
theorem c_lenL {xs : List α} : Cb (fun xs H Q => ∃ p ys, xs = [.ref p] ∧ (SqL K H p ys ∨ SqT K H p ys) ∧ Q (.int ys.length) H) [pv K xs] (pv K (xs.length : Int)) := cb1 fun I N v Q d ⟨a, vs, h1, h2, h3⟩ q => ⟨a, vs, by rw [h1], .inl (SqL.of (ex_ov d _ _ h2)), q _ I (Ex.refl I) d (by rw [h3.length]; rfl)⟩
theorem c_lenT {xs : Tu α} : Cb (fun xs H Q => ∃ p ys, xs = [.ref p] ∧ (SqL K H p ys ∨ SqT K H p ys) ∧ Q (.int ys.length) H) [pv K xs] (pv K (xs.l.length : Int)) := cb1 fun I N v Q d ⟨a, vs, h1, h2, h3⟩ q => ⟨a, vs, by rw [h1], .inr (sqt_ov d h2), q _ I (Ex.refl I) d (by rw [h3.length]; rfl)⟩
theorem c_lenS {xs : Scr} : Cb (fun xs H Q => ∃ p ys, xs = [.ref p] ∧ (SqL K H p ys ∨ SqT K H p ys) ∧ Q (.int ys.length) H) [pv K xs] (pv K (xs.l.length : Int)) := cb1 fun I N v Q d ⟨a, h1, h2⟩ q => ⟨a, _, by rw [h1], .inl (sql_ov d h2), q _ I (Ex.refl I) d (by rw [List.length_map]; rfl)⟩
theorem c_sum {xs : List Int} : Cb (rSum K) [pv K xs] (pv K xs.sum) := cb1 fun I N v Q d ⟨a, vs, h1, h2, h3⟩ q => ⟨a, xs, by rw [h1], SqL.of (by rw [← rs_int h3]; exact ex_ov d _ _ h2), q _ I (Ex.refl I) d rfl⟩
theorem c_all {xs : List Bool} : Cb (rAll K) [pv K xs] (pv K (xs.all id)) := cb1 fun I N v Q d ⟨a, vs, h1, h2, h3⟩ q => ⟨a, xs, by rw [h1], SqL.of (by rw [show xs.map V.bl = vs from (rs_sc h3).symm]; exact ex_ov d _ _ h2), q _ I (Ex.refl I) d rfl⟩
theorem c_any {xs : List Bool} : Cb (rAny K) [pv K xs] (pv K (xs.any id)) := cb1 fun I N v Q d ⟨a, vs, h1, h2, h3⟩ q => ⟨a, xs, by rw [h1], SqL.of (by rw [show xs.map V.bl = vs from (rs_sc h3).symm]; exact ex_ov d _ _ h2), q _ I (Ex.refl I) d rfl⟩
/-- ascending -/
def srt (xs : List Int) : List Int := xs.mergeSort fun a b => decide (a ≤ b)
theorem srt_perm (xs : List Int) : (srt xs).Perm xs := List.mergeSort_perm _ _
theorem srt_pw (xs : List Int) : (srt xs).Pairwise (· ≤ ·) := by
  have h := List.pairwise_mergeSort (le := fun a b : Int => decide (a ≤ b)) (fun a b c h1 h2 => by simp at *; omega) (fun a b => by simp; omega) xs
  exact h.imp fun h => by simpa using h
theorem srt_eq {xs ys : List Int} (p : ys.Perm xs) (h : ys.Pairwise (· ≤ ·)) : ys = srt xs :=
  List.Perm.eq_of_pairwise (fun a b _ _ h1 h2 => Int.le_antisymm h1 h2) h (srt_pw xs) (p.trans (srt_perm xs).symm)
theorem c_sorted {xs : List Int} : Cb (rSortedI K) [pv K xs] (pv K (srt xs)) := cb1 fun I N v Q d ⟨a, vs, h1, h2, h3⟩ q => ⟨a, xs, by rw [h1], SqL.of (by rw [← rs_int h3]; exact ex_ov d _ _ h2), fun ns' p hp hs hn => by
  have e := srt_eq hp hs
  subst e
  obtain ⟨x1, x2, x3, x4⟩ := mk_list (K := K) (xs := srt xs) (vs := (srt xs).map V.int) d hn rs_of_int
  rw [x4]
  exact q _ _ x1 x2 x3⟩
/-- a type, as a value -/
def tyPV (n : String) : PV := ⟨fun _ v => v = V.ty n, fun _ h => h⟩
theorem ep_ty {n : String} : EP (tC (.ty n)) Γ1 (tyPV n) := fun I F N σ e d Q q => q _ I (Ex.refl I) d rfl
theorem c_isi {p : PV} {n t : String} {b : Bool} (h : ∀ H v, p.r H v → TyX K H v (.type t)) (e : kitB t n = some b) : Cb (rIsi K) [p, tyPV n] (pv K b) := cb2 fun I N v u Q d h1 h2 q => ⟨v, .ty n, .type t, .type n, b, by rw [show u = V.ty n from h2], .ty n, h _ v (p.up (ex_ov d) h1), kit_ty e, q _ I (Ex.refl I) d rfl⟩
theorem ty_int {i : Int} : ∀ H v, (pv K i).r H v → TyX K H v (.type "int") := fun H v h => by rw [show v = V.int i from h]; exact .base (.int i)
theorem ty_bool {i : Bool} : ∀ H v, (pv K i).r H v → TyX K H v (.type "bool") := fun H v h => by rw [show v = V.bl i from h]; exact .base (.bl i)
theorem ty_list {xs : List α} : ∀ H v, (pv K xs).r H v → TyX K H v (.type "list") := fun H v ⟨a, vs, h1, h2, h3⟩ => by rw [h1]; exact .base (.lst h2)
/-! parts of lists -/
def cutL {α : Type} (xs : List α) (lo hi : Option Int) : List α := (xs.drop (HT.sIx xs.length 0 lo)).take (HT.sIx xs.length xs.length hi - HT.sIx xs.length 0 lo)
theorem rs_cut {xs : List α} {vs : List V} {lo hi : Option Int} (h : Rs K xs I vs) : Rs K (cutL xs lo hi) I (cutV vs lo hi) := by
  unfold cutL cutV
  rw [← h.length]
  exact (h.drop _).take _
def OPa (t : TO) (Γ : List Sl) (o : Option Int) : Prop := ∀ (I F N : Hp) (σ : L2.St), EnvOk I F N σ Γ → Dis N I → ∀ Q : Option Int → Hp → Prop, (∀ I', Ex I I' → Dis N I' → Q o (ov N I')) → t σ (ov N I) Q
theorem po_no : OPa tNoPart Γ1 none := fun I F N σ e d Q q => q I (Ex.refl I) d
theorem po_i {i : Int} (h : EP te Γ1 (pv K i)) : OPa (tPart te) Γ1 (some i) := fun I F N σ e d Q q => h I F N σ e d _ fun v I1 a1 d1 r1 => ⟨i, r1, q I1 a1 d1⟩
theorem ep_sl {xs : List α} {lo hi : Option Int} {t1 t2 : TO} (h : EP te Γ1 (pv K xs)) (h1 : OPa t1 Γ1 lo) (h2 : OPa t2 Γ1 hi) : EP (tSl (rSlL K) te t1 t2) Γ1 (pv K (cutL xs lo hi)) := fun I F N σ e d Q q =>
  h I F N σ e d _ fun v I1 a1 d1 r1 => h1 I1 F N σ (e.up a1) d1 _ fun I2 a2 d2 => h2 I2 F N σ (e.up (a1.trans a2)) d2 _ fun I3 a3 d3 => by
    obtain ⟨a, vs, g1, g2, g3⟩ := Rp.up (a2.trans a3) r1
    refine ⟨a, vs, g1, SqL.of (ex_ov d3 _ _ g2), fun p hp => ?_⟩
    obtain ⟨x1, x2, x3, x4⟩ := mk_list d3 hp (rs_cut g3)
    rw [x4]
    exact q _ _ (((a1.trans a2).trans a3).trans x1) x2 x3
theorem ep_slS {xs : Scr} {lo hi : Option Int} {t1 t2 : TO} (h : EP te Γ1 (pv K xs)) (h1 : OPa t1 Γ1 lo) (h2 : OPa t2 Γ1 hi) : EP (tSl (rSlL K) te t1 t2) Γ1 (pv K (cutL xs.l lo hi)) := fun I F N σ e d Q q =>
  h I F N σ e d _ fun v I1 a1 d1 r1 => h1 I1 F N σ (e.up a1) d1 _ fun I2 a2 d2 => h2 I2 F N σ (e.up (a1.trans a2)) d2 _ fun I3 a3 d3 => by
    obtain ⟨a, g1, g2⟩ := Rp.up (a2.trans a3) r1
    refine ⟨a, _, g1, sql_ov d3 g2, fun p hp => ?_⟩
    obtain ⟨x1, x2, x3, x4⟩ := mk_list d3 hp (rs_cut (lo := lo) (hi := hi) (rs_of_int (K := K) (H := I3)))
    rw [x4]
    exact q _ _ (((a1.trans a2).trans a3).trans x1) x2 x3
/-- an item of the script -/
theorem o_ixS {xs : Scr} {i x : Int} (e : atI xs.l i = some x) : Op2 (rIxL K) (pv K xs) (pv K i) (pv K x) := fun I N u v Q d ⟨a, h1, h2⟩ hy k => by
  obtain ⟨w, q1, q2⟩ := rs_at (rs_of_int (K := K) (H := I)) e
  exact ⟨a, _, i, w, h1, hy, sql_ov d h2, q1, k w I (Ex.refl I) d q2⟩
theorem em_ixSp {xs : Scr} {i : Int} (ha : ∀ s, EP ta (Γ s) (pv K xs)) (hb : ∀ s, EP tb (Γ s) (pv K i)) : EM K (tOp (rIxL K) ta tb) Γ (mo (atI xs.l i)) := fun s I F N σ e d Q q => by
  obtain ⟨z, hz, q⟩ := sat_mo.mp q
  exact ep_op (ha s) (hb s) (o_ixS hz) I F N σ e d Q fun v I3 a3 d3 r3 => q v I3 N a3 d3 (e.up a3) r3
/-- x in xs, of written values -/
class Fl (α : Type) [Rp α] [Sc α] where
  fl : ∀ x : α, flatV (Sc.s x) = true
  eq : ∀ x y : α, eqV (Sc.s x) (Sc.s y) = true ↔ x = y
instance flInt : Fl Int := ⟨fun _ => rfl, fun x y => by simp [Sc.s, eqV]⟩
instance flStr : Fl Str := ⟨fun _ => rfl, fun x y => by simp [Sc.s, eqV]⟩
instance flBool : Fl Bool := ⟨fun _ => rfl, fun x y => by simp [Sc.s, eqV]⟩
theorem in_fl {β : Type} [Rp β] [Sc β] [Fl β] [DecidableEq β] (x : β) : ∀ xs : List β, inV (Sc.s x) (xs.map Sc.s) = decide (x ∈ xs)
  | [] => by simp [inV]
  | y :: ys => by
    have ih := in_fl x ys
    unfold inV at ih ⊢
    rw [List.map_cons, List.any_cons, ih]
    by_cases h : y = x
    · rw [(Fl.eq y x).mpr h]; simp [h]
    · have h1 : eqV (Sc.s y) (Sc.s x) = false := by
        cases q : eqV (Sc.s y) (Sc.s x) with
        | false => rfl
        | true => exact absurd ((Fl.eq y x).mp q) h
      rw [h1]
      have h2 : ¬ x = y := fun q => h q.symm
      simp [h2]
theorem all_fl {β : Type} [Rp β] [Sc β] [Fl β] : ∀ xs : List β, (xs.map (Sc.s (α := β))).all flatV = true
  | [] => rfl
  | y :: ys => by rw [List.map_cons, List.all_cons, Fl.fl, all_fl ys]; rfl
theorem o_in {β : Type} [Rp β] [Sc β] [Fl β] [DecidableEq β] {x : β} {xs : List β} : Op2 (rIn K false) (pv K x) (pv K xs) (pv K (decide (x ∈ xs))) := fun I N u v Q d hx ⟨a, vs, h1, h2, h3⟩ q => by
  cases Sc.eq.mp hx
  have e := rs_sc h3
  subst e
  refine ⟨a, _, h1, .inl (SqL.of (ex_ov d _ _ h2)), Fl.fl x, all_fl xs, ?_⟩
  rw [if_neg Bool.false_ne_true, in_fl]
  exact q _ I (Ex.refl I) d rfl
theorem o_notIn {β : Type} [Rp β] [Sc β] [Fl β] [DecidableEq β] {x : β} {xs : List β} : Op2 (rIn K true) (pv K x) (pv K xs) (pv K (!decide (x ∈ xs))) := fun I N u v Q d hx ⟨a, vs, h1, h2, h3⟩ q => by
  cases Sc.eq.mp hx
  have e := rs_sc h3
  subst e
  refine ⟨a, _, h1, .inl (SqL.of (ex_ov d _ _ h2)), Fl.fl x, all_fl xs, ?_⟩
  rw [if_pos rfl, in_fl]
  exact q _ I (Ex.refl I) d rfl
theorem o_inT {β : Type} [Rp β] [Sc β] [Fl β] [DecidableEq β] {x : β} {xs : Tu β} : Op2 (rIn K false) (pv K x) (pv K xs) (pv K (decide (x ∈ xs.l))) := fun I N u v Q d hx ⟨a, vs, h1, h2, h3⟩ q => by
  cases Sc.eq.mp hx
  have e := rs_sc h3
  subst e
  refine ⟨a, _, h1, .inr (sqt_ov d h2), Fl.fl x, all_fl xs.l, ?_⟩
  rw [if_neg Bool.false_ne_true, in_fl]
  exact q _ I (Ex.refl I) d rfl
theorem o_notInT {β : Type} [Rp β] [Sc β] [Fl β] [DecidableEq β] {x : β} {xs : Tu β} : Op2 (rIn K true) (pv K x) (pv K xs) (pv K (!decide (x ∈ xs.l))) := fun I N u v Q d hx ⟨a, vs, h1, h2, h3⟩ q => by
  cases Sc.eq.mp hx
  have e := rs_sc h3
  subst e
  refine ⟨a, _, h1, .inr (sqt_ov d h2), Fl.fl x, all_fl xs.l, ?_⟩
  rw [if_pos rfl, in_fl]
  exact q _ I (Ex.refl I) d rfl
/-! lists from lists -/
def repOk (n : Nat) (k : Int) : Bool := decide (-(2 ^ 63) ≤ k ∧ k < 2 ^ 63 ∧ n * k.toNat ≤ 16000000)
def repL {α : Type} (xs : List α) (k : Int) : List α := (List.replicate k.toNat xs).flatten
theorem rs_flat {xs : List α} {vs : List V} (h : Rs K xs I vs) : ∀ n : Nat, Rs K (List.replicate n xs).flatten I (List.replicate n vs).flatten
  | 0 => .nil
  | n + 1 => by
    rw [List.replicate_succ, List.replicate_succ, List.flatten_cons, List.flatten_cons]
    exact h.append (rs_flat h n)
theorem eo_rep {xs : List α} {k : Int} (ha : ∀ s, EP ta (Γ s) (pv K xs)) (hb : ∀ s, EP tb (Γ s) (pv K k)) : EO (tOp rRep ta tb) Γ (mc (repOk xs.length k) (repL xs k)) (rOw (ol K)) := fun s I F N σ e d Q q => by
  obtain ⟨c, q⟩ := sat_mc.mp q
  have c := of_decide_eq_true c
  refine ha s I F N σ e d _ fun v I1 a1 d1 r1 => hb s I1 F N σ (e.up a1) d1 _ fun w I2 a2 d2 r2 => ?_
  obtain ⟨a, vs, g1, g2, g3⟩ := Rp.up a2 r1
  exact ⟨a, k, vs, g1, r2, ex_ov d2 _ _ g2, c.1, c.2.1, by rw [← g3.length]; exact sz16' c.2.2, fun p hp => q _ _ I2 N (a1.trans a2) (e.up (a1.trans a2)) (new_list d2 hp (rs_flat g3 _))⟩
theorem o_cat {xs ys : List α} (c : lenOk (xs.length + ys.length) = true) : Op2 rCat (pv K xs) (pv K ys) (pv K (xs ++ ys)) := fun I N u v Q d ⟨a, vs, h1, h2, h3⟩ ⟨b, us, g1, g2, g3⟩ q => ⟨a, b, vs, us, h1, g1, ex_ov d _ _ h2, ex_ov d _ _ g2, by rw [← h3.length, ← g3.length]; exact sz16' (of_decide_eq_true c), fun p hp => by
  obtain ⟨x1, x2, x3, x4⟩ := mk_list d hp (h3.append g3)
  rw [x4]
  exact q _ _ x1 x2 x3⟩
/-- list(xs) -/
def rListOf (K : PySem.W.Frag) : List V → Hp → VK → Prop := fun xs H Q => ∃ p ys, xs = [.ref p] ∧ (SqL K H p ys ∨ SqT K H p ys) ∧ ∀ l, H l = none → Q (.ref l) (upd H l (.lst ys))
theorem eo_listL {xs : List α} (h : ∀ s, AP tl (Γ s) [pv K xs]) : EO (tCB (rListOf K) tl) Γ (mp xs) (rOw (ol K)) := fun s I F N σ e d Q q => h s I F N σ e d _ fun vs I1 a1 d1 r1 => by
  obtain ⟨v, _, rfl, r, r1⟩ := all2_c r1
  cases all2_n r1
  obtain ⟨a, us, g1, g2, g3⟩ := r
  exact ⟨a, us, by rw [g1], .inl (SqL.of (ex_ov d1 _ _ g2)), fun p hp => q _ _ I1 N a1 (e.up a1) (new_list d1 hp g3)⟩
theorem eo_listT {xs : Tu α} (h : ∀ s, AP tl (Γ s) [pv K xs]) : EO (tCB (rListOf K) tl) Γ (mp xs.l) (rOw (ol K)) := fun s I F N σ e d Q q => h s I F N σ e d _ fun vs I1 a1 d1 r1 => by
  obtain ⟨v, _, rfl, r, r1⟩ := all2_c r1
  cases all2_n r1
  obtain ⟨a, us, g1, g2, g3⟩ := r
  exact ⟨a, us, by rw [g1], .inr (sqt_ov d1 g2), fun p hp => q _ _ I1 N a1 (e.up a1) (new_list d1 hp g3)⟩
/-- list(range(n)), list(range(a, b)) -/
def rgOk (a b : Int) : Bool := decide (-(2 ^ 62) ≤ a ∧ a < 2 ^ 62 ∧ -(2 ^ 62) ≤ b ∧ b < 2 ^ 62 ∧ (b - a).toNat ≤ 2 ^ 24)
theorem rgV_eq {a b : Int} : rgV a b = (rng a (b - a).toNat).map V.int := by
  unfold rgV rng
  rw [List.map_map]
  rfl
theorem eo_listRg1 {n : Int} (h : ∀ s, EP te (Γ s) (pv K n)) : EO (tLstRg (tRg1 te)) Γ (mc (rgOk 0 n) (rng 0 n.toNat)) (rOw (ol K)) := fun s I F N σ e d Q q => by
  obtain ⟨c, q⟩ := sat_mc.mp q
  have c := of_decide_eq_true c
  refine h s I F N σ e d _ fun v I1 a1 d1 r1 => ⟨n, r1, c, fun p hp => q _ _ I1 N a1 (e.up a1) (new_list d1 hp ?_)⟩
  rw [rgV_eq, Int.sub_zero]
  exact rs_of_int
end
/-! ### calls by names alone -/
section
variable {X : Cx} {CX : CXT} {k : Nat} {f : Addr} {fd : FuncData} {ps ks : List Str} {sp : Sp} {E : XK} {x : Str} {p pos : Pos} {kws : List Keyword} {tk : TA} {g : List Value → List Value → List Value} {gV : List V → List V → List V}
theorem pe_callK0 (F : FnOk X.prog X.w X.K X.mg X.base CX k f fd ps sp) (hr : Room k X.A) (hg : Gl X x) (hm : X.mg x = some (.ref f)) (hk : PySem.W.keepIn X.K (.ref f) = true) (hb : KBinds X.K fd ps ks g gV) (hx : Passes CX X E)
    (hkw : PK X kws tk) (hall : (backToKw pos (keywordEach kws X.env)).all (·.1.isSome) = true := by rfl) (hks : (backToKw pos (keywordEach kws X.env)).filterMap (·.1) = ks := by rfl)
    (hdb : (x == ("__debug__" : Str)) = false := by decide) (hpl : ((backTo pos (starEach [] X.env)).any (·.1) || (backToKw pos (keywordEach kws X.env)).any (·.1.isNone)) = false := by rfl) :
    PE X (.Call (.Name x p) [] kws pos) (tCallK sp gV E tNil tk) := by
  refine ⟨fun pins s σ H Q I h => ?_⟩
  refine wpAny_Call_Name_kw (ld_glob I hg hm ?_ hdb)
  refine PySem.W.callWith_KW0 (h₀ := X.base) I.ok.mod.kin hk hall ?_ hpl
  refine thn (hkw.run pos pins s σ H _ I h) fun ws s2 ⟨zs, H2, I2, rz, q2⟩ => ⟨I2.kIn, ?_⟩
  rw [hks]
  exact run_fnk (us := []) (vs := []) F hr hb hx I2 .nil rz q2
end
end
end Mir

/-! Mir7: several targets; the law's box; calls in the same state; promises packed -/
namespace Mir
open PySem L2
section
variable {K : PySem.W.Frag}
/-! ### several targets -/
def AO {S ζ : Type} (ta : TA) (Γ : S → List Sl) (m : Mn S ζ) (cs : ζ → List Sl) : Prop := ∀ (s : S) (I F N : Hp) (σ : L2.St), EnvOk I F N σ (Γ s) → Dis N I → ∀ Q : List V → Hp → Prop,
  (m s).sat (fun z s' => ∀ vs I' N' M', Ex I I' → EnvOk I' F N' σ (Γ s') → Dis M' I' → EnvOk I' N' M' (vs.map some) (cs z) → Q vs (ov M' I')) → ta σ (ov N I) Q
section
variable {S ζ ρ α : Type} [Rp α] {Γ : S → List Sl} {te : TE} {ta : TA}
theorem ao_nil : AO tNil Γ (mp ()) fun _ => [] := fun s I F N σ e d Q q => q [] I N N (Ex.refl I) e d .nil
theorem ao_p {p : PV} {m : Mn S ζ} {cs : ζ → List Sl} (h : ∀ s, EP te (Γ s) p) (t : AO ta Γ m cs) : AO (tCons te ta) Γ m fun z => .im p :: cs z := fun s I F N σ e d Q q =>
  h s I F N σ e d _ fun v I1 a1 d1 r1 => t s I1 F N σ (e.up a1) d1 _ (R.sat_imp q fun z s2 q vs I2 N2 M2 a2 e2 d2 e3 => q _ I2 N2 M2 (a1.trans a2) e2 d2 (.im (p.up a2 r1) e3))
theorem ao_m {m1 : Mn S α} {m : Mn S ζ} {cs : ζ → List Sl} (h : EM K te Γ m1) (t : AO ta Γ m cs) : AO (tCons te ta) Γ (mb m1 fun x => mb m fun z => mp (x, z)) fun y => .im (pv K y.1) :: cs y.2 := fun s I F N σ e d Q q =>
  h s I F N σ e d _ (R.sat_imp (sat_mb.mp q) fun x s1 q v I1 N1 a1 d1 e1 r1 => t s1 I1 F N1 σ e1 d1 _ (R.sat_imp (sat_mb.mp q) fun z s2 q vs I2 N2 M2 a2 e2 d2 e3 => q _ I2 N2 M2 (a1.trans a2) e2 d2 (.im (p := pv K x) (Rp.up a2 r1) e3)))
theorem ao_o {m1 : Mn S ρ} {m : Mn S ζ} {P : ρ → OP} {cs : ζ → List Sl} (h : EO te Γ m1 (rOw P)) (t : AO ta Γ m cs) : AO (tCons te ta) Γ (mb m1 fun x => mb m fun z => mp (x, z)) fun y => .ow (P y.1) :: cs y.2 := fun s I F N σ e d Q q =>
  h s I F N σ e d _ (R.sat_imp (sat_mb.mp q) fun x s1 q v H1 I1 N1 a1 e1 ⟨a, Ma, h1, h2, h3, h4, h5⟩ => by
    subst h1 h4
    have hF : Dis Ma F := fun b => by
      cases q : F b with
      | none => exact .inr rfl
      | some o => exact .inl (h2.some_r (e1.subF q))
    refine t s1 I1 (ov Ma F) (ov Ma N1) σ (e1.frame h2) h3 _ (R.sat_imp (sat_mb.mp q) fun z s2 q vs I2 N2 M2 a2 e2 d2 e3 => ?_)
    obtain ⟨N3, g1, g2, g3⟩ := e2.unframe hF
    subst g1
    obtain ⟨M3, g4, g5, g6⟩ := e3.unframe g2
    subst g4
    exact q _ I2 N3 _ (a1.trans a2) g3 d2 (.ow ((P x).up a2 h5) g5 g6))
end
theorem notOw_set {Γ : List Sl} {i j : Nat} {a : Sl} (h : NotOw Γ j) (n : i ≠ j) : NotOw (Γ.set i a) j := by
  unfold NotOw
  rw [List.getElem?_set_ne n]
  exact h
theorem dis_sub {I N M1 Ma : Hp} {σ : L2.St} {Γ : List Sl} (d : Dis Ma M1) (e : EnvOk I N M1 σ Γ) : Dis Ma N := fun b => by
  cases q : N b with
  | none => exact .inr rfl
  | some o => exact .inl (d.some_r (e.subF q))
/-- slots take values and owned parts, one behind another -/
def setG : List Sl → List Nat → List Sl → List Sl
  | Γ, j :: js, c :: cs => setG (Γ.set j c) js cs
  | Γ, _, _ => Γ
def setS : L2.St → List Nat → List V → L2.St
  | σ, j :: js, v :: vs => setS (σ.set j (some v)) js vs
  | σ, _, _ => σ
theorem EnvOk.takes {I F : Hp} : ∀ {js : List Nat} {vs : List V} {cs : List Sl} {N M : Hp} {σ : L2.St} {Γ : List Sl}, EnvOk I F N σ Γ → EnvOk I N M (vs.map some) cs → js.length = cs.length → js.Nodup → (∀ j ∈ js, NotOw Γ j ∧ j < Γ.length) → (∀ c ∈ cs, c ≠ .no) → EnvOk I F M (setS σ js vs) (setG Γ js cs)
  | [], vs, [], N, M, σ, Γ, e, e2, _, _, _, _ => by
    cases vs with
    | nil => cases e2; exact e
    | cons v vs => cases e2
  | [], _, _ :: _, _, _, _, _, _, _, h, _, _, _ => by simp at h
  | _ :: _, _, [], _, _, _, _, _, _, h, _, _, _ => by simp at h
  | j :: js, [], c :: cs, _, _, _, _, _, e2, _, _, _, _ => by cases e2
  | j :: js, v :: vs, c :: cs, N, M, σ, Γ, e, e2, hl, hd, hn, hc => by
    have e3 : EnvOk I N M (some v :: vs.map some) (c :: cs) := e2
    obtain ⟨n1, n2⟩ := List.nodup_cons.mp hd
    have hj := hn j (List.mem_cons_self ..)
    have rest : ∀ a : Sl, ∀ i ∈ js, NotOw (Γ.set j a) i ∧ i < (Γ.set j a).length := fun a i hi => ⟨notOw_set (hn i (List.mem_cons_of_mem _ hi)).1 (fun q => n1 (q ▸ hi)), by rw [List.length_set]; exact (hn i (List.mem_cons_of_mem _ hi)).2⟩
    show EnvOk I F M (setS (σ.set j (some v)) js vs) (setG (Γ.set j c) js cs)
    cases e3 with
    | no _ e4 => exact absurd rfl (hc .no (List.mem_cons_self ..))
    | im q e4 => exact EnvOk.takes (e.set q hj.1) e4 (by simpa using hl) n2 (rest _) fun c hc' => hc c (List.mem_cons_of_mem _ hc')
    | ow q d e4 =>
      exact EnvOk.takes (e.take q hj.1 hj.2 (dis_sub d e4)) (e4.frame d) (by simpa using hl) n2 (rest _) fun c hc' => hc c (List.mem_cons_of_mem _ hc')
def gNames (js : List Nat) : TGs := js.foldr (fun j t => gCons (gName j) t) gNil
theorem gNames_ok : ∀ (js : List Nat) (vs : List V) (σ : L2.St) (H : Hp) (Q : L2.St → Hp → Prop), vs.length = js.length → Q (setS σ js vs) H → gNames js vs σ H Q
  | [], [], σ, H, Q, _, q => ⟨rfl, q⟩
  | [], _ :: _, _, _, _, h, _ => by simp at h
  | _ :: _, [], _, _, _, h, _ => by simp at h
  | j :: js, v :: vs, σ, H, Q, h, q => ⟨v, vs, rfl, gNames_ok js vs (σ.set j (some v)) H Q (by simpa using h) q⟩
def isNo : Sl → Bool
  | .no => true
  | _ => false
def asgOk (Γ : List Sl) (js : List Nat) (n : Nat) : Prop := js.length = n ∧ js.Nodup ∧ ∀ j ∈ js, NotOw Γ j ∧ j < Γ.length
theorem nos_of {cs : List Sl} (h : cs.all (fun c => !isNo c) = true) : ∀ c ∈ cs, c ≠ .no := fun c hc q => by
  have := List.all_eq_true.mp h c hc
  rw [q] at this
  cases this
section
variable {S ζ : Type} {Γ : S → List Sl} {ta : TA} {m : Mn S ζ} {cs : ζ → List Sl} {Γ' : ζ → S → List Sl}
/-- a, b, .. = e1, e2, .. by a tuple -/
theorem rp_asgT {n : Nat} (js : List Nat) (h : AO ta Γ m cs) (hj : ∀ s, asgOk (Γ s) js n) (hc : ∀ z, (cs z).length = n) (hn : ∀ z, (cs z).all (fun c => !isNo c) = true) (h9 : n ≤ 1000) (hΓ : ∀ z s, setG (Γ s) js (cs z) = Γ' z s) : RP (tAsg (tTup ta) (gTup K n (gNames js))) Γ m Γ' := fun s I F N σ e d D q =>
  h s I F N σ e d _ (R.sat_imp q fun z s1 q vs I1 N1 M1 a1 e1 d1 e2 => by
    have hv : vs.length = n := by
      have l := e2.len
      rw [List.length_map, hc z] at l
      exact l
    refine ⟨by rw [hv]; exact sz2 h9, fun p hp => ?_⟩
    obtain ⟨x1, x2, x3, x4⟩ := mk_tup (K := K) (vs := vs) d1 hp
    refine ⟨p, vs, rfl, ?_, hv, gNames_ok js vs σ _ _ (hv.trans (hj s1).1.symm) ?_⟩
    · rw [x4]; exact sqt_ov x2 x3
    · rw [x4]
      refine q _ M1 _ (a1.trans x1) x2 ?_
      rw [← hΓ]
      exact EnvOk.takes (e1.up x1) (e2.up x1) ((hj s1).1.trans (hc z).symm) (hj s1).2.1 (hj s1).2.2 (nos_of (hn z)))
/-- .. two local names: no tuple is made -/
theorem rp_asg2 {i j : Nat} (h : AO ta Γ m cs) (hj : ∀ s, asgOk (Γ s) [i, j] 2) (hc : ∀ z, (cs z).length = 2) (hn : ∀ z, (cs z).all (fun c => !isNo c) = true) (hΓ : ∀ z s, setG (Γ s) [i, j] (cs z) = Γ' z s) : RP (tPar i j ta) Γ m Γ' := fun s I F N σ e d D q =>
  h s I F N σ e d _ (R.sat_imp q fun z s1 q vs I1 N1 M1 a1 e1 d1 e2 => by
    have hv : vs.length = 2 := by
      have l := e2.len
      rw [List.length_map, hc z] at l
      exact l
    match vs, hv, e2 with
    | [v, w], _, e2 =>
      refine ⟨v, w, rfl, q I1 M1 _ a1 d1 ?_⟩
      rw [← hΓ]
      exact EnvOk.takes (js := [i, j]) (vs := [v, w]) e1 e2 ((hj s1).1.trans (hc z).symm) (hj s1).2.1 (hj s1).2.2 (nos_of (hn z)))
theorem rp_asg3 {i j k : Nat} (h : AO ta Γ m cs) (hj : ∀ s, asgOk (Γ s) [i, j, k] 3) (hc : ∀ z, (cs z).length = 3) (hn : ∀ z, (cs z).all (fun c => !isNo c) = true) (hΓ : ∀ z s, setG (Γ s) [i, j, k] (cs z) = Γ' z s) : RP (tPar3 i j k ta) Γ m Γ' := fun s I F N σ e d D q =>
  h s I F N σ e d _ (R.sat_imp q fun z s1 q vs I1 N1 M1 a1 e1 d1 e2 => by
    have hv : vs.length = 3 := by
      have l := e2.len
      rw [List.length_map, hc z] at l
      exact l
    match vs, hv, e2 with
    | [v, w, u], _, e2 =>
      refine ⟨v, w, u, rfl, q I1 M1 _ a1 d1 ?_⟩
      rw [← hΓ]
      exact EnvOk.takes (js := [i, j, k]) (vs := [v, w, u]) e1 e2 ((hj s1).1.trans (hc z).symm) (hj s1).2.1 (hj s1).2.2 (nos_of (hn z)))
end

/-! ### calls in the caller's own state -/
theorem eo_call1i {S ρ ι ζ : Type} {Γ : S → List Sl} {ta : TA} {E : XK} {Ret : RetT ρ} {As : ι → List (Ar S)} {m : ι → Mn S ρ} {mm : Mn S ζ} {ks : ζ → List AK} {f : ζ → ι} {j : Nat} {P Pc : S → OP} (h : AKm ta Γ mm ks) (o : ∀ z, OneSl j (ks z)) (cv : Cv P Pc) (hj : ∀ s, (Γ s)[j]? = some (.ow (Pc s)))
    (hp : ∀ s s', (Γ s).set j (.ow (Pc s')) = Γ s') (hA : ∀ z s', (As (f z)).map (Ar.sl s') = (ks z).map (AK.to (P s'))) : EO (tCall (Prom Ret As m) [] E ta) Γ (mb mm fun z => m (f z)) Ret := fun s I F N σ e d Q q =>
  eo_call1 (g := fun s => s) (p := fun _ s' => s') h o cv hj hp hA s I F N σ e d Q (sat_mb.mpr (R.sat_imp (sat_mb.mp q) fun z s1 q => sat_ml.mpr q))

/-! ### a def and its promise, packed -/
structure Cal (P : Program) (w : World) (K : PySem.W.Frag) (mg : Str → Option Value) (base : Heap) (k : Nat) (x : Str) (ps : List Str) (sp : Sp) : Prop where
  ex : ∃ (f : Addr) (fd : FuncData), FnOk P w K mg base CX0 k f fd ps sp ∧ mg x = some (.ref f) ∧ PySem.W.keepIn K (.ref f) = true ∧ Binds K fd ps []
/-- .. called by names alone -/
structure CalK (P : Program) (w : World) (K : PySem.W.Frag) (mg : Str → Option Value) (base : Heap) (k : Nat) (x : Str) (ps : List Str) (sp : Sp) (ks : List Str) (g : List Value → List Value → List Value) (gV : List V → List V → List V) : Prop where
  ex : ∃ (f : Addr) (fd : FuncData), FnOk P w K mg base CX0 k f fd ps sp ∧ mg x = some (.ref f) ∧ PySem.W.keepIn K (.ref f) = true ∧ KBinds K fd ps ks g gV

/-! ### the law's box -/
structure Box where
  great : Int
  flag : Bool
  mixed : Int
  count : Int
def Box.vs (b : Box) : List V := [.int b.great, .bl b.flag, .int b.mixed, .int b.count]
def boxP (b : Box) : OP := hl b.vs
end
end Mir

/-! Mir8: the box's items; what the printer wants besides -/
namespace Mir
open PySem L2
section
variable {K : PySem.W.Frag}
/-! ### the box -/
section
variable {Γ1 : List Sl} {s : Box} {j : Nat} {v : V}
theorem ep_b0 (hj : Γ1[j]? = some (.ow (boxP s))) : EP (tOp (rIxL K) (tVar j) (tC (.int 0))) Γ1 (pv K s.great) := ep_hl hj (fun _ _ _ h => h) (ep_int (K := K)) rfl fun _ => rfl
theorem ep_b1 (hj : Γ1[j]? = some (.ow (boxP s))) : EP (tOp (rIxL K) (tVar j) (tC (.int 1))) Γ1 (pv K s.flag) := ep_hl hj (fun _ _ _ h => h) (ep_int (K := K)) rfl fun _ => rfl
theorem ep_b2 (hj : Γ1[j]? = some (.ow (boxP s))) : EP (tOp (rIxL K) (tVar j) (tC (.int 2))) Γ1 (pv K s.mixed) := ep_hl hj (fun _ _ _ h => h) (ep_int (K := K)) rfl fun _ => rfl
theorem ep_b3 (hj : Γ1[j]? = some (.ow (boxP s))) : EP (tOp (rIxL K) (tVar j) (tC (.int 3))) Γ1 (pv K s.count) := ep_hl hj (fun _ _ _ h => h) (ep_int (K := K)) rfl fun _ => rfl
theorem ep_b0t (hj : Γ1[j]? = some (.ow ((boxP s).at v))) : EP (tOp (rIxL K) (tVar j) (tC (.int 0))) Γ1 (pv K s.great) := ep_hl hj (fun _ _ _ h => h.2) (ep_int (K := K)) rfl fun _ => rfl
theorem ep_b1t (hj : Γ1[j]? = some (.ow ((boxP s).at v))) : EP (tOp (rIxL K) (tVar j) (tC (.int 1))) Γ1 (pv K s.flag) := ep_hl hj (fun _ _ _ h => h.2) (ep_int (K := K)) rfl fun _ => rfl
theorem ep_b2t (hj : Γ1[j]? = some (.ow ((boxP s).at v))) : EP (tOp (rIxL K) (tVar j) (tC (.int 2))) Γ1 (pv K s.mixed) := ep_hl hj (fun _ _ _ h => h.2) (ep_int (K := K)) rfl fun _ => rfl
theorem ep_b3t (hj : Γ1[j]? = some (.ow ((boxP s).at v))) : EP (tOp (rIxL K) (tVar j) (tC (.int 3))) Γ1 (pv K s.count) := ep_hl hj (fun _ _ _ h => h.2) (ep_int (K := K)) rfl fun _ => rfl
end
section
variable {Γ : Box → List Sl} {j : Nat} {v : V} {te : TE}
theorem rp_b0t {m : Mn Box Int} (hj : ∀ s, (Γ s)[j]? = some (.ow ((boxP s).at v))) (h : EM K te Γ m) (hΓ : ∀ (x : Int) s, (Γ s).set j (.ow ((boxP { s with great := x }).at v)) = Γ { s with great := x }) : RP (tAsg te (gSub (tVar j) (tC (.int 0)) rSetL)) Γ (mb m fun x => ms fun b => { b with great := x }) fun _ => Γ :=
  rp_hset (P := fun s => (boxP s).at v) (us := Box.vs) (sv := V.int) (k := 0) (f := fun x b => { b with great := x }) hj (fun _ _ _ _ h => h.2) (fun _ _ _ _ _ h => ⟨h.1, rfl⟩) h (fun _ => ep_int (K := K)) (fun _ => rfl) (fun _ _ _ h => h) hΓ
theorem rp_b3t {m : Mn Box Int} (hj : ∀ s, (Γ s)[j]? = some (.ow ((boxP s).at v))) (h : EM K te Γ m) (hΓ : ∀ (x : Int) s, (Γ s).set j (.ow ((boxP { s with count := x }).at v)) = Γ { s with count := x }) : RP (tAsg te (gSub (tVar j) (tC (.int 3)) rSetL)) Γ (mb m fun x => ms fun b => { b with count := x }) fun _ => Γ :=
  rp_hset (P := fun s => (boxP s).at v) (us := Box.vs) (sv := V.int) (k := 3) (f := fun x b => { b with count := x }) hj (fun _ _ _ _ h => h.2) (fun _ _ _ _ _ h => ⟨h.1, rfl⟩) h (fun _ => ep_int (K := K)) (fun _ => rfl) (fun _ _ _ h => h) hΓ
end
/-- a new box -/
theorem eo_box {S : Type} {Γ : S → List Sl} {tl : TA} {a c d : Int} {b : Bool} (h : ∀ s, AP tl (Γ s) [pv K a, pv K b, pv K c, pv K d]) : EO (tLst tl) Γ (mp (Box.mk a b c d)) (rOw boxP) :=
  eo_hl (P := boxP) (x := Box.mk a b c d) (us := [.int a, .bl b, .int c, .int d]) h (fun I vs h => by
    obtain ⟨_, _, rfl, r0, h⟩ := all2_c h
    obtain ⟨_, _, rfl, r1, h⟩ := all2_c h
    obtain ⟨_, _, rfl, r2, h⟩ := all2_c h
    obtain ⟨_, _, rfl, r3, h⟩ := all2_c h
    cases all2_n h
    cases r0; cases r1; cases r2; cases r3
    rfl) rfl (Nat.le_of_ble_eq_true rfl)
/-! ### checked, in the state -/
def mcs {S α : Type} (c : S → Bool) (f : S → α) : Mn S α := fun s => match c s with
  | true => .ok (f s) s
  | false => .bad
theorem sat_mcs {S α : Type} {c : S → Bool} {f : S → α} {s : S} {Q : α → S → Prop} : (mcs c f s).sat Q ↔ c s = true ∧ Q (f s) s := by
  unfold mcs
  cases c s with
  | true => exact ⟨fun h => ⟨rfl, h⟩, fun h => h.2⟩
  | false => exact ⟨fun h => h.elim, fun h => nomatch h.1⟩
section
variable {S α β γ : Type} [Rp α] [Rp β] [Rp γ] {ta tb te : TE} {Γ Γr : S → List Sl} {r : R2}
theorem em_opC2s {x : S → α} {y : S → β} {z : S → γ} {c : S → Bool} (ha : ∀ s, EP ta (Γ s) (pv K (x s))) (hb : ∀ s, EP tb (Γ s) (pv K (y s))) (h : ∀ s, c s = true → Op2 r (pv K (x s)) (pv K (y s)) (pv K (z s))) : EM K (tOp r ta tb) Γ (mcs c z) := fun s I F M σ e d Q q =>
  ep_op (ha s) (hb s) (h s (sat_mcs.mp q).1) I F M σ e d Q fun v I3 a3 d3 r3 => (sat_mcs.mp q).2 v I3 M a3 d3 (e.up a3) r3
/-- x op= e -/
theorem rp_aug {i : Nat} {f : Int → Int → Int} {x : Int} {m : Mn S Int} {Γ' : Int → S → List Sl} (hi : ∀ s, (Γ s)[i]? = some (.im (pv K x))) (h : EM K te Γ m) (hn : ∀ s, NotOw (Γ s) i) (hΓ : ∀ y s, (Γ s).set i (.im (pv K y)) = Γ' y s) : RP (tAug i te (ipI f)) Γ (mb m fun y => mp (f x y)) Γ' := fun s I F N σ e d D q => by
  obtain ⟨v, h1, h2⟩ := e.get (hi s)
  refine ⟨v, h1, h s I F N σ e d _ (R.sat_imp (sat_mb.mp q) fun y s1 q w I1 N1 a1 d1 e1 r1 => ⟨x, y, h2, r1, q I1 N1 _ a1 d1 ?_⟩)⟩
  rw [← hΓ]
  exact e1.set (p := pv K (f x y)) rfl (hn s1)
/-- an Optional value where a value is asked for -/
theorem em_unopt {o : Option α} (h : ∀ s, EP te (Γ s) (pv K o)) : EM K te Γ (mo o) := fun s I F N σ e d Q q => h s I F N σ e d Q fun v I1 a1 d1 r1 => by
  obtain ⟨a, ha, q⟩ := sat_mo.mp q
  subst ha
  exact q v I1 N a1 d1 (e.up a1) r1.1
theorem nn_int {i : Int} : ∀ H v, Rp.r K i H v → v ≠ .non := fun H v h q => by
  rw [show v = V.int i from h] at q
  cases q
theorem em_some {m : Mn S α} (hn : ∀ (x : α) H v, Rp.r K x H v → v ≠ .non) (h : EM K te Γ m) : EM K te Γ (mb m fun x => mp (some x)) := fun s I F N σ e d Q q =>
  h s I F N σ e d Q (R.sat_imp (sat_mb.mp q) fun x s1 q v I1 N1 a1 d1 e1 r1 => q v I1 N1 a1 d1 e1 ⟨r1, hn x _ _ r1⟩)
theorem o_isNopt {x : Option α} : Op2 (fun x y H Q => y = .non ∧ Q (.bl (decide (x = .non))) H) (pv K x) (pv K ()) (pv K x.isNone) := o_isN _ isN_opt
theorem o_notNopt {x : Option α} : Op2 (fun x y H Q => y = .non ∧ Q (.bl (!decide (x = .non))) H) (pv K x) (pv K ()) (pv K (!x.isNone)) := fun I M u v Q d hx hy k => by
  refine ⟨hy, ?_⟩
  rw [isN_opt (K := K) _ _ hx]
  exact k _ I (Ex.refl I) d rfl
end
def popAt {α : Type} (xs : List α) (i : Int) : Option (List α) := if decide (-(2 ^ 63) ≤ i ∧ i < 2 ^ 63) = true then (ixN xs.length i).map fun k => xs.eraseIdx k else none
def asgB (Γ : List Sl) (js : List Nat) (n : Nat) : Bool := js.length == n && decide js.Nodup && js.all fun j => !((Γ[j]?.map isOw).getD false) && Nat.blt j Γ.length
theorem asg_ok {Γ : List Sl} {js : List Nat} {n : Nat} (h : asgB Γ js n = true) : asgOk Γ js n := by
  unfold asgB at h
  rw [Bool.and_eq_true, Bool.and_eq_true] at h
  obtain ⟨⟨h1, h2⟩, h3⟩ := h
  refine ⟨by simpa using h1, of_decide_eq_true h2, fun j hj => ?_⟩
  have h4 := List.all_eq_true.mp h3 j hj
  rw [Bool.and_eq_true] at h4
  refine ⟨?_, Nat.blt_eq.mp h4.2⟩
  unfold NotOw
  simpa using h4.1
/-! ### ways out, inside a loop's body -/
section
variable {S ρ τ τ' β α : Type} {Ret : RetT ρ} {t t1 t2 : TS} {Γ Γr Γ1 : S → List Sl} {Γ' : τ → S → List Sl} {Γt : τ' → S → List Sl} {Γb : β → S → List Sl} {Γe : Empty → S → List Sl}
theorem rc_pre {m : Mn S (Ct ρ τ β)} (w : ∀ s, Wk (Γ s) (Γ1 s)) (h : RC Ret t Γ1 m Γr Γ' Γb) : RC Ret t Γ m Γr Γ' Γb := fun s I F N σ e d D q => by
  obtain ⟨I1, N1, x1, x2, x3, x4⟩ := e.wk (w s) d
  rw [← x3]
  exact h s I1 F N1 σ x4 x2 D (R.sat_imp q fun c s' q => ctup x1 q)
def ctb {S ρ τ τ' β : Type} (k : τ' → Mn S (Ct ρ τ β)) : Ct ρ τ' Empty → Mn S (Ct ρ τ β)
  | .rt x => mp (.rt x)
  | .nx x => k x
  | .br x => nomatch x
theorem rc_seqC {m1 : Mn S (Ct ρ τ' Empty)} {m2 : τ' → Mn S (Ct ρ τ β)} (h1 : RC Ret t1 Γ m1 Γr Γt Γe) (h2 : ∀ x, RC Ret t2 (Γt x) (m2 x) Γr Γ' Γb) : RC Ret (tSeq t1 t2) Γ (mb m1 (ctb m2)) Γr Γ' Γb := fun s I F N σ e d D q =>
  h1 s I F N σ e d _ (R.sat_imp (sat_mb.mp q) fun c s1 q => by
    cases c with
    | rt x => exact q
    | nx x => exact fun I1 N1 σ1 a1 d1 e1 => h2 x s1 I1 F N1 σ1 e1 d1 D (R.sat_imp q fun c s2 q => ctup a1 q)
    | br x => exact nomatch x)
theorem rc_lastC {m1 : Mn S (Ct ρ τ' Empty)} {f : τ' → τ} (h1 : RC Ret t Γ m1 Γr Γt Γe) (w : ∀ x s, Wk (Γt x s) (Γ' (f x) s)) : RC Ret t Γ (mb m1 (ctb fun x => mp (.nx (f x)))) Γr Γ' Γb := fun s I F N σ e d D q => by
  refine h1 s I F N σ e d D (R.sat_imp (sat_mb.mp q) fun c s1 q => ?_)
  cases c with
  | rt x => exact q
  | nx x =>
    intro I1 N1 σ1 a1 d1 e1
    obtain ⟨I2, N2, x1, x2, x3, x4⟩ := e1.wk (w x s1) d1
    have q2 : ∀ I' N' σ', Ex I I' → Dis N' I' → EnvOk I' F N' σ' (Γ' (f x) s1) → D.nx σ' (ov N' I') := q
    rw [← x3]
    exact q2 I2 N2 σ1 (a1.trans x1) x2 x4
  | br x => exact nomatch x
end
end
/-! ### the built-ins' names -/
theorem bt_isinstance : bootBuiltins "isinstance" = some (.builtin "isinstance") := by decide +kernel
theorem bt_int : bootBuiltins "int" = some (.type "int") := by decide +kernel
theorem bt_bool : bootBuiltins "bool" = some (.type "bool") := by decide +kernel
theorem bt_list : bootBuiltins "list" = some (.type "list") := by decide +kernel
theorem bt_tuple : bootBuiltins "tuple" = some (.type "tuple") := by decide +kernel
theorem bt_str : bootBuiltins "str" = some (.type "str") := by decide +kernel
theorem bt_len : bootBuiltins "len" = some (.builtin "len") := by decide +kernel
theorem bt_sum : bootBuiltins "sum" = some (.builtin "sum") := by decide +kernel
theorem bt_sorted : bootBuiltins "sorted" = some (.builtin "sorted") := by decide +kernel
theorem bt_abs : bootBuiltins "abs" = some (.builtin "abs") := by decide +kernel
theorem bt_min : bootBuiltins "min" = some (.builtin "min") := by decide +kernel
theorem bt_max : bootBuiltins "max" = some (.builtin "max") := by decide +kernel
theorem bt_all : bootBuiltins "all" = some (.builtin "all") := by decide +kernel
theorem bt_any : bootBuiltins "any" = some (.builtin "any") := by decide +kernel
end Mir

/-! Mir9: repr of numbers and None; is, of bools; lists compared; max of a list -/
namespace Mir
open PySem PySem.Spec PyProof.Rows L2
/-! ### repr -/
def rReprO : List V → Hp → VK → Prop := fun xs H Q => (∃ i : Int, xs = [.int i] ∧ i.natAbs.log2 < 1920 ∧ Q (.str (toString i)) H) ∨ (xs = [.non] ∧ Q (.str "None") H)
theorem cr_reprO {X : Cx} : CallR X (.builtin "repr") rReprO := by
  intro pins s σ H xs us Q I r h
  rcases h with ⟨i, rfl, hz, q⟩ | ⟨rfl, q⟩
  · exact SkE.call_repr_int pins s σ H _ us Q I r ⟨i, rfl, hz, q⟩
  · obtain ⟨u, rfl, ru⟩ := vals1 r
    cases ru
    exact PySem.P.repr_of_none ⟨.str _, H, I.tok _, ⟨_, rfl⟩, q⟩
def rprO : Option Int → Str
  | none => "None"
  | some i => toString i
def rprOk : Option Int → Bool
  | none => true
  | some i => decide (i.natAbs.log2 < 1920)
section
variable {K : PySem.W.Frag}
theorem c_reprO {x : Option Int} (h : rprOk x = true) : Cb rReprO [pv K x] (pv K (rprO x)) := cb1 fun I N v Q d hv q => by
  cases x with
  | none => exact .inr ⟨by rw [show v = V.non from hv], q _ I (Ex.refl I) d rfl⟩
  | some i => exact .inl ⟨i, by rw [show v = V.int i from hv.1], of_decide_eq_true h, q _ I (Ex.refl I) d rfl⟩
section
variable {S α ζ : Type} [Rp α] {Γ1 : List Sl} {Γ : S → List Sl} {te ta tb : TE} {tl : TA} {ps : List PV} {t1 t2 : TO}
theorem em_cbC0 {r : List V → Hp → VK → Prop} {w : α} {g : Bool} (h : ∀ s, AP tl (Γ s) ps) (c : g = true → Cb r ps (pv K w)) : EM K (tCB r tl) Γ (mc g w) := fun s I F N σ e d Q q =>
  h s I F N σ e d _ fun vs I1 a1 d1 r1 => c (sat_mc.mp q).1 I1 N vs Q d1 r1 fun v I2 a2 d2 r2 => (sat_mc.mp q).2 v I2 N (a1.trans a2) d2 (e.up (a1.trans a2)) r2
/-! ### is, of bools -/
theorem o_isB {a b : Bool} : Op2 rIsB (pv K a) (pv K b) (pv K (decide (a = b))) := fun I M u v Q d hx hy k => ⟨a, b, hx, hy, k _ I (Ex.refl I) d rfl⟩
theorem o_notB {a b : Bool} : Op2 rNotB (pv K a) (pv K b) (pv K (!decide (a = b))) := fun I M u v Q d hx hy k => ⟨a, b, hx, hy, k _ I (Ex.refl I) d rfl⟩
/-! ### data -/
theorem hu64 {k : Nat} {A : Around} (hr : Room k A) : A.units + 64 < cLine := by
  have := hr.un
  omega
/-- a type as data -/
class Dt (α : Type) [Rp α] where
  dt : α → PyData
  rel : ∀ {K : PySem.W.Frag} {x : α} {H : Hp} {v : V}, Rp.r K x H v → Dp K H v (dt x)
  lay : ∀ x : α, (dt x).canLay0 = true
  dep : Nat
  dpt : ∀ x : α, (dt x).depth ≤ dep
  eqv : ∀ x y : α, PyData.eqv (dt x) (dt y) = true ↔ x = y
instance dtInt : Dt Int := ⟨.int, fun h => by rw [show _ = V.int _ from h]; exact .int _, fun _ => by simp [PyData.canLay0], 0, fun _ => by simp [PyData.depth], fun x y => by simp [PyData.eqv]⟩
theorem dpAll_of {α : Type} [Rp α] [Dt α] {K : PySem.W.Frag} {H : Hp} : ∀ {xs : List α} {vs : List V}, Rs K xs H vs → DpAll K H vs (xs.map Dt.dt)
  | _, _, .nil => .nil
  | _, _, .cons h t => .cons (Dt.rel h) (dpAll_of t)
theorem layAll_of {α : Type} [Rp α] [Dt α] : ∀ xs : List α, PyData.canLayAll0 (xs.map (Dt.dt (α := α))) = true
  | [] => by simp [PyData.canLayAll0]
  | x :: xs => by simp [PyData.canLayAll0, Dt.lay x, layAll_of xs]
theorem depAll_of {α : Type} [Rp α] [Dt α] : ∀ xs : List α, PyData.depthAll (xs.map (Dt.dt (α := α))) ≤ Dt.dep α
  | [] => by simp [PyData.depthAll]
  | x :: xs => by
    have h1 := Dt.dpt x
    have h2 := depAll_of xs
    simp [PyData.depthAll]
    omega
theorem eqvAll_of {α : Type} [Rp α] [Dt α] : ∀ xs ys : List α, PyData.eqvAll (xs.map (Dt.dt (α := α))) (ys.map Dt.dt) = true ↔ xs = ys
  | [], [] => by simp [PyData.eqvAll]
  | [], _ :: _ => by simp [PyData.eqvAll]
  | _ :: _, [] => by simp [PyData.eqvAll]
  | x :: xs, y :: ys => by
    have h1 := Dt.eqv x y
    have h2 := eqvAll_of xs ys
    simp [PyData.eqvAll, h1, h2]
instance dtList {α : Type} [Rp α] [Dt α] : Dt (List α) := ⟨fun xs => .list (xs.map Dt.dt), fun ⟨a, vs, h1, h2, h3⟩ => by rw [h1]; exact .lst (SqL.of h2) (dpAll_of h3), fun xs => by simp [PyData.canLay0, layAll_of xs], Dt.dep α + 1, fun xs => by
    have := depAll_of xs
    simp [PyData.depth]
    omega, fun xs ys => by
    have := eqvAll_of xs ys
    simp [PyData.eqv, this]⟩
theorem shaped_of {α : Type} [Rp α] [Dt α] (h : Dt.dep α ≤ 64) (x : α) : SeqAt.shaped (Dt.dt x) = true := by
  unfold SeqAt.shaped
  rw [Dt.lay, decide_eq_true (Nat.le_trans (Dt.dpt x) h)]
  rfl
theorem eqv_dec {α : Type} [Rp α] [Dt α] [DecidableEq α] (x y : α) : PyData.eqv (Dt.dt x) (Dt.dt y) = decide (x = y) := by
  by_cases h : x = y
  · rw [(Dt.eqv x y).mpr h, decide_eq_true h]
  · rw [decide_eq_false h]
    cases q : PyData.eqv (Dt.dt x) (Dt.dt y) with
    | false => rfl
    | true => exact absurd ((Dt.eqv x y).mp q) h
theorem dp_up {K : PySem.W.Frag} {α : Type} [Rp α] [Dt α] {x : α} {H H' : Hp} {v : V} (e : Ex H H') (h : Rp.r K x H v) : Dp K H' v (Dt.dt x) := Dt.rel (Rp.up e h)
theorem o_eqDt {α : Type} [Rp α] [Dt α] [DecidableEq α] {x y : α} (h : Dt.dep α ≤ 64) : Op2 (rEqD K) (pv K x) (pv K y) (pv K (decide (x = y))) := fun I M u v Q d hx hy k =>
  ⟨_, _, dp_up (ex_ov d) hx, dp_up (ex_ov d) hy, shaped_of h x, shaped_of h y, by rw [eqv_dec]; exact k _ I (Ex.refl I) d rfl⟩
theorem o_neDt {α : Type} [Rp α] [Dt α] [DecidableEq α] {x y : α} (h : Dt.dep α ≤ 64) : Op2 (rNeD K) (pv K x) (pv K y) (pv K (!decide (x = y))) := fun I M u v Q d hx hy k =>
  ⟨_, _, dp_up (ex_ov d) hx, dp_up (ex_ov d) hy, shaped_of h x, shaped_of h y, by rw [eqv_dec]; exact k _ I (Ex.refl I) d rfl⟩
/-! ### max of a list -/
def mxL : List Int → Int
  | [] => 0
  | x :: xs => xs.foldl max x
theorem foldl_max : ∀ (xs : List Int) (x : Int), (xs.foldl max x = x ∨ xs.foldl max x ∈ xs) ∧ x ≤ xs.foldl max x ∧ ∀ y ∈ xs, y ≤ xs.foldl max x
  | [], x => ⟨.inl rfl, Int.le_refl _, fun y h => nomatch h⟩
  | z :: xs, x => by
    obtain ⟨h1, h2, h3⟩ := foldl_max xs (max x z)
    rw [List.foldl_cons]
    refine ⟨?_, by omega, fun y hy => ?_⟩
    · rcases h1 with h1 | h1
      · rw [h1]
        by_cases c : x ≤ z
        · rw [Int.max_eq_right c]; exact .inr (List.mem_cons_self ..)
        · rw [Int.max_eq_left (by omega)]; exact .inl rfl
      · exact .inr (List.mem_cons_of_mem _ h1)
    · rcases List.mem_cons.mp hy with rfl | h
      · omega
      · exact h3 y h
theorem mxL_mem {xs : List Int} (h : xs ≠ []) : mxL xs ∈ xs := by
  cases xs with
  | nil => exact absurd rfl h
  | cons x xs =>
    rcases (foldl_max xs x).1 with q | q
    · show xs.foldl max x ∈ x :: xs
      rw [q]
      exact List.mem_cons_self ..
    · exact List.mem_cons_of_mem _ q
theorem mxL_le {xs : List Int} {y : Int} (h : y ∈ xs) : y ≤ mxL xs := by
  cases xs with
  | nil => cases h
  | cons x xs =>
    rcases List.mem_cons.mp h with rfl | q
    · exact (foldl_max xs y).2.1
    · exact (foldl_max xs x).2.2 y q
theorem mxL_eq {xs : List Int} {m : Int} (h : m ∈ xs) (h2 : ∀ y ∈ xs, y ≤ m) : mxL xs = m :=
  Int.le_antisymm (h2 _ (mxL_mem (List.ne_nil_of_mem h))) (mxL_le h)
theorem c_maxL {xs : List Int} (h : (!xs.isEmpty) = true) : Cb (rMax K) [pv K xs] (pv K (mxL xs)) := cb1 fun I N v Q d ⟨a, vs, h1, h2, h3⟩ q => ⟨a, xs, by rw [h1], SqL.of (by rw [← rs_int h3]; exact ex_ov d _ _ h2), by cases xs with
  | nil => cases h
  | cons x xs => exact Nat.succ_pos _, fun m hm hu => by
    rw [← mxL_eq hm hu]
    exact q _ I (Ex.refl I) d rfl⟩
/-! ### a slice of something made -/
theorem em_slM {xs : Mn S (List α)} {lo hi : Option Int} (h : EM K te Γ xs) (h1 : ∀ s, OPa t1 (Γ s) lo) (h2 : ∀ s, OPa t2 (Γ s) hi) : EM K (tSl (rSlL K) te t1 t2) Γ (mb xs fun x => mp (cutL x lo hi)) := fun s I F N σ e d Q q =>
  h s I F N σ e d _ (R.sat_imp (sat_mb.mp q) fun x s1 q v I1 N1 a1 d1 e1 r1 => h1 s1 I1 F N1 σ e1 d1 _ fun I2 a2 d2 => h2 s1 I2 F N1 σ (e1.up a2) d2 _ fun I3 a3 d3 => by
    obtain ⟨a, vs, g1, g2, g3⟩ := Rp.up (a2.trans a3) r1
    refine ⟨a, vs, g1, SqL.of (ex_ov d3 _ _ g2), fun p hp => ?_⟩
    obtain ⟨x1, x2, x3, x4⟩ := mk_list d3 hp (rs_cut g3)
    rw [x4]
    exact q _ _ _ (((a1.trans a2).trans a3).trans x1) x2 (e1.up ((a2.trans a3).trans x1)) x3)
end
end
theorem bt_repr : bootBuiltins "repr" = some (.builtin "repr") := by decide +kernel
end Mir

/-! Mir10: defs that are run where no guard stands (as a law is): so that repr of lists may be taken -/
namespace Mir
open PySem PySem.Spec PyProof.Rows L2
/-- as FnOk, of callers without guards -/
structure FnG (P : Program) (w : World) (K : PySem.W.Frag) (mg : Str → Option Value) (base : Heap) (CX : CXT) (k : Nat) (f : Addr) (fd : FuncData) (ps : List Str) (sp : Sp) : Prop where
  len : ∀ vs H Q E, sp vs H Q E → vs.length = ps.length
  run : ∀ (B : Around) (out : List Env) (s : Shared) (H : Hp) (as : Args) (us : List Value) (vs : List V) (Q : VK) (E : XK), B.guards = some [] → Room k B → Env0 P w K mg base B out s H → BindsTo s fd as (ps.zip us) → Vals vs us → sp vs H Q E → codeAny (model P w) B (.call (.ref f) as) (CR CX out P w H s Q E) s
section
variable {P : Program} {w : World} {K : PySem.W.Frag} {mg : Str → Option Value} {base : Heap} {CX : CXT} {N ps : List Str} {k : Nat} {sp : Sp}
theorem fnG_of {f : Addr} {nm ql : Str} {pa : Arguments} {bd : List Stmt} {sc : Scope} {dV kV dc pm cdv ct oc : Value} {an od : Option Addr} {sl : Array (Option Value)} (look : K.lookup f = some ⟨oc, od, .func (PySem.W.fnOf nm ql pa bd sc dV kV dc pm an cdv ct), sl⟩) (code : PySem.W.codeIn K cdv ql = true) (S : FnScope N ps sc)
    (hl : ∀ vs H Q E, sp vs H Q E → vs.length = ps.length) (hb : ∀ (B : Around) (out : List Env) (s : Shared) (H : Hp) (vs : List V) (Q : VK) (E : XK), (B.deeper (envOfC ql sc s.heap.objs.size f cdv)).guards = some [] → Room k (B.deeper (envOfC ql sc s.heap.objs.size f cdv)) → sp vs H Q E → ∃ t, PSs (cxOf CX P w K mg base N ql sc f cdv B out s H E) bd t ∧ t { nx := fun _ H' => Q .non H', rt := Q } (start N vs) H) :
    FnG P w K mg base CX (k + 1) f (PySem.W.fnOf nm ql pa bd sc dV kV dc pm an cdv ct) ps sp := ⟨hl, fun B out s H as us vs Q E gd room env bind rel prom => by
  have n := hl vs H Q E prom
  have inK : K.In s.heap := env.mod.kin.keeps fun a o q => (env.bs a o q).1
  have nolim : s.heap.NoLimit := env.mod.nolimit.keeps fun a o q => (env.bs a o q).1
  have kinds : ∀ y ∈ ps.zip us, sc.names.lookup y.1 = some .local ∨ (sc.names.lookup y.1 = some .cell ∧ ((cellsFrom (s.heap.objs.size + 1) sc.names []).lookup y.1).isSome = true) := fun ⟨x, v⟩ hy => (S.par x (List.of_mem_zip hy).1).elim .inl fun q => .inr ⟨q, PySem.W.cellsFrom_some _ _ _ (.inl q)⟩
  refine codeAny_call_function room.depth (inK _ _ look) rfl S.co S.gen rfl (PySem.W.codeRec_of inK code) (bind _ _ _ _ (wpAny_newFunctionEnv_cells S.kind kinds fun e he s2 x => ?_))
  subst he
  refine ⟨nolim.keeps x.toInCall.keep, codeAny_func ?_⟩
  obtain ⟨t, ht, hq⟩ := hb B out s H vs Q E gd (room.deeper _) prom
  have inv : Inv (cxOf CX P w K mg base N ql sc f cdv B out s H E) [] (start N vs) H s2 := inv_start S room.hd env n rel x
  refine wpAny_mono (ht.run [] s2 (start N vs) H _ inv hq) (fun fl s3 h3 => ?_) fun e s3 h3 => h3
  have done : ∀ {σ : L2.St} {H2 : Hp} {v : V} {u : Value}, Inv (cxOf CX P w K mg base N ql sc f cdv B out s H E) [] σ H2 s3 → RelV v u → Q v H2 → CE out P w H s Q u s3 := fun {σ H2 v u} j r q => ⟨v, H2, j.os, j.bare, j.base, j.hok, r, q⟩
  cases fl with
  | ret u => exact let ⟨v, σ, H2, j, r, q⟩ := h3; done j r q
  | next => exact let ⟨σ, H2, j, q⟩ := h3; done (v := V.non) (u := Value.none) j rfl q
  | brk => exact let ⟨_, _, _, q⟩ := h3; False.elim q
  | cont => exact let ⟨_, _, _, q⟩ := h3; False.elim q⟩
theorem okG {x ql : Str} {pa : Arguments} {bd : List Stmt} {sc : Scope} {dvs : List V} {kws : List (Str × V)} {f : Addr} {fd : FuncData} (F : FunD K x ql pa bd sc dvs kws f fd) (S : FnScope N ps sc) (hl : ∀ vs H Q E, sp vs H Q E → vs.length = ps.length)
    (hb : ∀ (cdv : Value) (B : Around) (out : List Env) (s : Shared) (H : Hp) (vs : List V) (Q : VK) (E : XK), (B.deeper (envOfC ql sc s.heap.objs.size f cdv)).guards = some [] → Room k (B.deeper (envOfC ql sc s.heap.objs.size f cdv)) → sp vs H Q E → ∃ t, PSs (cxOf CX P w K mg base N ql sc f cdv B out s H E) bd t ∧ t { nx := fun _ H' => Q .non H', rt := Q } (start N vs) H) : FnG P w K mg base CX (k + 1) f fd ps sp := by
  obtain ⟨oc, od, dV, kV, dc, pm, an, cdv, ct, sl, rfl, look, code, _, _⟩ := F.ex
  exact fnG_of look code S hl fun B out s H vs Q E gd room prom => hb cdv B out s H vs Q E gd room prom
/-- packed -/
structure CalG (P : Program) (w : World) (K : PySem.W.Frag) (mg : Str → Option Value) (base : Heap) (k : Nat) (x : Str) (ps : List Str) (sp : Sp) : Prop where
  ex : ∃ (f : Addr) (fd : FuncData), FnG P w K mg base CX0 k f fd ps sp ∧ mg x = some (.ref f) ∧ PySem.W.keepIn K (.ref f) = true ∧ Binds K fd ps []
structure CalKG (P : Program) (w : World) (K : PySem.W.Frag) (mg : Str → Option Value) (base : Heap) (k : Nat) (x : Str) (ps : List Str) (sp : Sp) (ks : List Str) (g : List Value → List Value → List Value) (gV : List V → List V → List V) : Prop where
  ex : ∃ (f : Addr) (fd : FuncData), FnG P w K mg base CX0 k f fd ps sp ∧ mg x = some (.ref f) ∧ PySem.W.keepIn K (.ref f) = true ∧ KBinds K fd ps ks g gV
end
section
variable {X : Cx} {CX : CXT} {k : Nat} {f : Addr} {fd : FuncData} {ps ks : List Str} {sp : Sp} {E : XK} {x : Str} {p pos : Pos} {e : Expr} {es : List Expr} {kws : List Keyword} {t tk : TA} {g : List Value → List Value → List Value} {gV : List V → List V → List V} {ds : List Value} {dvs : List V}
theorem pe_callG (F : FnG X.prog X.w X.K X.mg X.base CX k f fd ps sp) (gd : X.A.guards = some []) (hr : Room k X.A) (hg : Gl X x) (hm : X.mg x = some (.ref f)) (hk : PySem.W.keepIn X.K (.ref f) = true) (hb : Binds X.K fd ps ds) (hd : Vals dvs ds) (hx : Passes CX X E) (ha : PA X (e :: es) t)
    (hdb : (x == ("__debug__" : Str)) = false := by decide) (he : starEach (e :: es) X.env = (false, eval e X.env) :: starEach es X.env := by rfl) (hpl : (backTo pos (starEach es X.env)).any (·.1) = false := by rfl) : PE X (.Call (.Name x p) (e :: es) [] pos) (tCall sp dvs E t) :=
  ⟨fun pins s σ H Q I h => wpAny_Call_Name_kw (ld_glob I hg hm (PySem.W.callWith_K (h₀ := X.base) I.ok.mod.kin hk (thn (ha.run pos pins s σ H _ I h) fun us s1 ⟨vs, H1, I1, r, q⟩ => ⟨I1.kIn, by
    have rr : Vals (vs ++ dvs) (us ++ ds) := r.append hd
    have n : (us ++ ds).length = ps.length := by rw [← rr.length]; exact F.len _ _ _ _ q
    refine wpAny_call (codeAny_mono (F.run X.A X.stack s1 H1 ⟨us, []⟩ (us ++ ds) (vs ++ dvs) Q E gd hr I1.env0 (hb s1 us I1.kIn n) rr q) fun r s' hq => ?_)
    exact match r, hq with
      | .error z, hq => hx pins σ H1 s1 z s' I1 hq
      | .ok (.ret u), hq => I1.after hq
      | .ok .next, hq => False.elim hq
      | .ok .brk, hq => False.elim hq
      | .ok .cont, hq => False.elim hq⟩) he hpl) hdb)⟩
end
end Mir

/-! Mir11: calls by names, repr of data, the law's end, where no guard stands -/
namespace Mir
open PySem PySem.Spec PyProof.Rows L2
section
variable {X : Cx} {CX : CXT} {k : Nat} {f : Addr} {fd : FuncData} {ps ks : List Str} {sp : Sp} {E : XK} {x : Str} {p pos : Pos} {e : Expr} {es : List Expr} {kws : List Keyword} {t tk : TA} {g : List Value → List Value → List Value} {gV : List V → List V → List V} {ds : List Value} {dvs : List V}
theorem pe_callK0G (F : FnG X.prog X.w X.K X.mg X.base CX k f fd ps sp) (gd : X.A.guards = some []) (hr : Room k X.A) (hg : Gl X x) (hm : X.mg x = some (.ref f)) (hk : PySem.W.keepIn X.K (.ref f) = true) (hb : KBinds X.K fd ps ks g gV) (hx : Passes CX X E)
    (hkw : PK X kws tk) (hall : (backToKw pos (keywordEach kws X.env)).all (·.1.isSome) = true := by rfl) (hks : (backToKw pos (keywordEach kws X.env)).filterMap (·.1) = ks := by rfl)
    (hdb : (x == ("__debug__" : Str)) = false := by decide) (hpl : ((backTo pos (starEach [] X.env)).any (·.1) || (backToKw pos (keywordEach kws X.env)).any (·.1.isNone)) = false := by rfl) :
    PE X (.Call (.Name x p) [] kws pos) (tCallK sp gV E tNil tk) := by
  refine ⟨fun pins s σ H Q I h => wpAny_Call_Name_kw (ld_glob I hg hm (PySem.W.callWith_KW0 (h₀ := X.base) I.ok.mod.kin hk hall (thn (hkw.run pos pins s σ H _ I h) fun ws s2 ⟨zs, H2, I2, rz, q2⟩ => ⟨I2.kIn, ?_⟩) hpl) hdb)⟩
  rw [hks]
  have rr := hb.rel (vs := []) (us := []) .nil rz
  have n : (g [] ws).length = ps.length := by rw [← rr.length]; exact F.len _ _ _ _ q2
  refine wpAny_call (codeAny_mono (F.run X.A X.stack s2 H2 ⟨[], ks.zip ws⟩ (g [] ws) (gV [] zs) Q E gd hr I2.env0 (hb.to s2 [] ws I2.kIn n) rr q2) fun r s' hq => ?_)
  exact match r, hq with
    | .error z, hq => hx pins σ H2 s2 z s' I2 hq
    | .ok (.ret u), hq => I2.after hq
    | .ok .next, hq => False.elim hq
    | .ok .brk, hq => False.elim hq
    | .ok .cont, hq => False.elim hq
/-! ### repr of data -/
def rReprD (K : PySem.W.Frag) : List V → Hp → VK → Prop := fun xs H Q => ∃ v d, xs = [v] ∧ Dp K H v d ∧ d.showable = true ∧ SeqAt.shaped d = true ∧ d.shown.length ≤ sizeLine ∧ Q (.str d.shown) H
theorem cr_reprD {X : Cx} (gd : X.A.guards = some []) (hu : X.A.units + 66 < cLine) : CallR X (.builtin "repr") (rReprD X.K) := by
  intro pins s σ H xs us Q I r h
  obtain ⟨v, d, rfl, hd, hs, hsh, hz, q⟩ := h
  obtain ⟨u, rfl, ru⟩ := vals1 r
  have hdep := SeqAt.depth_of_shaped hsh
  have hdict : d.hasDict = false := PyData.hasDict_of_canLay d (SeqAt.canLay_of_shaped hsh)
  cases hd with
  | non => cases ru; exact PySem.P.repr_of_none ⟨.str _, H, I.tok _, ⟨_, rfl⟩, by simpa only [PyData.shown] using q⟩
  | bl b => cases ru; exact PySem.P.repr_of_bool ⟨.str _, H, I.tok _, ⟨_, rfl⟩, by simpa only [PyData.shown] using q⟩
  | int i =>
    obtain ⟨t, rfl⟩ := ru
    exact PySem.P.repr_of_int (by simpa [PyData.showable] using hs) ⟨.str _, H, I.tok _, ⟨_, rfl⟩, by simpa only [PyData.shown] using q⟩
  | str z =>
    obtain ⟨t, rfl⟩ := ru
    exact PySem.P.repr_of_str ⟨.str _, H, I.tok _, ⟨_, rfl⟩, by simpa only [PyData.shown] using q⟩ (by simpa only [PyData.shown] using hz)
  | lst h1 h2 =>
    obtain ⟨as, rd⟩ := Dp.reads I _ _ u (.lst h1 h2) ru
    cases ru
    exact repr_of_reads' rd hs (PyData.noDict_hsm hdict) gd (by omega) (fun b o e => e) (fun h' u tk kk => ⟨.str _, H, I.kept kk, ⟨_, rfl⟩, q⟩) hz
  | tup h1 h2 =>
    obtain ⟨as, rd⟩ := Dp.reads I _ _ u (.tup h1 h2) ru
    cases ru
    exact repr_of_reads' rd hs (PyData.noDict_hsm hdict) gd (by omega) (fun b o e => e) (fun h' u tk kk => ⟨.str _, H, I.kept kk, ⟨_, rfl⟩, q⟩) hz
theorem hu66 {k : Nat} {A : Around} (hr : Room k A) : A.units + 66 < cLine := by
  have := hr.un
  omega
end
section
variable {K : PySem.W.Frag}
def rprD {α : Type} [Rp α] [Dt α] (x : α) : Str := (Dt.dt x).shown
def rprDok {α : Type} [Rp α] [Dt α] (x : α) : Bool := (Dt.dt x).showable && decide ((Dt.dt x).shown.length ≤ sizeLine)
theorem c_reprD {α : Type} [Rp α] [Dt α] {x : α} (hd : Dt.dep α ≤ 64) (h : rprDok x = true) : Cb (rReprD K) [pv K x] (pv K (rprD x)) := cb1 fun I N v Q d hv q => by
  unfold rprDok at h
  rw [Bool.and_eq_true] at h
  exact ⟨v, _, rfl, dp_up (ex_ov d) hv, h.1, shaped_of hd x, of_decide_eq_true h.2, q _ I (Ex.refl I) d rfl⟩
end
end Mir

/-! Mir12: a law's end over a def that is run without guards -/
namespace Mir
open PySem PySem.Spec PyProof.Rows L2
theorem law_G {P : Program} {w : World} {K : PySem.W.Frag} {mg mb : Str → Option Value} {CX : CXT} {k : Nat} {fa a : Addr} {fd : FuncData} {x : Str} {sp : Sp} {st : Shared} {vs : List Value} {is : List Int}
    (inK : K.In st.heap) (hm : st.heap.Ns mainGlobals mg) (hb : st.heap.Ns builtinsNs mb) (hbb : ∀ y : Str, y ≠ "__name__" → mb y = bootBuiltins y) (nl : st.heap.NoLimit) (gn : st.gens = #[]) (obj : st.heap.get? a = some { cls := .type "list", data := .seq vs.toArray }) (itg : IntsAre vs is) (len : is.length ≤ sizeLine) (room : Room k callerA)
    (F : ∀ b0 : Heap, K.In b0 → b0.Ns mainGlobals mg → FnG P w K mg b0 CX k fa fd [x] sp) (bind : ∀ (s : Shared) (u : Value), BindsTo s fd ⟨[u], []⟩ [(x, u)]) (prom : ∀ H : Hp, Only H → SqL K H a (is.map V.int) → sp [.ref a] H (fun v _ => v = .bl true) fun _ _ _ => False) (noX : ∀ H e s', CX [] H st (fun _ _ _ => False) e s' → False) :
    codeAny (model P w) callerA (.call (.ref fa) ⟨[.ref a], []⟩) (fun r s' => r = .ok (.ret (.bool true)) ∧ OldK st.heap s'.heap ∧ s'.os = st.os ∧ AllBare s'.gens) st := by
  have rv := vals_ints itg
  have lv := itg.length
  have go : ∀ H : Hp, Only H → SqL K H a (is.map V.int) → HOk P w H st.heap → (∀ b, H b ≠ none → b = a) → (H a ≠ none → K.lookup a = none) → codeAny (model P w) callerA (.call (.ref fa) ⟨[.ref a], []⟩) (fun r s' => r = .ok (.ret (.bool true)) ∧ OldK st.heap s'.heap ∧ s'.os = st.os ∧ AllBare s'.gens) st := by
    intro H only sq ok atA notK
    have hid : ∀ {b : Addr} {o : Obj}, st.heap.get? b = some o → H b = none → (hidT st.heap H).get? b = some o := fun e n => hidT_get e n
    have isA : ∀ {b : Addr}, H b ≠ none → b = a := fun {b} h => atA b h
    have dictN : ∀ {b : Addr} {o : Obj} {es : Array DictEntry} {ep : Nat}, st.heap.get? b = some o → o.data = .dict es ep → H b = none := fun {b o es ep} e d => by
      by_cases n : H b = none
      · exact n
      · have := isA n
        subst this
        rw [obj] at e
        cases e
        exact absurd (show Data.seq vs.toArray _ = Data.dict es ep from d) (fun z => by cases z)
    have nsH : ∀ {b : Addr} {m : Str → Option Value}, st.heap.Ns b m → (hidT st.heap H).Ns b m := fun {b m} ⟨o, es, ep, e, d, r⟩ => ⟨o, es, ep, hid e (dictN e d), d, r⟩
    have inH : K.In (hidT st.heap H) := fun b o e => hid (inK b o e) (by
      by_cases n : H b = none
      · exact n
      · have := isA n
        subst this
        rw [notK n] at e
        cases e)
    have env : Env0 P w K mg (hidT st.heap H) callerA [] st H := ⟨rfl, ⟨inH, nsH hm, ⟨mb, nsH hb, hbb⟩, let ⟨mc, h1, h2⟩ := nl; ⟨mc, nsH h1, h2⟩⟩, fun b o e => of_hidT e, Nat.le_of_eq (hidT_size _ _), trivial, fun b h => absurd (show b ∈ ([] : List Addr) from h) (by simp), ok, .of_eq gn⟩
    refine codeAny_mono ((F _ inH (nsH hm)).run callerA [] st H ⟨[.ref a], []⟩ [.ref a] [.ref a] _ _ rfl room env (bind st (.ref a)) (.cons rfl .nil) (prom H only sq)) fun r s' h => ?_
    match r, h with
    | .error e, h => exact (noX H e s' h).elim
    | .ok .next, h => exact False.elim h
    | .ok .brk, h => exact False.elim h
    | .ok .cont, h => exact False.elim h
    | .ok (.ret u), ⟨v, H2, os, bare, un, ok2, rel, q⟩ =>
      obtain rfl : v = .bl true := q
      obtain rfl : u = Value.bool true := rel
      refine ⟨rfl, OldK.of_keep fun b o e => ?_, os, bare⟩
      cases n : H b with
      | none => exact un.keep b o e n (fun z => absurd (show b ∈ ([] : List Addr) from z) (by simp)) (by simp)
      | some u =>
        rcases only b with z | ⟨ob, xs, z⟩
        · rw [n] at z; cases z
        · obtain ⟨e1, _⟩ := ok b _ z
          obtain ⟨e2, _⟩ := ok2 b _ (un.frzs b ob _ z)
          rw [e] at e1
          cases e1
          exact e2
  cases hk : K.lookup a with
  | some o =>
    have e := inK a o hk
    rw [obj] at e
    cases e
    exact go (fun _ => none) (fun _ => .inl rfl) (.inr ⟨_, vs.toArray, _, hk, rfl, rfl, rfl, by rw [List.size_toArray, lv]; exact len, by simpa using rv⟩) (fun b u z => nomatch (show (none : Option HO) = some u from z)) (fun b z => absurd rfl z) fun z => absurd rfl z
  | none =>
    have at1 : ∀ {b : Addr} {u : HO}, (if b = a then some (HO.frz { cls := .type "list", data := .seq vs.toArray } (.lst (is.map V.int))) else none) = some u → b = a ∧ u = .frz { cls := .type "list", data := .seq vs.toArray } (.lst (is.map V.int)) := fun {b u} z => by
      by_cases h : b = a
      · rw [if_pos h] at z
        cases z
        exact ⟨h, rfl⟩
      · rw [if_neg h] at z
        cases z
    refine go (fun b => if b = a then some (.frz { cls := .type "list", data := .seq vs.toArray } (.lst (is.map V.int))) else none) (fun b => ?_) (.inl (.inr ⟨_, if_pos rfl⟩)) (fun b u z => ?_) (fun b z => ?_) fun _ => hk
    · by_cases h : b = a
      · exact .inr ⟨_, _, if_pos h⟩
      · exact .inl (if_neg h)
    · obtain ⟨rfl, rfl⟩ := at1 z
      exact ⟨obj, by rw [List.length_map]; exact len, vs, _, rv, obj⟩
    · by_cases h : b = a
      · exact h
      · exact absurd (if_neg h) z
theorem walk_G {l : PySem.W.OpenLaw} {n k : Nat} {q : Program} {loose : List Str} {XP : (Str → Option Value) → Heap → Prop} {YP : World → Heap → Prop} {d : DefRec} {CX : CXT} {x : Str} (hn : l.most = some n) (hn2 : n ≤ sizeLine) (nd : d.params.defaults = []) (room : Room k callerA)
    (F : ∀ (w : World) (mg : Str → Option Value) (fa : Addr) (h : Heap), YP w h → h.Ns mainGlobals mg → mg d.name = some (.ref fa) → ∃ (K : PySem.W.Frag) (fd : FuncData) (sp : Sp), K.In h ∧ (∀ (s : Shared) (u : Value), BindsTo s fd ⟨[u], []⟩ [(x, u)]) ∧ (∀ (H : Hp) (a : Addr) (is : List Int), is.length ≤ n → Only H → SqL K H a (is.map V.int) → sp [.ref a] H (fun v _ => v = .bl true) fun _ _ _ => False) ∧ ∀ b0 : Heap, K.In b0 → b0.Ns mainGlobals mg → FnG l.prog w K mg b0 CX k fa fd [x] sp)
    (noX : ∀ (H : Hp) (s : Shared) (e : Value) (s' : Shared), CX [] H s (fun _ _ _ => False) e s' → False) : PySem.W.WalkO q loose XP YP l.row.toRowW d [] (fun f vs => PySem.call f vs) := by
  refine Att.attach_call hn nd fun w s₀ s₁ mg mb fa o pm cd doc a vs is G Y ho hd hcd hmg obj itg hlen gn => ?_
  obtain ⟨K, fd, sp, inK, bind, prom, hF⟩ := F w mg fa _ Y G.T.g hmg
  exact law_G inK G.T.g G.T.b G.T.builtins G.T.nolimit gn obj itg (Nat.le_trans hlen hn2) room hF bind (fun H only sq => prom H a is hlen only sq) fun H e s' => noX H s₁ e s'
end Mir

/-! Mir13: instances of a class whose __init__ stores its attributes once -/
namespace Mir
open PySem L2
def ClsN (K : PySem.W.Frag) (C : Addr) (all : List Str) : Prop := Cls K C ∧ ∀ f ∈ all, NoAttr K C f
abbrev Ps (H : Hp) (ps : List PV) (vs : List V) : Prop := All2 (fun (p : PV) v => p.r H v) ps vs
theorem ps_up {H H' : Hp} {ps : List PV} {vs : List V} (e : Ex H H') (h : Ps H ps vs) : Ps H' ps vs := h.imp fun p _ q => p.up e q
/-- a made instance, read only -/
def insR (K : PySem.W.Frag) (all ns : List Str) (ps : List PV) (H : Hp) (v : V) : Prop := ∃ a C dx vs, v = .ref a ∧ H a = some (.ins C dx (ns.zip vs)) ∧ ClsN K C all ∧ Ps H ps vs
theorem insR_up {K : PySem.W.Frag} {all ns : List Str} {ps : List PV} {H H' : Hp} {v : V} (e : Ex H H') : insR K all ns ps H v → insR K all ns ps H' v := fun ⟨a, C, dx, vs, h1, h2, h3, h4⟩ => ⟨a, C, dx, vs, h1, e _ _ h2, h3, ps_up e h4⟩
/-- an instance that is being made -/
def insM (a C dx : Addr) (fs : List (Str × V)) : Hp := ov (sing a (.ins C dx fs)) (sing dx (.own a))
theorem upd_ins {a : Addr} {o o' : HO} {D M I : Hp} : upd (ov (ov (ov (sing a o) D) M) I) a o' = ov (ov (ov (sing a o') D) M) I := by
  rw [← ov_assoc (A := sing a o) (B := D) (C := M), upd_own, ov_assoc (A := sing a o') (B := D) (C := M)]
def oin (C : Addr) (ns : List Str) (ps : List PV) : OP := ⟨fun I a M => ∃ dx vs, dx ≠ a ∧ M = insM a C dx (ns.zip vs) ∧ Ps I ps vs, fun e ⟨dx, vs, h1, h2, h3⟩ => ⟨dx, vs, h1, h2, ps_up e h3⟩⟩
theorem zip_look {ns : List Str} {f : Str} : ∀ {i : Nat} {ps : List PV} {vs : List V} {H : Hp} {p : PV}, Ps H ps vs → ns.findIdx? (· == f) = some i → ps[i]? = some p → ∃ v, (ns.zip vs).lookup f = some v ∧ p.r H v := by
  induction ns with
  | nil => intro i ps vs H p _ h _; simp at h
  | cons n ns ih =>
    intro i ps vs H p hp h hi
    cases hp with
    | nil => simp at hi
    | cons h1 h2 =>
      rename_i q v ps vs
      rw [List.zip_cons_cons, List.lookup_cons]
      rw [List.findIdx?_cons] at h
      by_cases e : (n == f) = true
      · rw [if_pos e] at h
        cases h
        have e2 : (f == n) = true := by rw [LawfulBEq.eq_of_beq e]; exact beq_self_eq_true f
        rw [e2]
        cases hi
        exact ⟨v, rfl, h1⟩
      · rw [if_neg e] at h
        obtain ⟨j, hj, rfl⟩ := Option.map_eq_some_iff.mp h
        have e2 : (f == n) = false := by
          cases q : (f == n) with
          | false => rfl
          | true => exact absurd (by rw [LawfulBEq.eq_of_beq q]; exact beq_self_eq_true n) e
        rw [e2]
        exact ih h2 hj (by simpa using hi)
section
variable {K : PySem.W.Frag} {all ns : List Str} {ps : List PV} {f : Str} {i : Nat}
/-- o.f -/
theorem ep_fld {Γ : List Sl} {te : TE} {q p : PV} (h : EP te Γ q) (hq : ∀ H v, q.r H v → insR K all ns ps H v) (hi : ns.findIdx? (· == f) = some i) (hf : f ∈ all) (hp : ps[i]? = some p) : EP (tFld K te f) Γ p := fun I F N σ e d Q k =>
  h I F N σ e d _ fun v I1 a1 d1 r1 => by
    obtain ⟨a, C, dx, vs, h1, h2, h3, h4⟩ := hq _ _ r1
    obtain ⟨u, g1, g2⟩ := zip_look h4 hi hp
    exact ⟨a, C, dx, _, u, h1, ex_ov d1 _ _ h2, h3.1, h3.2 f hf, g1, k u I1 a1 d1 g2⟩
/-- self.f, while it is made -/
theorem ep_fldO {Γ : List Sl} {C : Addr} {j : Nat} {w : V} {p : PV} (hj : Γ[j]? = some (.ow ((oin C ns ps).at w))) (hc : ClsN K C all) (hi : ns.findIdx? (· == f) = some i) (hf : f ∈ all) (hp : ps[i]? = some p) : EP (tFld K (tVar j) f) Γ p := fun I F N σ e d Q k => by
  obtain ⟨a, Ma, M', h1, ⟨_, dx, vs, h2, h3, h4⟩, h5, h6, _⟩ := e.foc hj
  obtain ⟨u, g1, g2⟩ := zip_look h4 hi hp
  refine ⟨_, h1, a, C, dx, _, u, rfl, ?_, hc.1, hc.2 f hf, g1, k u I (Ex.refl I) d g2⟩
  rw [h6, h3]
  exact ov_l (ov_l (ov_l sing_same))
theorem putF_new : ∀ {ns : List Str} {vs : List V} {y : V}, ns.length = vs.length → f ∉ ns → putF f y (ns.zip vs) = (ns ++ [f]).zip (vs ++ [y])
  | [], [], y, _, _ => rfl
  | n :: ns, v :: vs, y, hl, hn => by
    have h1 : ¬ n = f := fun e => hn (e ▸ List.mem_cons_self ..)
    have ih := putF_new (ns := ns) (vs := vs) (y := y) (by simpa using hl) fun h => hn (List.mem_cons_of_mem _ h)
    show (if n = f then (n, y) :: ns.zip vs else (n, v) :: putF f y (ns.zip vs)) = (n, v) :: (ns ++ [f]).zip (vs ++ [y])
    rw [if_neg h1, ih]
  | [], _ :: _, _, h, _ => by simp at h
  | _ :: _, [], _, h, _ => by simp at h
/-- self.f = e, a new attribute -/
theorem rp_fldI {S α : Type} [Rp α] {Γ : S → List Sl} {te : TE} {C : Addr} {j : Nat} {w : V} {m : Mn S α} {Γ' : α → S → List Sl} (hj : ∀ s, (Γ s)[j]? = some (.ow ((oin C ns ps).at w))) (hl : ns.length = ps.length) (hc : ClsN K C all) (hf : f ∈ all) (hn : f ∉ ns) (h9 : ns.length < 1000) (h : EM K te Γ m) (hΓ : ∀ x s, (Γ s).set j (.ow ((oin C (ns ++ [f]) (ps ++ [pv K x])).at w)) = Γ' x s) : RP (sFld K (tVar j) te f) Γ m Γ' := fun s I F N σ e d D q =>
  h s I F N σ e d _ (R.sat_imp q fun x s1 q v I1 N1 a1 d1 e1 r1 => by
    obtain ⟨a, Ma, M', h1, ⟨hw, dx, vs, h2, h3, h4⟩, h5, h6, h7, _⟩ := e1.foc (hj s1)
    subst h6 h3
    obtain ⟨y1, y2⟩ := dis_ov_l d1
    have hv : ns.length = vs.length := by rw [hl]; exact h4.length
    refine ⟨_, h1, a, C, dx, _, rfl, ov_l (ov_l (ov_l sing_same)), hc.1, hc.2 f hf, ?_, ?_⟩
    · rw [List.length_zip, ← hv, Nat.min_self]; exact h9
    · rw [putF_new hv hn]
      have dN : Dis (insM a C dx ((ns ++ [f]).zip (vs ++ [v]))) M' := fun b => by
        rcases h5 b with z | z
        · left
          obtain ⟨z1, z2⟩ := ov_none z
          refine ov_none' ?_ z2
          by_cases eb : b = a
          · subst eb; rw [sing_same] at z1; cases z1
          · exact sing_ne eb
        · exact .inr z
      have dI : Dis (insM a C dx ((ns ++ [f]).zip (vs ++ [v]))) I1 := fun b => by
        rcases y1 b with z | z
        · left
          obtain ⟨z1, z2⟩ := ov_none z
          refine ov_none' ?_ z2
          by_cases eb : b = a
          · subst eb; rw [sing_same] at z1; cases z1
          · exact sing_ne eb
        · exact .inr z
      have e2 : upd (ov (ov (insM a C dx (ns.zip vs)) M') I1) a (.ins C dx ((ns ++ [f]).zip (vs ++ [v]))) = ov (ov (insM a C dx ((ns ++ [f]).zip (vs ++ [v]))) M') I1 := by
        exact upd_ins
      rw [e2]
      refine q I1 _ σ a1 (dis_ov dI y2) ?_
      rw [← hΓ]
      exact h7 I1 _ _ (Ex.refl I1) dN ⟨hw, dx, _, h2, rfl, h4.append (.cons r1 .nil)⟩)
/-! ### what __init__ promises; C(e, ..) -/
def PromI {α ι : Type} (C : Addr) (ns : List Str) (As : ι → List PV) (m : ι → Mn Unit α) (fl : α → List PV) : Sp := fun vs H Q _ => ∃ (i : ι) (I N : Hp) (a dx : Addr) (us : List V), vs = .ref a :: us ∧ dx ≠ a ∧ H = ov (ov (insM a C dx []) N) I ∧ Dis (insM a C dx []) N ∧ Dis (ov (insM a C dx []) N) I ∧ Ps I (As i) us ∧
  (m i ()).sat fun x _ => ∀ I' M', Ex I I' → (oin C ns (fl x)).r I' a M' → Dis M' N → Dis (ov M' N) I' → Q .non (ov (ov M' N) I')
theorem promI_len {α ι : Type} {C : Addr} {As : ι → List PV} {m : ι → Mn Unit α} {fl : α → List PV} {n : Nat} (h : ∀ i, (As i).length = n) : ∀ vs H Q E, PromI C ns As m fl vs H Q E → vs.length = n + 1 := fun vs H Q E ⟨i, I, N, a, dx, us, h1, _, _, _, _, h5, _⟩ => by
  rw [h1, List.length_cons, ← h5.length, h i]
theorem eo_make {S ζ α ι : Type} {Γ : S → List Sl} {ta : TA} {E : XK} {C : Addr} {As : ι → List PV} {m : ι → Mn Unit α} {fl : α → List PV} {mm : Mn S ζ} {psf : ζ → List PV} {g : ζ → ι} (h : AM ta Γ mm psf) (hA : ∀ z, As (g z) = psf z) : EO (tMake C (PromI C ns As m fl) [] E ta) Γ (mb mm fun z => mu (m (g z))) (rOw fun x => oin C ns (fl x)) := fun s I F N σ e d Q q =>
  h s I F N σ e d _ (R.sat_imp (sat_mb.mp q) fun z s1 q vs I1 N1 a1 d1 e1 r1 => fun x dx hx hdx hne => by
    obtain ⟨x1, x2⟩ := ov_none hx
    obtain ⟨z1, z2⟩ := ov_none hdx
    have eH : upd (upd (ov N1 I1) dx (.own x)) x (.ins C dx []) = ov (ov (insM x C dx []) N1) I1 := by
      unfold insM
      rw [upd_sing, upd_sing, ov_assoc, ov_assoc]
    have dN : Dis (insM x C dx []) N1 := dis_ov (dis_sing x1) (dis_sing z1)
    have dI : Dis (insM x C dx []) I1 := dis_ov (dis_sing x2) (dis_sing z2)
    rw [List.append_nil, eH]
    refine ⟨g z, I1, N1, x, dx, vs, rfl, hne, rfl, dN, dis_ov dI d1, by rw [hA]; exact r1, R.sat_imp (sat_mu.mp q) fun y _ q I2 M2 a2 o2 d2 d3 => ⟨rfl, ?_⟩⟩
    exact q _ _ I2 N1 (a1.trans a2) (e1.up a2) ⟨x, M2, rfl, d2, d3, rfl, o2⟩)
/-- what was made, kept as a value -/
theorem fr_oin {C : Addr} (hc : ClsN K C all) : ∀ I a Ma, Dis Ma I → (oin C ns ps).r I a Ma → insR K all ns ps (ov Ma I) (.ref a) := fun I a Ma d ⟨dx, vs, h1, h2, h3⟩ => ⟨a, C, dx, vs, rfl, by rw [h2]; exact ov_l (ov_l sing_same), hc, ps_up (ex_ov d) h3⟩
/-- __init__ keeps its promise -/
theorem promI_ok {α ι : Type} {C : Addr} {As : ι → List PV} {m : ι → Mn Unit α} {fl : α → List PV} {t : TS} {N : List Str} {v : V} {us : List V} {H : Hp} {Q : VK} {E : XK} {n : Nat} (k : Nat) (hA : ∀ i, (As i).length = n) (hk : N.length - (n + 1) = k)
    (h : ∀ i, RP t (fun _ => .ow ((oin C [] []).at v) :: ((As i).map Sl.im ++ List.replicate k .no)) (m i) (fun x _ => .ow ((oin C ns (fl x)).at v) :: (List.replicate n .no ++ List.replicate k .no))) (p : PromI C ns As m fl (v :: us) H Q E) : t { nx := fun _ H' => Q .non H', rt := Q } (L2.start N (v :: us)) H := by
  have hl := promI_len hA _ H Q E p
  obtain ⟨i, I, M, a, dx, us', e0, hne, rfl, d1, d2, r, q⟩ := p
  obtain ⟨rfl, rfl⟩ := List.cons.inj e0
  have es : L2.start N (.ref a :: us) = some (.ref a) :: (us.map some ++ List.replicate k none) := by
    unfold L2.start
    rw [hl, hk]
    rfl
  rw [es]
  have ee : EnvOk I M (ov (insM a C dx []) M) (some (.ref a) :: (us.map some ++ List.replicate k none)) (.ow ((oin C [] []).at (.ref a)) :: ((As i).map Sl.im ++ List.replicate k .no)) :=
    .ow ⟨rfl, dx, [], hne, rfl, .nil⟩ d1 ((EnvOk.ims r).app k)
  refine h i () I M _ _ ee d2 _ (R.sat_imp q fun x _ q I' N' σ' a1 d3 e1 => ?_)
  have hno : ∀ {n k : Nat} {N2 : Hp} {σ : L2.St}, EnvOk I' M N2 σ (List.replicate n .no ++ List.replicate k .no) → N2 = M := fun {n k N2 σ} e => by
    rw [List.replicate_append_replicate] at e
    exact EnvOk.nos e
  cases e1 with
  | ow q1 d4 e4 =>
    cases hno e4
    obtain ⟨hw, q1⟩ := q1
    cases hw
    exact q I' _ a1 q1 d4 d3
end
end Mir

/-! Mir14: small things: None or not, compared; lists of mixed types; lists unpacked, turned round -/
namespace Mir
open PySem L2
/-- a type without None -/
class Nn (α : Type) [Rp α] : Prop where
  nn : ∀ {K : PySem.W.Frag} {x : α} {H : Hp} {v : V}, Rp.r K x H v → v ≠ .non
instance nnInt : Nn Int := ⟨fun h q => by rw [show _ = V.int _ from h] at q; cases q⟩
instance nnBool : Nn Bool := ⟨fun h q => by rw [show _ = V.bl _ from h] at q; cases q⟩
instance nnStr : Nn Str := ⟨fun h q => by rw [show _ = V.str _ from h] at q; cases q⟩
instance nnList {α : Type} [Rp α] : Nn (List α) := ⟨fun ⟨a, vs, h, _⟩ q => by rw [h] at q; cases q⟩
instance nnTu {α : Type} [Rp α] : Nn (Tu α) := ⟨fun ⟨a, vs, h, _⟩ q => by rw [h] at q; cases q⟩
instance nnProd {α β : Type} [Rp α] [Rp β] : Nn (α × β) := ⟨fun ⟨a, v1, v2, h, _⟩ q => by rw [h] at q; cases q⟩
instance nnT3 {α β γ : Type} [Rp α] [Rp β] [Rp γ] : Nn (T3 α β γ) := ⟨fun ⟨a, v1, v2, v3, h, _⟩ q => by rw [h] at q; cases q⟩
instance nnT4 {α β γ δ : Type} [Rp α] [Rp β] [Rp γ] [Rp δ] : Nn (T4 α β γ δ) := ⟨fun ⟨a, v1, v2, v3, v4, h, _⟩ q => by rw [h] at q; cases q⟩
section
variable {K : PySem.W.Frag}
theorem ep_someN {α : Type} [Rp α] [Nn α] {Γ : List Sl} {te : TE} {x : α} (h : EP te Γ (pv K x)) : EP te Γ (pv K (some x)) := ep_some (fun _ _ q => Nn.nn q) h
theorem em_someN {S α : Type} [Rp α] [Nn α] {Γ : S → List Sl} {te : TE} {m : Mn S α} (h : EM K te Γ m) : EM K te Γ (mb m fun x => mp (some x)) := em_some (fun _ _ _ q => Nn.nn q) h
end
instance scOptI : Sc (Option Int) := ⟨fun x => match x with
  | none => V.non
  | some i => V.int i, fun {K x H v} => by
    cases x with
    | none => exact Iff.rfl
    | some i => exact ⟨fun h => h.1, fun h => ⟨h, fun q => by rw [show v = V.int i from h] at q; cases q⟩⟩⟩
instance eqsOptI : Eqs (Option Int) := ⟨fun x y => by cases x <;> cases y <;> rfl, fun x y h => by
  cases x with
  | none => cases y with
    | none => rfl
    | some j => cases h
  | some i => cases y with
    | none => cases h
    | some j => cases (V.int.inj h); rfl⟩
/-! ### data of more types -/
instance dtBool : Dt Bool := ⟨.bool, fun h => by rw [show _ = V.bl _ from h]; exact .bl _, fun _ => by simp [PyData.canLay0], 0, fun _ => by simp [PyData.depth], fun x y => by simp [PyData.eqv]⟩
instance dtOptI : Dt (Option Int) := ⟨fun x => match x with
  | none => .none
  | some i => .int i, fun {K x H v} h => by
    cases x with
    | none => rw [show v = V.non from h]; exact .non
    | some i => rw [show v = V.int i from h.1]; exact .int _, fun x => by cases x <;> simp [PyData.canLay0], 0, fun x => by cases x <;> simp [PyData.depth], fun x y => by cases x <;> cases y <;> simp [PyData.eqv]⟩
/-- a list of three of mixed types -/
structure L3 (α β γ : Type) where
  a : α
  b : β
  c : γ
  deriving DecidableEq
instance rpL3 {α β γ : Type} [Rp α] [Rp β] [Rp γ] : Rp (L3 α β γ) := ⟨fun K x H v => ∃ p v1 v2 v3, v = V.ref p ∧ H p = some (.lst [v1, v2, v3]) ∧ Rp.r K x.a H v1 ∧ Rp.r K x.b H v2 ∧ Rp.r K x.c H v3,
  fun e ⟨p, v1, v2, v3, h1, h2, h3, h4, h5⟩ => ⟨p, v1, v2, v3, h1, e _ _ h2, Rp.up e h3, Rp.up e h4, Rp.up e h5⟩⟩
instance dtL3 {α β γ : Type} [Rp α] [Rp β] [Rp γ] [Dt α] [Dt β] [Dt γ] : Dt (L3 α β γ) := ⟨fun x => .list [Dt.dt x.a, Dt.dt x.b, Dt.dt x.c], fun ⟨p, v1, v2, v3, h1, h2, h3, h4, h5⟩ => by
    rw [h1]
    exact .lst (SqL.of h2) (.cons (Dt.rel h3) (.cons (Dt.rel h4) (.cons (Dt.rel h5) .nil))), fun x => by simp [PyData.canLay0, PyData.canLayAll0, Dt.lay], max (Dt.dep α) (max (Dt.dep β) (Dt.dep γ)) + 1, fun x => by
    have h1 := Dt.dpt x.a
    have h2 := Dt.dpt x.b
    have h3 := Dt.dpt x.c
    simp [PyData.depth, PyData.depthAll]
    omega, fun x y => by
    have h1 := Dt.eqv x.a y.a
    have h2 := Dt.eqv x.b y.b
    have h3 := Dt.eqv x.c y.c
    obtain ⟨a, b, c⟩ := x
    obtain ⟨a', b', c'⟩ := y
    simp only at h1 h2 h3
    simp [PyData.eqv, PyData.eqvAll, h1, h2, h3]⟩
section
variable {K : PySem.W.Frag} {S α β γ ζ : Type} [Rp α] [Rp β] [Rp γ]
theorem em_l3 {Γ : S → List Sl} {ta : TA} {m : Mn S ζ} {f : ζ → L3 α β γ} (h : AM ta Γ m fun z => [pv K (f z).a, pv K (f z).b, pv K (f z).c]) : EM K (tLst ta) Γ (mb m fun z => mp (f z)) := fun s I F N σ e d Q q =>
  h s I F N σ e d _ (R.sat_imp (sat_mb.mp q) fun z s1 q vs I1 N1 a1 d1 e1 r1 => by
    obtain ⟨v1, _, rfl, r5, r⟩ := all2_c r1
    obtain ⟨v2, _, rfl, r2, r⟩ := all2_c r
    obtain ⟨v3, _, rfl, r3, r⟩ := all2_c r
    cases all2_n r
    refine ⟨sz2 (by show 3 ≤ 1000; decide), fun p hp => ?_⟩
    obtain ⟨h1, h2⟩ := ov_none hp
    have ex : Ex I1 (upd I1 p (.lst [v1, v2, v3])) := Ex.new h2
    rw [ov_upd h1]
    exact q _ _ N1 (a1.trans ex) (dis_upd d1 h1) (e1.up ex) ⟨p, v1, v2, v3, rfl, upd_same, Rp.up ex r5, Rp.up ex r2, Rp.up ex r3⟩)
theorem of_rs {I : Hp} : ∀ {w : List α} {vs : List V}, Rs K w I vs → All2 (fun (p : PV) v => p.r I v) (w.map (pv K)) vs
  | _, _, .nil => .nil
  | _, _, .cons h t => .cons h (of_rs t)
/-- a, b, .. = a list -/
theorem rp_unpL {Γ : S → List Sl} {te : TE} {m : Mn S (List Int)} {Γ' : List Int → S → List Sl} {n : Nat} (js : List Nat) (h : EM K te Γ m) (hj : ∀ s, asgOk (Γ s) js n) (hΓ : ∀ w s, setG (Γ s) js ((List.range n).map fun i => .im (pv K (w.getD i 0))) = Γ' w s) : RP (tAsg te (gLst K n (gNames js))) Γ (mb m fun w => mc (decide (w.length = n)) w) Γ' := fun s I F N σ e d D q =>
  h s I F N σ e d _ (R.sat_imp (sat_mb.mp q) fun w s1 q v I1 N1 a1 d1 e1 ⟨a, vs, h1, h2, h3⟩ => by
    obtain ⟨c, q⟩ := sat_mc.mp q
    have c : w.length = n := of_decide_eq_true c
    have hv : vs.length = n := by rw [← h3.length, c]
    subst h1
    refine ⟨a, vs, rfl, SqL.of (ex_ov d1 _ _ h2), hv, gNames_ok js vs σ _ _ (hv.trans (hj s1).1.symm) ?_⟩
    refine q I1 N1 _ a1 d1 ?_
    rw [← hΓ]
    have e3 : All2 (fun (p : PV) v => p.r I1 v) ((List.range n).map fun i => pv K (w.getD i 0)) vs := by
      have hw : (List.range n).map (fun i => pv K (w.getD i 0)) = w.map (pv K) := by
        apply List.ext_getElem
        · simp [c]
        · intro i g1 g2
          simp only [List.length_map] at g2
          simp [List.getD_eq_getElem?_getD, List.getElem?_eq_getElem g2]
      rw [hw]
      exact of_rs h3
    have e4 : EnvOk I1 N1 N1 (vs.map some) ((List.range n).map fun i => Sl.im (pv K (w.getD i 0))) := by
      have := EnvOk.ims (I := I1) (F := N1) e3
      rw [List.map_map] at this
      exact this
    exact EnvOk.takes e1 e4 (by simp [(hj s1).1]) (hj s1).2.1 (hj s1).2.2 (fun c hc => by
      obtain ⟨i, _, rfl⟩ := List.mem_map.mp hc
      exact fun q => nomatch q))
end
end Mir

/-! Mir15: list(range(a, b, c)), len(range(a, b, c)), c positive -/
namespace Mir
open PySem PySem.Spec PyProof.Rows L2
/-- how many: c positive -/
def rgN (a b c : Int) : Nat := if a < b then ((b - a - 1) / c + 1).toNat else 0
def rgC (a b c : Int) : List Int := (List.range (rgN a b c)).map fun i => a + (i : Nat) * c
def rgCok (a b c : Int) : Bool := decide (0 < c) && Builtin.Range.small a b c && decide (c.natAbs < 1073741824) && decide (rgN a b c ≤ 2 ^ 24)
theorem rgCok_at {a b c : Int} (h : rgCok a b c = true) : 0 < c ∧ Builtin.Range.small a b c = true ∧ c.natAbs < 1073741824 ∧ rgN a b c ≤ 2 ^ 24 := by
  unfold rgCok at h
  rw [Bool.and_eq_true, Bool.and_eq_true, Bool.and_eq_true] at h
  exact ⟨of_decide_eq_true h.1.1.1, h.1.1.2, of_decide_eq_true h.1.2, of_decide_eq_true h.2⟩
theorem rgN_size {a b c : Int} (h : 0 < c) : Builtin.Range.rangeSize a b c = (rgN a b c : Nat) := by
  unfold Builtin.Range.rangeSize rgN
  rw [if_pos h]
  by_cases e : a < b
  · rw [if_pos e, if_pos e]
    have : 0 ≤ (b - a - 1) / c := Int.ediv_nonneg (by omega) (by omega)
    omega
  · rw [if_neg e, if_neg e]
    rfl
section
variable {X : Cx} {a b c : Expr} {ta : TA} {p pos : Pos}
/-- an expression that makes a range of three -/
def tRg3 (ta : TA) : L2.St → Hp → (Int → Int → Int → Hp → Prop) → Prop := fun σ H Q => ta σ H fun vs H1 => ∃ i j k, vs = [.int i, .int j, .int k] ∧ k ≠ 0 ∧ k.natAbs < 1073741824 ∧ Q i j k H1
def PRg3 (X : Cx) (e : Expr) (t : L2.St → Hp → (Int → Int → Int → Hp → Prop) → Prop) : Prop :=
  ∀ (pins : List (Addr × Obj)) (s : Shared) (σ : L2.St) (H : Hp) (Q : Int → Int → Int → Hp → Prop), Inv X pins σ H s → t σ H Q → wpAny (model X.prog X.w) X.A (eval e X.env) (fun x s' => ∃ r i j k t u v H', x = .ref r ∧ IsRange s'.heap r i j k t u v ∧ Inv X pins σ H' s' ∧ Q i j k H') X.xe s
theorem prg_3 (hg : Gl X "range") (hm : X.mg "range" = none) (ha : PA X [a, b, c] ta) (hs : starEach [a, b, c] X.env = (false, eval a X.env) :: starEach [b, c] X.env := by rfl) (hpl : (backTo pos (starEach [b, c] X.env)).any (·.1) = false := by rfl) : PRg3 X (.Call (.Name "range" p) [a, b, c] [] pos) (tRg3 ta) := fun pins s σ H Q I h => by
  have h2 : ta σ H fun vs H1 => ∃ i j k, vs = [.int i, .int j, .int k] ∧ k ≠ 0 ∧ k.natAbs < 1073741824 ∧ Q i j k H1 := h
  refine Call_ (ld_blt I hg hm boot_range (PyProof.Rows.callWith_type1 (thn (ha.run pos pins s σ H _ I h2) fun us s1 ⟨vs, H1, I1, r1, q1⟩ => ?_) hs hpl))
  obtain ⟨i, j, k, e, k0, k1, q⟩ := q1
  subst e
  cases r1 with
  | cons r rr =>
    cases rr with
    | cons r' rr =>
      cases rr with
      | cons r'' rr =>
        cases rr
        obtain ⟨t, rfl⟩ := r
        obtain ⟨t', rfl⟩ := r'
        obtain ⟨t'', rfl⟩ := r''
        exact call_range_3 k0 ⟨_, i, j, k, _, _, _, H1, rfl, IsRange.new _ _ _ _ _ _ _, I1.kept fun b u e => Heap.get?_push_of_some _ e, q⟩ (.inl (PyProof.noPylong_small k1))
def tLstRg3 (te : L2.St → Hp → (Int → Int → Int → Hp → Prop) → Prop) : TE := fun σ H Q => te σ H fun i j k H1 => rgCok i j k = true ∧ ∀ q, H1 q = none → Q (.ref q) (upd H1 q (.lst ((rgC i j k).map V.int)))
def tLenRg3 (te : L2.St → Hp → (Int → Int → Int → Hp → Prop) → Prop) : TE := fun σ H Q => te σ H fun i j k H1 => rgCok i j k = true ∧ Q (.int (rgN i j k)) H1
variable {e : Expr} {te : L2.St → Hp → (Int → Int → Int → Hp → Prop) → Prop}
theorem pe_listRg3 (hc : X.calm = true) (hg : Gl X "list") (hm : X.mg "list" = none) (he : PRg3 X e te) (na : starEach [e] X.env = (false, eval e X.env) :: starEach [] X.env := by rfl) : PE X (.Call (.Name "list" p) [e] [] pos) (tLstRg3 te) := ⟨fun pins s σ H Q I h => by
  refine Call_ (ld_blt I hg hm boot_list (PyProof.Rows.callWith_type1 (args_cons (thn (he pins s σ H _ I h) fun x s1 ⟨r, i, j, k, t, u, v, H1, ex, hr, I1, ok, q⟩ => args_nil ?_) na) na))
  subst ex
  obtain ⟨c1, c2, c3, c4⟩ := rgCok_at ok
  refine call_list_range (n := rgN i j k) (I1.ok.hd hc) hr c2 (rgN_size c1) c4 fun h' tk acc n' hk e' hi => ⟨.ref s1.heap.objs.size, upd H1 s1.heap.objs.size (.lst ((rgC i j k).map V.int)), I1.laid hk (Nat.le_refl _) (show ObjOk X.prog X.w _ _ _ (.lst _) from ⟨?_, acc.toList, n', ?_, ?_⟩), rfl, q _ (I1.hok.fresh (Nat.le_refl _))⟩
  · rw [List.length_map]
    unfold rgC
    rw [List.length_map, List.length_range, sizeLine_eq]
    omega
  · have el : acc.toList.length = rgN i j k := by rw [Array.length_toList]; exact hi.1
    unfold rgC
    rw [List.map_map, ← el]
    refine vals_of_get acc.toList _ fun j' u' hj => ?_
    obtain ⟨t', rfl⟩ := hi.2 j' u' (by rw [← hj, Array.getElem?_toList])
    exact ⟨t', rfl⟩
  · rw [Array.toArray_toList]; exact e'⟩
theorem pe_lenRg3 (hg : Gl X "len") (hm : X.mg "len" = none) (he : PRg3 X e te) (na : starEach [e] X.env = (false, eval e X.env) :: starEach [] X.env := by rfl) : PE X (.Call (.Name "len" p) [e] [] pos) (tLenRg3 te) := ⟨fun pins s σ H Q I h => by
  refine Call_ (ld_blt I hg hm boot_len (PyProof.Rows.callWith_builtin1 (args_cons (thn (he pins s σ H _ I h) fun x s1 ⟨r, i, j, k, t, u, v, H1, ex, hr, I1, ok, q⟩ => args_nil ?_) na) na))
  subst ex
  obtain ⟨c1, c2, c3, c4⟩ := rgCok_at ok
  exact call_len_range (n := rgN i j k) hr (rgN_size c1) (by omega) ⟨.int _, H1, I1.tok _, ⟨_, rfl⟩, q⟩⟩
end
end Mir

/-! Mir16: attributes as targets; a class packed -/
namespace Mir
open PySem PySem.Spec PyProof.Rows L2
def gFld (K : PySem.W.Frag) (to : TE) (f : Str) : TG := fun v σ H Q => to σ H fun x H1 => ∃ a C dx fs, x = .ref a ∧ H1 a = some (.ins C dx fs) ∧ Cls K C ∧ NoAttr K C f ∧ fs.length < 1000 ∧ Q σ (upd H1 a (.ins C dx (putF f v fs)))
theorem pg_fldA {X : Cx} {o : Expr} {to : TE} {f : Str} {pos : Pos} (ho : PE X o to) (ha : ∀ v, assign (.Attribute o f pos) X.env v = (do let ov ← holding [v] (eval o X.env); standAt pos.atName; holding [v, ov] (setAttr ov f v); release [v, ov] []) := by intro _; rfl) : PG X (.Attribute o f pos) (gFld X.K to f) := by
  refine ⟨fun pins s σ H v u Q I r h => ?_⟩
  rw [ha]
  refine wpAny_bind (wpAny_holding (thn (ho.run pins s σ H _ I h) fun ov s1 ⟨x, H1, I1, r1, a, C, dx, fs, ex, ea, c, n, l, q⟩ => ?_))
  subst ex
  obtain rfl : ov = Value.ref a := r1
  exact wpAny_bind (wpAny_standAt (wpAny_bind (wpAny_holding (setattr_ok I1 ea c n l r fun s2 I2 => wpAny_release ⟨σ, _, I2, q⟩))))
section
variable {K : PySem.W.Frag} {all ns : List Str} {ps : List PV} {f f1 f2 : Str}
/-- an attribute more -/
theorem fld_step {α : Type} [Rp α] {x : α} {I F N : Hp} {Γs : List Sl} {σ : L2.St} {C : Addr} {j : Nat} {w v : V} (hj : Γs[j]? = some (.ow ((oin C ns ps).at w))) (hl : ns.length = ps.length) (hc : ClsN K C all) (hf : f ∈ all) (hn : f ∉ ns) (h9 : ns.length < 1000) (e : EnvOk I F N σ Γs) (d : Dis N I) (r : Rp.r K x I v) :
    ∃ a dx fs, σ[j]? = some (some (.ref a)) ∧ ov N I a = some (.ins C dx fs) ∧ Cls K C ∧ NoAttr K C f ∧ fs.length < 1000 ∧ ∃ N', upd (ov N I) a (.ins C dx (putF f v fs)) = ov N' I ∧ Dis N' I ∧ EnvOk I F N' σ (Γs.set j (.ow ((oin C (ns ++ [f]) (ps ++ [pv K x])).at w))) := by
  obtain ⟨a, Ma, M', h1, ⟨hw, dx, vs, h2, h3, h4⟩, h5, h6, h7, _⟩ := e.foc hj
  subst h6 h3
  obtain ⟨y1, y2⟩ := dis_ov_l d
  have hv : ns.length = vs.length := by rw [hl]; exact h4.length
  have keep : ∀ {B : Hp}, Dis (insM a C dx (ns.zip vs)) B → Dis (insM a C dx ((ns ++ [f]).zip (vs ++ [v]))) B := fun {B} q b => by
    rcases q b with z | z
    · left
      obtain ⟨z1, z2⟩ := ov_none z
      refine ov_none' ?_ z2
      by_cases eb : b = a
      · subst eb; rw [sing_same] at z1; cases z1
      · exact sing_ne eb
    · exact .inr z
  refine ⟨a, dx, _, h1, ov_l (ov_l (ov_l sing_same)), hc.1, hc.2 f hf, by rw [List.length_zip, ← hv, Nat.min_self]; exact h9, _, ?_, dis_ov (keep y1) y2, h7 I _ _ (Ex.refl I) (keep h5) ⟨hw, dx, _, h2, rfl, h4.append (.cons r .nil)⟩⟩
  rw [putF_new hv hn]
  exact upd_ins
/-- self.f1, self.f2 = a pair -/
theorem rp_tupF2 {S α β : Type} [Rp α] [Rp β] {Γ : S → List Sl} {te : TE} {C : Addr} {j : Nat} {w : V} {m : Mn S (α × β)} {Γ' : α × β → S → List Sl} (hj : ∀ s, (Γ s)[j]? = some (.ow ((oin C ns ps).at w))) (hj2 : ∀ s, j < (Γ s).length) (hl : ns.length = ps.length) (hc : ClsN K C all) (hf : f1 ∈ all) (hf2 : f2 ∈ all) (hn : f1 ∉ ns) (hn2 : f2 ∉ ns ++ [f1]) (h9 : ns.length < 998) (h : EM K te Γ m)
    (hΓ : ∀ x s, (Γ s).set j (.ow ((oin C (ns ++ [f1] ++ [f2]) (ps ++ [pv K x.1] ++ [pv K x.2])).at w)) = Γ' x s) : RP (tAsg te (gTup K 2 (gCons (gFld K (tVar j) f1) (gCons (gFld K (tVar j) f2) gNil)))) Γ m Γ' := fun s I F N σ e d D q =>
  h s I F N σ e d _ (R.sat_imp q fun x s1 q v I1 N1 a1 d1 e1 ⟨p, v1, v2, r1, r2, r3, r4⟩ => by
    refine ⟨p, _, r1, sqt_ov d1 r2, rfl, v1, _, rfl, ?_⟩
    obtain ⟨a, dx, fs, g1, g2, g3, g4, g5, N2, g6, g7, g8⟩ := fld_step (hj s1) hl hc hf hn (by omega) e1 d1 r3
    refine ⟨_, g1, a, C, dx, fs, rfl, g2, g3, g4, g5, v2, _, rfl, ?_⟩
    rw [g6]
    obtain ⟨a', dx', fs', k1, k2, k3, k4, k5, N3, k6, k7, k8⟩ := fld_step (j := j) (w := w) (f := f2) (all := all) (List.getElem?_set_self (hj2 s1)) (by rw [List.length_append, List.length_append, hl]; rfl) hc hf2 hn2 (by rw [List.length_append]; exact Nat.lt_trans (Nat.add_lt_add_right h9 1) (by decide)) g8 g7 r4
    refine ⟨_, k1, a', C, dx', fs', rfl, k2, k3, k4, k5, rfl, ?_⟩
    rw [k6]
    refine q I1 N3 σ a1 k7 ?_
    rw [← hΓ, ← List.set_set]
    exact k8)
end
/-- a class packed: C, its __init__ -/
structure MakC (P : Program) (w : World) (K : PySem.W.Frag) (mg : Str → Option Value) (base : Heap) (k : Nat) (x : Str) (all ps : List Str) (spf : Addr → Sp) : Prop where
  ex : ∃ (C f : Addr) (fd : FuncData), mg x = some (.ref C) ∧ Mk K C f ∧ ClsN K C all ∧ FnOk P w K mg base CX0 k f fd ps (spf C) ∧ Binds K fd ps []
end Mir

/-! Mir17: ranges of three, as lists, as lengths -/
namespace Mir
open PySem L2
section
variable {K : PySem.W.Frag} {S ζ : Type} {Γ : S → List Sl} {ta : TA} {mm : Mn S ζ} {f g h : ζ → Int}
theorem three {I : Hp} {i j k : Int} {vs : List V} (r : All2 (fun (p : PV) v => p.r I v) [pv K i, pv K j, pv K k] vs) : vs = [.int i, .int j, .int k] := by
  obtain ⟨v1, _, rfl, r1, r⟩ := all2_c r
  obtain ⟨v2, _, rfl, r2, r⟩ := all2_c r
  obtain ⟨v3, _, rfl, r3, r⟩ := all2_c r
  cases all2_n r
  rw [show v1 = V.int i from r1, show v2 = V.int j from r2, show v3 = V.int k from r3]
theorem rgCok_c {i j k : Int} (h : rgCok i j k = true) : k ≠ 0 ∧ k.natAbs < 1073741824 := by
  obtain ⟨c1, _, c3, _⟩ := rgCok_at h
  exact ⟨by omega, c3⟩
theorem eo_listRg3 (hh : AM ta Γ mm fun z => [pv K (f z), pv K (g z), pv K (h z)]) : EO (tLstRg3 (tRg3 ta)) Γ (mb mm fun z => mc (rgCok (f z) (g z) (h z)) (rgC (f z) (g z) (h z))) (rOw (ol K)) := fun s I F N σ e d Q q =>
  hh s I F N σ e d _ (R.sat_imp (sat_mb.mp q) fun z s1 q vs I1 N1 a1 d1 e1 r1 => by
    obtain ⟨c, q⟩ := sat_mc.mp q
    obtain ⟨k0, k1⟩ := rgCok_c c
    exact ⟨_, _, _, three r1, k0, k1, c, fun p hp => q _ _ I1 N1 a1 e1 (new_list d1 hp rs_of_int)⟩)
theorem em_lenRg3 (hh : AM ta Γ mm fun z => [pv K (f z), pv K (g z), pv K (h z)]) : EM K (tLenRg3 (tRg3 ta)) Γ (mb mm fun z => mc (rgCok (f z) (g z) (h z)) ((rgN (f z) (g z) (h z) : Nat) : Int)) := fun s I F N σ e d Q q =>
  hh s I F N σ e d _ (R.sat_imp (sat_mb.mp q) fun z s1 q vs I1 N1 a1 d1 e1 r1 => by
    obtain ⟨c, q⟩ := sat_mc.mp q
    obtain ⟨k0, k1⟩ := rgCok_c c
    exact ⟨_, _, _, three r1, k0, k1, c, q _ I1 N1 a1 d1 e1 rfl⟩)
/-- xs.reverse() -/
theorem rp_revL {S α : Type} [Rp α] {Γ : S → List Sl} {xs : List α} {j : Nat} {Γ' : List α → S → List Sl} (hj : ∀ s, (Γ s)[j]? = some (.ow (ol K xs))) (hΓ : ∀ ys s, (Γ s).set j (.ow (ol K ys)) = Γ' ys s) : RP (tDrop (tBM0 K "list" rReverse (tVar j))) Γ (mp xs.reverse) Γ' := fun s I F N σ e d D q => by
  obtain ⟨a, vs, h1, h2, h3⟩ := own_at e (hj s)
  refine ⟨_, h1, .inl ⟨rfl, vs, SqL.of (ov_l h2)⟩, a, vs, rfl, rfl, ov_l h2, ?_⟩
  obtain ⟨N2, x1, x2, x3⟩ := own_upd (P' := ol K xs.reverse) (us := vs.reverse) (vs := vs) (I' := I) (N' := N) e d (hj s) h1 ol_sing ⟨_, rfl, h3.reverse⟩
  rw [x1]
  exact q I N2 σ (Ex.refl I) x2 (by rw [← hΓ]; exact x3)
end
end Mir

/-! Mir18: max of three -/
namespace Mir
open PySem L2
def mx3 (i j k : Int) : Int := if (if i < j then j else i) < k then k else (if i < j then j else i)
theorem nuMax2_int (i j : Int) : nuMax2 (.int i) (.int j) = some (.int (if i < j then j else i)) := by
  show (some (decide (i < j))).map (fun c => if c = true then V.int j else V.int i) = _
  by_cases h : i < j
  · rw [decide_eq_true h, if_pos h]; rfl
  · rw [decide_eq_false h, if_neg h]; rfl
theorem c_max3 {K : PySem.W.Frag} {i j k : Int} : Cb (rNuC3 nuMax3) [pv K i, pv K j, pv K k] (pv K (mx3 i j k)) := fun I N vs Q d r q => by
  refine ⟨_, _, _, .int (mx3 i j k), three r, ?_, q _ I (Ex.refl I) d rfl⟩
  unfold nuMax3
  rw [nuMax2_int]
  exact nuMax2_int _ _
end Mir

/-! MirM: plain laws used by several claims -/
namespace Mir
open PySem L2
section
variable {S α β τ ρ : Type}
theorem rng_zero {a : Int} : rng a 0 = [] := rfl
theorem rng_succ {a : Int} {n : Nat} : rng a (n + 1) = a :: rng (a + 1) n := by
  unfold rng
  rw [List.range_succ_eq_map, List.map_cons, List.map_map]
  congr 1
  · simp
  · apply List.map_congr_left
    intro i _
    simp only [Function.comp]
    omega
theorem rng_add {a : Int} {m n : Nat} : rng a (m + n) = rng a m ++ rng (a + m) n := by
  induction m generalizing a with
  | zero => simp [rng_zero]
  | succ m ih =>
    have e : a + 1 + (m : Int) = a + ((m + 1 : Nat) : Int) := by omega
    rw [Nat.add_right_comm, rng_succ, rng_succ, ih, List.cons_append, e]
theorem mem_rng {a x : Int} {n : Nat} : x ∈ rng a n ↔ a ≤ x ∧ x < a + n := by
  induction n generalizing a with
  | zero => exact ⟨fun h => (nomatch h), fun h => by omega⟩
  | succ n ih => rw [rng_succ, List.mem_cons, ih]; omega
theorem rng_pw {a : Int} {n : Nat} : (rng a n).Pairwise (· < ·) := by
  induction n generalizing a with
  | zero => exact .nil
  | succ n ih =>
    rw [rng_succ]
    exact .cons (fun x hx => by have := mem_rng.mp hx; omega) ih
/-- a for loop by an invariant of what is left -/
theorem sat_forP {body : α → τ → Mn S τ} {Inv : List α → τ → S → Prop} {Q : τ → S → Prop} (step : ∀ x xs t s, Inv (x :: xs) t s → (body x t s).sat fun t' s' => Inv xs t' s') (fin : ∀ t s, Inv [] t s → Q t s) : ∀ {xs : List α} {t : τ} {s : S}, Inv xs t s → (forP xs t body s).sat Q
  | [], t, s, h => fin t s h
  | x :: xs, t, s, h => sat_mb.mpr (R.sat_imp (step x xs t s h) fun t' s' h' => sat_forP step fin h')
/-- .. with ways out -/
theorem sat_forC {body : α → τ → Mn S (Ct ρ τ τ)} {Inv : List α → τ → S → Prop} {Q : Ct ρ τ β → S → Prop} (step : ∀ x xs t s, Inv (x :: xs) t s → (body x t s).sat fun c s' => match c with | .rt y => Q (.rt y) s' | .nx t' => Inv xs t' s' | .br t' => Q (.nx t') s') (fin : ∀ t s, Inv [] t s → Q (.nx t) s) : ∀ {xs : List α} {t : τ} {s : S}, Inv xs t s → (forC xs t body s).sat Q
  | [], t, s, h => fin t s h
  | x :: xs, t, s, h => sat_mb.mpr (R.sat_imp (step x xs t s h) fun c s' h' => by
      cases c with
      | rt y => exact h'
      | nx t' => exact sat_forC step fin h'
      | br t' => exact h')
theorem sat_cmGo {c : α → Mn S Bool} {f : α → Mn S β} {p : α → Bool} {g : α → β} {s : S} {Q : List β → S → Prop} : ∀ {xs : List α} {acc : List β}, (∀ x ∈ xs, (c x s).sat fun b s' => b = p x ∧ s' = s) → (∀ x ∈ xs, p x = true → (f x s).sat fun y s' => y = g x ∧ s' = s) → Q (acc ++ (xs.filter p).map g) s → (cmGo xs acc c f s).sat Q
  | [], acc, _, _, q => sat_mp.mpr (by simpa using q)
  | x :: xs, acc, hc, hf, q => by
    unfold cmGo
    refine sat_mb.mpr (R.sat_imp (hc x (List.mem_cons_self ..)) fun b s' ⟨hb, hs⟩ => ?_)
    subst hs
    rw [List.filter_cons] at q
    cases hp : p x with
    | true =>
      rw [hp] at hb q
      subst hb
      refine sat_mi.mpr ⟨fun _ => sat_mb.mpr (R.sat_imp (hf x (List.mem_cons_self ..) hp) fun y s2 ⟨hy, hs2⟩ => ?_), fun h => nomatch h⟩
      subst hy hs2
      exact sat_cmGo (fun x h => hc x (List.mem_cons_of_mem _ h)) (fun x h => hf x (List.mem_cons_of_mem _ h)) (by simpa using q)
    | false =>
      rw [hp] at hb q
      subst hb
      refine sat_mi.mpr ⟨fun h => (nomatch h), fun _ => sat_cmGo (fun x h => hc x (List.mem_cons_of_mem _ h)) (fun x h => hf x (List.mem_cons_of_mem _ h)) (by simpa using q)⟩
theorem sat_cmP {c : α → Mn S Bool} {f : α → Mn S β} {p : α → Bool} {g : α → β} {s : S} {Q : List β → S → Prop} {xs : List α} (hl : xs.length ≤ 16000000) (hc : ∀ x ∈ xs, (c x s).sat fun b s' => b = p x ∧ s' = s) (hf : ∀ x ∈ xs, p x = true → (f x s).sat fun y s' => y = g x ∧ s' = s) (q : Q ((xs.filter p).map g) s) : (cmP xs c f s).sat Q :=
  sat_mb.mpr (sat_mc.mpr ⟨decide_eq_true hl, sat_cmGo hc hf q⟩)
end
theorem sum_rep {k : Nat} {x : Int} : (List.replicate k x).sum = k * x := by
  induction k with
  | zero => simp
  | succ k ih => rw [List.replicate_succ, List.sum_cons, ih]; rw [Int.natCast_succ, Int.add_mul]; omega
theorem log2_lt' {n k : Nat} (h : n < 2 ^ k) (hk : k ≠ 0) : n.log2 < k := by
  by_cases h0 : n = 0
  · subst h0; simp; omega
  · exact (Nat.log2_lt h0).mpr h
theorem modOk_of {j : Int} (h : 0 < j) : modOk j = true := decide_eq_true h
theorem divOk_of {j : Int} (h : 0 < j) (h2 : j < 2 ^ 64) : divOk j = true := decide_eq_true ⟨h, by
  have : j.natAbs < 2 ^ 64 := by omega
  have := log2_lt' this (by decide)
  omega⟩
theorem mulOk_of {i j : Int} (h : i.natAbs < 2 ^ 64) (h2 : j.natAbs < 2 ^ 64) : mulOk i j = true := decide_eq_true (by
  have := log2_lt' h (by decide)
  have := log2_lt' h2 (by decide)
  omega)
theorem powOk_of {i j : Int} (h : i.natAbs < 2 ^ 64) (h1 : 0 ≤ j) (h2 : j ≤ 1000000) : powOk i j = true := decide_eq_true ⟨h1, h2, h⟩
theorem b62_of {i : Int} (h1 : -1000000000 ≤ i) (h2 : i ≤ 1000000000) : b62 i = true := decide_eq_true (by constructor <;> omega)
theorem atI_get' {α : Type} {xs : List α} {i : Int} (h0 : 0 ≤ i) (h1 : i < xs.length) : atI xs i = xs[i.toNat]? := by
  unfold atI ixN
  rw [if_pos h0, if_pos h1]
  rfl
theorem atI_some {α : Type} {xs : List α} {i : Int} (h0 : 0 ≤ i) (h1 : i < xs.length) : ∃ x, atI xs i = some x ∧ x ∈ xs := by
  have h : i.toNat < xs.length := by omega
  exact ⟨xs[i.toNat], by rw [atI_get' h0 h1, List.getElem?_eq_getElem h], List.getElem_mem h⟩
/-! the box's digits -/
def Gd (n : Int) (b : Box) : Prop := 0 ≤ b.great ∧ 0 ≤ b.mixed ∧ b.mixed < 2147483648 ∧ 0 ≤ b.count ∧ b.count ≤ n
end Mir

/-! MirN: the same laws over a shut form of sat: nothing unfolds a mirror by itself -/
namespace Mir
open PySem L2
structure R.st {S α : Type} (r : R S α) (Q : α → S → Prop) : Prop where
  to : r.sat Q
section
variable {S α β τ ρ : Type}
theorem R.st_imp {m : R S α} {Q Q' : α → S → Prop} (h : m.st Q) (f : ∀ a s, Q a s → Q' a s) : m.st Q' := ⟨R.sat_imp h.to f⟩
theorem st_iff {m : R S α} {Q : α → S → Prop} : m.st Q ↔ m.sat Q := ⟨fun h => h.to, fun h => ⟨h⟩⟩
theorem st_mb {m : Mn S α} {f : α → Mn S β} {s : S} {Q : β → S → Prop} : (mb m f s).st Q ↔ (m s).st fun a s' => (f a s').st Q := by
  rw [st_iff, st_iff, sat_mb]
  exact ⟨fun h => R.sat_imp h fun a s q => ⟨q⟩, fun h => R.sat_imp h fun a s q => q.to⟩
theorem st_mp {a : α} {s : S} {Q : α → S → Prop} : (mp a s).st Q ↔ Q a s := by rw [st_iff, sat_mp]
theorem st_mc {c : Bool} {a : α} {s : S} {Q : α → S → Prop} : (mc c a s).st Q ↔ c = true ∧ Q a s := by rw [st_iff, sat_mc]
theorem st_mo {o : Option α} {s : S} {Q : α → S → Prop} : (mo o s).st Q ↔ ∃ a, o = some a ∧ Q a s := by rw [st_iff, sat_mo]
theorem st_mg {f : S → α} {s : S} {Q : α → S → Prop} : (mg f s).st Q ↔ Q (f s) s := by rw [st_iff, sat_mg]
theorem st_ms {f : S → S} {s : S} {Q : Unit → S → Prop} : (ms f s).st Q ↔ Q () (f s) := by rw [st_iff, sat_ms]
theorem st_mbad {s : S} {Q : α → S → Prop} : ((mbad : Mn S α) s).st Q ↔ False := by rw [st_iff, sat_mbad]
theorem st_mcs {c : S → Bool} {f : S → α} {s : S} {Q : α → S → Prop} : (mcs c f s).st Q ↔ c s = true ∧ Q (f s) s := by rw [st_iff, sat_mcs]
theorem st_mi {b : Bool} {m1 m2 : Mn S α} {s : S} {Q : α → S → Prop} : (mi b m1 m2 s).st Q ↔ (b = true → (m1 s).st Q) ∧ (b = false → (m2 s).st Q) := by
  rw [st_iff, st_iff, st_iff, sat_mi]
theorem st_mu {m : Mn Unit α} {s : S} {Q : α → S → Prop} : (mu m s).st Q ↔ (m ()).st fun a _ => Q a s := by rw [st_iff, st_iff, sat_mu]
theorem st_mrun {s : S} {m : Mn S α} {u : Unit} {Q : α → Unit → Prop} : (mrun s m u).st Q ↔ (m s).st fun a _ => Q a () := by
  cases u
  rw [st_iff, st_iff, sat_mrun]
theorem st_forP {body : α → τ → Mn S τ} {Inv : List α → τ → S → Prop} {Q : τ → S → Prop} (step : ∀ x xs t s, Inv (x :: xs) t s → (body x t s).st fun t' s' => Inv xs t' s') (fin : ∀ t s, Inv [] t s → Q t s) {xs : List α} {t : τ} {s : S} (h : Inv xs t s) : (forP xs t body s).st Q :=
  ⟨sat_forP (fun x xs t s h => (step x xs t s h).to) fin h⟩
theorem st_forC {body : α → τ → Mn S (Ct ρ τ τ)} {Inv : List α → τ → S → Prop} {Q : Ct ρ τ β → S → Prop} (step : ∀ x xs t s, Inv (x :: xs) t s → (body x t s).st fun c s' => match c with | .rt y => Q (.rt y) s' | .nx t' => Inv xs t' s' | .br t' => Q (.nx t') s') (fin : ∀ t s, Inv [] t s → Q (.nx t) s) {xs : List α} {t : τ} {s : S} (h : Inv xs t s) : (forC xs t body s).st Q :=
  ⟨sat_forC (fun x xs t s h => (step x xs t s h).to) fin h⟩
theorem st_cmP {c : α → Mn S Bool} {f : α → Mn S β} {p : α → Bool} {g : α → β} {s : S} {Q : List β → S → Prop} {xs : List α} (hl : xs.length ≤ 16000000) (hc : ∀ x ∈ xs, (c x s).st fun b s' => b = p x ∧ s' = s) (hf : ∀ x ∈ xs, p x = true → (f x s).st fun y s' => y = g x ∧ s' = s) (q : Q ((xs.filter p).map g) s) : (cmP xs c f s).st Q :=
  ⟨sat_cmP hl (fun x h => (hc x h).to) (fun x h h2 => (hf x h h2).to) q⟩
/-- while, with a count of the turns that are left -/
theorem st_whP {c : τ → Mn S Bool} {body : τ → Mn S τ} {Inv : Nat → τ → S → Prop} {Q : τ → S → Prop} (step : ∀ n t s, Inv n t s → (c t s).st fun b s' => (b = true → ∃ n', n = n' + 1 ∧ (body t s').st (Inv n')) ∧ (b = false → Q t s')) : ∀ {n : Nat} {t : τ} {s : S}, Inv n t s → (whP (n + 1) t c body s).st Q
  | n, t, s, h => by
    unfold whP
    refine st_mb.mpr (R.st_imp (step n t s h) fun b s' q => st_mi.mpr ⟨fun hb => ?_, fun hb => st_mp.mpr (q.2 hb)⟩)
    obtain ⟨n', rfl, q2⟩ := q.1 hb
    exact st_mb.mpr (R.st_imp q2 fun t' s2 h2 => st_whP step h2)
theorem forP_nil {t : τ} {body : α → τ → Mn S τ} : forP [] t body = mp t := rfl
theorem forP_cons {x : α} {xs : List α} {t : τ} {body : α → τ → Mn S τ} : forP (x :: xs) t body = mb (body x t) fun t' => forP xs t' body := rfl
end
end Mir

namespace L68
open PySem PySem.Spec PyProof.Rows L2 Mir
abbrev PW := PySem.Challenge.pw_sparesum_k68_whole_met
def top (i : Nat) : Stmt := PW.main.body.getD i (.Pass ⟨0, 0, 0, 0⟩)
abbrev FnP (K : PySem.W.Frag) (x : Str) (st : Stmt) (f : Addr) (fd : FuncData) : Prop := FunD K x x (defArgs st) (defBody st) (defScope st) [] [] f fd
section
variable {P : Program} {w : World} {K : PySem.W.Frag} {mg : Str → Option Value} {base : Heap}
def m_is_whole (value : Int) : Mn Unit Bool :=
  (mp ((true && (!false)) : Bool))
abbrev sp_is_whole (K : PySem.W.Frag) : Sp := Prom (rIm K) (S := Unit) (fun i : Int => [.im (pv K i)]) fun i => m_is_whole i
theorem len_is_whole : ∀ vs H Q E, sp_is_whole K vs H Q E → vs.length = 1 := prom_len (Ret := (rIm K)) (As := fun i : Int => [.im (pv K i)]) (m := fun i => m_is_whole i) fun _ => rfl
theorem sc_is_whole : FnScope ["value"] ["value"] (defScope (top 11)) := ⟨rfl, rfl, rfl, by decide +kernel, rfl, by decide +kernel, by decide +kernel⟩
theorem fo_is_whole {f : Addr} {fd : FuncData} (F : FnP K "is_whole" (top 11) f fd) (b_bool : mg "bool" = none) (b_int : mg "int" = none) (b_isinstance : mg "isinstance" = none) : FnOk P w K mg base CX0 1 f fd ["value"] (sp_is_whole K) := by
  refine F.ok sc_is_whole (len_is_whole (K := K)) (fun cdv A outer s H vs Q E hr h => ?_)
  have hl : vs.length = 1 := len_is_whole (K := K) vs H Q E h
  match vs, hl, h with
  | [v0], _, h => exact ⟨_, PSs.nox ((pss_one (ps_ret (pe_and (pe_callB call_isi rfl b_isinstance bt_isinstance (pa_cons (L2.pv 0) (pa_cons (pe_bltn (v := .ty "int") rfl b_int bt_int rfl) pa_nil))) (pe_one (pe_not (pe_callB call_isi rfl b_isinstance bt_isinstance (pa_cons (L2.pv 0) (pa_cons (pe_bltn (v := .ty "bool") rfl b_bool bt_bool rfl) pa_nil))))))))), prom_ok (n := 1) (Ret := (rIm K)) (As := fun i : Int => [.im (pv K i)]) (m := fun i => m_is_whole i) 0 (fun _ => rfl) rfl (fun value => (show RN (rIm K) _ (fun (s : Unit) => [.im (pv K value)]) (m_is_whole value) (fun (s : Unit) => [.no]) from (rn_of (rt_ret (em_pure fun _ => (ep_andV (ep_cb (ap_cons (ep_var rfl) (ap_cons ep_ty ap_nil)) (c_isi (b := true) (t := "int") ty_int (by decide +kernel))) fun _ => (ep_notV (ep_cb (ap_cons (ep_var rfl) (ap_cons ep_ty ap_nil)) (c_isi (b := false) (t := "int") ty_int (by decide +kernel)))))) fun s => (.cons (.no _) .nil))))) h⟩
theorem ok_is_whole {f : Addr} {fd : FuncData} (F : FnP K "is_whole" (top 11) f fd) (hg : mg "is_whole" = some (.ref f)) (b_bool : mg "bool" = none) (b_int : mg "int" = none) (b_isinstance : mg "isinstance" = none) : Cal P w K mg base 1 "is_whole" ["value"] (sp_is_whole K) := ⟨f, fd, fo_is_whole F b_bool b_int b_isinstance, hg, F.kp, F.bindsN fun _ _ _ _ _ _ us hl => match us, hl with | [_], _ => rfl⟩
def m_is_between (value : Int) (least : Int) (most : Int) : Mn Unit Bool :=
  (mb (mu (m_is_whole value)) fun b1 => mi b1 (mp ((decide (least ≤ value) && decide (value ≤ most)) : Bool)) (mp false))
abbrev sp_is_between (K : PySem.W.Frag) : Sp := Prom (rIm K) (S := Unit) (fun i : Int × Int × Int => [.im (pv K i.1), .im (pv K i.2.1), .im (pv K i.2.2)]) fun i => m_is_between i.1 i.2.1 i.2.2
theorem len_is_between : ∀ vs H Q E, sp_is_between K vs H Q E → vs.length = 3 := prom_len (Ret := (rIm K)) (As := fun i : Int × Int × Int => [.im (pv K i.1), .im (pv K i.2.1), .im (pv K i.2.2)]) (m := fun i => m_is_between i.1 i.2.1 i.2.2) fun _ => rfl
theorem sc_is_between : FnScope ["value", "least", "most"] ["value", "least", "most"] (defScope (top 12)) := ⟨rfl, rfl, rfl, by decide +kernel, rfl, by decide +kernel, by decide +kernel⟩
theorem fo_is_between {f : Addr} {fd : FuncData} (F : FnP K "is_between" (top 12) f fd) (C_is_whole : Cal P w K mg base 1 "is_whole" ["value"] (sp_is_whole K)) : FnOk P w K mg base CX0 2 f fd ["value", "least", "most"] (sp_is_between K) := by
  obtain ⟨f_is_whole, fd_is_whole, G_is_whole, g_is_whole, kp_is_whole, bi_is_whole⟩ := C_is_whole.ex
  refine F.ok sc_is_between (len_is_between (K := K)) (fun cdv A outer s H vs Q E hr h => ?_)
  have hl : vs.length = 3 := len_is_between (K := K) vs H Q E h
  match vs, hl, h with
  | [v0, v1, v2], _, h => exact ⟨_, PSs.nox ((pss_one (ps_ret (pe_and (pe_call G_is_whole (hr.mono (Nat.le_of_ble_eq_true rfl)) rfl g_is_whole kp_is_whole bi_is_whole .nil pass0 (pa_cons (L2.pv 0) pa_nil)) (pe_one (pe_chain op_le op_le (L2.pv 1) (L2.pv 0) (L2.pv 2))))))), prom_ok (n := 3) (Ret := (rIm K)) (As := fun i : Int × Int × Int => [.im (pv K i.1), .im (pv K i.2.1), .im (pv K i.2.2)]) (m := fun i => m_is_between i.1 i.2.1 i.2.2) 0 (fun _ => rfl) rfl (fun (value, least, most) => (show RN (rIm K) _ (fun (s : Unit) => [.im (pv K value), .im (pv K least), .im (pv K most)]) (m_is_between value least most) (fun (s : Unit) => [.no, .no, .no]) from (rn_of (rt_ret (em_andV (em_of_eo (eo_call0 (i := value) (ps := [pv K value]) (fun _ => (ap_cons (ep_var rfl) ap_nil)) rfl)) (em_pure fun _ => (ep_chain (ep_var rfl) (ep_var rfl) (ep_var rfl) o_le o_le))) fun s => (.cons (.no _) (.cons (.no _) (.cons (.no _) .nil))))))) h⟩
theorem ok_is_between {f : Addr} {fd : FuncData} (F : FnP K "is_between" (top 12) f fd) (hg : mg "is_between" = some (.ref f)) (C_is_whole : Cal P w K mg base 1 "is_whole" ["value"] (sp_is_whole K)) : Cal P w K mg base 2 "is_between" ["value", "least", "most"] (sp_is_between K) := ⟨f, fd, fo_is_between F C_is_whole, hg, F.kp, F.bindsN fun _ _ _ _ _ _ us hl => match us, hl with | [_, _, _], _ => rfl⟩
def m_is_prime (value : Int) : Mn Unit Bool :=
  (mb (mb (mu (m_is_between value ((2 : Int) : Int) ((997 : Int) : Int))) fun b2 => mp (!b2)) fun b => mi b
    (mp false)
    (mb (mb (mb (mc (b62 ((2 : Int) : Int) && b62 ((if (32 : Int) < value then (32 : Int) else value) : Int)) (rng ((2 : Int) : Int) (((if (32 : Int) < value then (32 : Int) else value) : Int) - ((2 : Int) : Int)).toNat)) fun xs => cmP xs (fun (a3 : Int) => (mp true)) fun a3 => (mb (mc (modOk a3) (value % a3)) fun x_4 => mp (!decide (x_4 = (0 : Int))))) fun x_6 => mb (mp ()) fun z7 => mp (x_6, z7)) fun z8 => mp (z8.1.all id)))
abbrev sp_is_prime (K : PySem.W.Frag) : Sp := Prom (rIm K) (S := Unit) (fun i : Int => [.im (pv K i)]) fun i => m_is_prime i
theorem len_is_prime : ∀ vs H Q E, sp_is_prime K vs H Q E → vs.length = 1 := prom_len (Ret := (rIm K)) (As := fun i : Int => [.im (pv K i)]) (m := fun i => m_is_prime i) fun _ => rfl
theorem sc_is_prime : FnScope ["value", "factor"] ["value"] (defScope (top 15)) := ⟨rfl, rfl, rfl, by decide +kernel, rfl, by decide +kernel, by decide +kernel⟩
theorem fo_is_prime {f : Addr} {fd : FuncData} (F : FnP K "is_prime" (top 15) f fd) (b_all : mg "all" = none) (b_min : mg "min" = none) (b_range : mg "range" = none) (c_MOST_PRIME : ∃ t, mg "MOST_PRIME" = some (.int 997 t)) (C_is_between : Cal P w K mg base 2 "is_between" ["value", "least", "most"] (sp_is_between K)) : FnOk P w K mg base CX0 3 f fd ["value"] (sp_is_prime K) := by
  obtain ⟨t_MOST_PRIME, c_MOST_PRIME⟩ := c_MOST_PRIME
  obtain ⟨f_is_between, fd_is_between, G_is_between, g_is_between, kp_is_between, bi_is_between⟩ := C_is_between.ex
  refine F.ok sc_is_prime (len_is_prime (K := K)) (fun cdv A outer s H vs Q E hr h => ?_)
  have hl : vs.length = 1 := len_is_prime (K := K) vs H Q E h
  match vs, hl, h with
  | [v0], _, h => exact ⟨_, PSs.nox ((pss_cons (ps_if (pt_not (pt_val (pe_call G_is_between (hr.mono (Nat.le_of_ble_eq_true rfl)) rfl g_is_between kp_is_between bi_is_between .nil pass0 (pa_cons (L2.pv 0) (pa_cons pe_int (pa_cons (pe_glob (v := .int 997) rfl c_MOST_PRIME ⟨_, rfl⟩) pa_nil)))))) (pss_one (ps_ret pe_bl)) pss_nil) (pss_one (ps_ret (pe_callB (cr_all rfl) rfl b_all bt_all (pa_cons (pe_lc (own := [("factor", 1)]) rfl sc_is_prime.nd (pi_range2 rfl b_range (pa_cons pe_int (pa_cons (pe_callB (call_min2 rfl) rfl b_min bt_min (pa_cons (L2.pv 0) (pa_cons pe_int pa_nil))) pa_nil))) (blkOk_by (own := [("factor", 1)]) (N := ["value", "factor"]) (sc := defScope (top 15)) (by decide +kernel)) (fun _ _ _ _ _ => (pg_name (i := 1) sc_is_prime.nd rfl (Or.inl rfl))) (fun _ _ _ _ _ => pts_nil) (fun _ _ _ _ _ => (pe_cmpR op_ne (pe_op op_mod (L2.pv 0) (L2.pv 1)) pe_int (nomark _)))) pa_nil)))))), prom_ok (n := 1) (Ret := (rIm K)) (As := fun i : Int => [.im (pv K i)]) (m := fun i => m_is_prime i) 1 (fun _ => rfl) rfl (fun value => (show RN (rIm K) _ (fun (s : Unit) => [.im (pv K value), .no]) (m_is_prime value) (fun (s : Unit) => [.no, .no]) from (rn_of (rt_ifr (tm_not (tm_B (em_of_eo (eo_call0 (i := (value, ((2 : Int) : Int), ((997 : Int) : Int))) (ps := [pv K value, pv K ((2 : Int) : Int), pv K ((997 : Int) : Int)]) (fun _ => (ap_cons (ep_var rfl) (ap_cons (ep_int (K := K)) (ap_cons (ep_int (K := K)) ap_nil)))) rfl)))) (rt_ret (em_pure fun _ => (ep_bl (K := K))) fun s => (.cons (.no _) (.cons (.rfl _) .nil))) (rt_ret (em_cb (f := fun (z8 : (List Bool) × Unit) => (z8.1.all id)) (am_cons (em_lc (Γx := fun (a3 : Int) (s : Unit) => [.im (pv K value), .im (pv K a3)]) (js := [1]) (im_rng2 fun _ => (ap_cons (ep_int (K := K)) (ap_cons (ep_cb (ap_cons (ep_var rfl) (ap_cons (ep_int (K := K)) ap_nil)) c_min2) ap_nil))) (fun _ => rfl) (fun a3 s => (gt_name (Γ := [.im (pv K value), .no]) (i := 1) (Γ' := [.im (pv K value), .im (pv K a3)]) rfl rfl)) rfl (fun a3 => tm_yes) (fun a3 => (em_opr (g := fun (u : Int) (v : Int) => (!decide (u = v))) (em_opC2 (fun _ => (ep_var rfl)) (fun _ => (ep_var rfl)) fun h => o_mod h) (fun _ => (ep_int (K := K))) fun _ => o_ne)) fun a3 s => (.cons (.rfl _) (.cons (.no _) .nil))) am_nil) fun _ => c_all) fun s => (.cons (.no _) (.cons (.rfl _) .nil))))))) h⟩
theorem ok_is_prime {f : Addr} {fd : FuncData} (F : FnP K "is_prime" (top 15) f fd) (hg : mg "is_prime" = some (.ref f)) (b_all : mg "all" = none) (b_min : mg "min" = none) (b_range : mg "range" = none) (c_MOST_PRIME : ∃ t, mg "MOST_PRIME" = some (.int 997 t)) (C_is_between : Cal P w K mg base 2 "is_between" ["value", "least", "most"] (sp_is_between K)) : Cal P w K mg base 3 "is_prime" ["value"] (sp_is_prime K) := ⟨f, fd, fo_is_prime F b_all b_min b_range c_MOST_PRIME C_is_between, hg, F.kp, F.bindsN fun _ _ _ _ _ _ us hl => match us, hl with | [_], _ => rfl⟩
def m_prime_below (number : Int) : Mn Unit Int :=
  (mb (mp ((number - (1 : Int)) : Int)) fun found9 =>
  (mb (whP 1000 found9 (fun (t10 : Int) => (mb (mu (m_is_prime t10)) fun b11 => mp (!b11))) fun (t10 : Int) =>
    (mb (mp ((t10 - (1 : Int)) : Int)) fun found12 => mp found12)) fun t13 =>
  (mp t13)))
abbrev sp_prime_below (K : PySem.W.Frag) : Sp := Prom (rIm K) (S := Unit) (fun i : Int => [.im (pv K i)]) fun i => m_prime_below i
theorem len_prime_below : ∀ vs H Q E, sp_prime_below K vs H Q E → vs.length = 1 := prom_len (Ret := (rIm K)) (As := fun i : Int => [.im (pv K i)]) (m := fun i => m_prime_below i) fun _ => rfl
theorem sc_prime_below : FnScope ["number", "found"] ["number"] (defScope (top 16)) := ⟨rfl, rfl, rfl, by decide +kernel, rfl, by decide +kernel, by decide +kernel⟩
theorem fo_prime_below {f : Addr} {fd : FuncData} (F : FnP K "prime_below" (top 16) f fd) (C_is_prime : Cal P w K mg base 3 "is_prime" ["value"] (sp_is_prime K)) : FnOk P w K mg base CX0 4 f fd ["number"] (sp_prime_below K) := by
  obtain ⟨f_is_prime, fd_is_prime, G_is_prime, g_is_prime, kp_is_prime, bi_is_prime⟩ := C_is_prime.ex
  refine F.ok sc_prime_below (len_prime_below (K := K)) (fun cdv A outer s H vs Q E hr h => ?_)
  have hl : vs.length = 1 := len_prime_below (K := K) vs H Q E h
  match vs, hl, h with
  | [v0], _, h => exact ⟨_, PSs.nox ((pss_cons (ps_set (i := 1) sc_prime_below.nd rfl (Or.inl rfl) (pe_op op_sub (L2.pv 0) pe_int)) (pss_cons (ps_while PassesOwn.never (pt_not (pt_val (pe_call G_is_prime (hr.mono (Nat.le_of_ble_eq_true rfl)) rfl g_is_prime kp_is_prime bi_is_prime .nil pass0 (pa_cons (L2.pv 1) pa_nil)))) (pss_one (ps_set (i := 1) sc_prime_below.nd rfl (Or.inl rfl) (pe_op op_sub (L2.pv 1) pe_int)))) (pss_one (ps_ret (L2.pv 1)))))), prom_ok (n := 1) (Ret := (rIm K)) (As := fun i : Int => [.im (pv K i)]) (m := fun i => m_prime_below i) 1 (fun _ => rfl) rfl (fun number => (show RN (rIm K) _ (fun (s : Unit) => [.im (pv K number), .no]) (m_prime_below number) (fun (s : Unit) => [.no, .no]) from (rn_of (rt_seq (rp_asg (Γ := fun (s : Unit) => [.im (pv K number), .no]) (i := 1) (Γ' := fun found9 (s : Unit) => [.im (pv K number), .im (pv K found9)]) (em_pure fun _ => (ep_op (ep_var rfl) (ep_int (K := K)) o_sub)) (fun _ => rfl) fun _ _ => rfl) fun found9 => (rt_seq (rp_while (ΓL := fun (t10 : Int) (s : Unit) => [.im (pv K number), .im (pv K t10)]) (fun s => (.cons (.rfl _) (.cons (.rfl _) .nil))) (fun t10 => (tm_not (tm_B (em_of_eo (eo_call0 (i := t10) (ps := [pv K t10]) (fun _ => (ap_cons (ep_var rfl) ap_nil)) rfl))))) fun t10 => (rp_post (f := fun found12 => found12) (rp_asg (Γ := fun (s : Unit) => [.im (pv K number), .im (pv K t10)]) (i := 1) (Γ' := fun found12 (s : Unit) => [.im (pv K number), .im (pv K found12)]) (em_pure fun _ => (ep_op (ep_var rfl) (ep_int (K := K)) o_sub)) (fun _ => rfl) fun _ _ => rfl) fun found12 s => (.cons (.rfl _) (.cons (.rfl _) .nil)))) fun t13 => (rt_ret (em_pure fun _ => (ep_var rfl)) fun s => (.cons (.no _) (.cons (.no _) .nil)))))))) h⟩
theorem ok_prime_below {f : Addr} {fd : FuncData} (F : FnP K "prime_below" (top 16) f fd) (hg : mg "prime_below" = some (.ref f)) (C_is_prime : Cal P w K mg base 3 "is_prime" ["value"] (sp_is_prime K)) : Cal P w K mg base 4 "prime_below" ["number"] (sp_prime_below K) := ⟨f, fd, fo_prime_below F C_is_prime, hg, F.kp, F.bindsN fun _ _ _ _ _ _ us hl => match us, hl with | [_], _ => rfl⟩
def m_choose (many : Int) (few : Int) : Mn Unit Int :=
  (mb (mp ((1 : Int) : Int)) fun found14 =>
  (mb (mb (mc (b62 few) (rng 0 few.toNat)) fun xs => forP xs found14 fun a16 (t15 : Int) =>
    (mb (mb (mc (mulOk t15 (many - a16)) (t15 * (many - a16))) fun x_17 => mc (divOk (a16 + (1 : Int))) (x_17 / (a16 + (1 : Int)))) fun found19 => mp found19)) fun t20 =>
  (mp t20)))
abbrev sp_choose (K : PySem.W.Frag) : Sp := Prom (rIm K) (S := Unit) (fun i : Int × Int => [.im (pv K i.1), .im (pv K i.2)]) fun i => m_choose i.1 i.2
theorem len_choose : ∀ vs H Q E, sp_choose K vs H Q E → vs.length = 2 := prom_len (Ret := (rIm K)) (As := fun i : Int × Int => [.im (pv K i.1), .im (pv K i.2)]) (m := fun i => m_choose i.1 i.2) fun _ => rfl
theorem sc_choose : FnScope ["many", "few", "found", "at"] ["many", "few"] (defScope (top 20)) := ⟨rfl, rfl, rfl, by decide +kernel, rfl, by decide +kernel, by decide +kernel⟩
theorem fo_choose {f : Addr} {fd : FuncData} (F : FnP K "choose" (top 20) f fd) (b_range : mg "range" = none) : FnOk P w K mg base CX0 1 f fd ["many", "few"] (sp_choose K) := by
  refine F.ok sc_choose (len_choose (K := K)) (fun cdv A outer s H vs Q E hr h => ?_)
  have hl : vs.length = 2 := len_choose (K := K) vs H Q E h
  match vs, hl, h with
  | [v0, v1], _, h => exact ⟨_, PSs.nox ((pss_cons (ps_set (i := 2) sc_choose.nd rfl (Or.inl rfl) pe_int) (pss_cons (ps_for PassesOwn.never rfl (pi_range1 rfl b_range (pa_cons (L2.pv 1) pa_nil)) (pg_name (i := 3) sc_choose.nd rfl (Or.inl rfl)) (pss_one (ps_set (i := 2) sc_choose.nd rfl (Or.inl rfl) (pe_op op_fdivW (pe_op op_mulW (L2.pv 2) (pe_op op_sub (L2.pv 0) (L2.pv 3))) (pe_op op_add (L2.pv 3) pe_int))))) (pss_one (ps_ret (L2.pv 2)))))), prom_ok (n := 2) (Ret := (rIm K)) (As := fun i : Int × Int => [.im (pv K i.1), .im (pv K i.2)]) (m := fun i => m_choose i.1 i.2) 2 (fun _ => rfl) rfl (fun (many, few) => (show RN (rIm K) _ (fun (s : Unit) => [.im (pv K many), .im (pv K few), .no, .no]) (m_choose many few) (fun (s : Unit) => [.no, .no, .no, .no]) from (rn_of (rt_seq (rp_asg (Γ := fun (s : Unit) => [.im (pv K many), .im (pv K few), .no, .no]) (i := 2) (Γ' := fun found14 (s : Unit) => [.im (pv K many), .im (pv K few), .im (pv K found14), .no]) (em_pure fun _ => (ep_int (K := K))) (fun _ => rfl) fun _ _ => rfl) fun found14 => (rt_seq (rp_for (ΓL := fun (t15 : Int) (s : Unit) => [.im (pv K many), .im (pv K few), .im (pv K t15), .no]) (Γx := fun (a16 : Int) (t15 : Int) (s : Unit) => [.im (pv K many), .im (pv K few), .im (pv K t15), .im (pv K a16)]) (im_rng1 fun _ => (ap_cons (ep_var rfl) ap_nil)) (fun s => (.cons (.rfl _) (.cons (.rfl _) (.cons (.rfl _) (.cons (.rfl _) .nil))))) (fun a16 t15 s => (gt_name (Γ := [.im (pv K many), .im (pv K few), .im (pv K t15), .no]) (i := 3) (Γ' := [.im (pv K many), .im (pv K few), .im (pv K t15), .im (pv K a16)]) rfl rfl)) fun a16 t15 => (rp_post (f := fun found19 => found19) (rp_asg (Γ := fun (s : Unit) => [.im (pv K many), .im (pv K few), .im (pv K t15), .im (pv K a16)]) (i := 2) (Γ' := fun found19 (s : Unit) => [.im (pv K many), .im (pv K few), .im (pv K found19), .im (pv K a16)]) (em_oprC (g := fun (u : Int) (v : Int) => (u / v)) (c := fun (u : Int) (v : Int) => divOk v) (em_opC2 (fun _ => (ep_var rfl)) (fun _ => (ep_op (ep_var rfl) (ep_var rfl) o_sub)) fun h => o_mulW h) (fun _ => (ep_op (ep_var rfl) (ep_int (K := K)) o_add)) fun _ h => (o_divW h)) (fun _ => rfl) fun _ _ => rfl) fun found19 s => (.cons (.rfl _) (.cons (.rfl _) (.cons (.rfl _) (.cons (.no _) .nil)))))) fun t20 => (rt_ret (em_pure fun _ => (ep_var rfl)) fun s => (.cons (.no _) (.cons (.no _) (.cons (.no _) (.cons (.rfl _) .nil)))))))))) h⟩
theorem ok_choose {f : Addr} {fd : FuncData} (F : FnP K "choose" (top 20) f fd) (hg : mg "choose" = some (.ref f)) (b_range : mg "range" = none) : Cal P w K mg base 1 "choose" ["many", "few"] (sp_choose K) := ⟨f, fd, fo_choose F b_range, hg, F.kp, F.bindsN fun _ _ _ _ _ _ us hl => match us, hl with | [_, _], _ => rfl⟩
def m_spread (held : Int) (need : Int) (lost : Int) : Mn Unit Int :=
  (mb (mb (mc (divOk need) (((held + need) - (1 : Int)) / need)) fun y22 => mc (mulOk lost y22) (lost * y22)) fun y24 => mp (held + y24))
abbrev sp_spread (K : PySem.W.Frag) : Sp := Prom (rIm K) (S := Unit) (fun i : Int × Int × Int => [.im (pv K i.1), .im (pv K i.2.1), .im (pv K i.2.2)]) fun i => m_spread i.1 i.2.1 i.2.2
theorem len_spread : ∀ vs H Q E, sp_spread K vs H Q E → vs.length = 3 := prom_len (Ret := (rIm K)) (As := fun i : Int × Int × Int => [.im (pv K i.1), .im (pv K i.2.1), .im (pv K i.2.2)]) (m := fun i => m_spread i.1 i.2.1 i.2.2) fun _ => rfl
theorem sc_spread : FnScope ["held", "need", "lost"] ["held", "need", "lost"] (defScope (top 21)) := ⟨rfl, rfl, rfl, by decide +kernel, rfl, by decide +kernel, by decide +kernel⟩
theorem fo_spread {f : Addr} {fd : FuncData} (F : FnP K "spread" (top 21) f fd) : FnOk P w K mg base CX0 1 f fd ["held", "need", "lost"] (sp_spread K) := by
  refine F.ok sc_spread (len_spread (K := K)) (fun cdv A outer s H vs Q E hr h => ?_)
  have hl : vs.length = 3 := len_spread (K := K) vs H Q E h
  match vs, hl, h with
  | [v0, v1, v2], _, h => exact ⟨_, PSs.nox ((pss_one (ps_ret (pe_op op_add (L2.pv 0) (pe_op op_mulW (L2.pv 2) (pe_op op_fdivW (pe_op op_sub (pe_op op_add (L2.pv 0) (L2.pv 1)) pe_int) (L2.pv 1))))))), prom_ok (n := 3) (Ret := (rIm K)) (As := fun i : Int × Int × Int => [.im (pv K i.1), .im (pv K i.2.1), .im (pv K i.2.2)]) (m := fun i => m_spread i.1 i.2.1 i.2.2) 0 (fun _ => rfl) rfl (fun (held, need, lost) => (show RN (rIm K) _ (fun (s : Unit) => [.im (pv K held), .im (pv K need), .im (pv K lost)]) (m_spread held need lost) (fun (s : Unit) => [.no, .no, .no]) from (rn_of (rt_ret (em_opl (g := fun (u : Int) (v : Int) => (u + v)) (fun _ => (ep_var rfl)) (em_oplC (g := fun (u : Int) (v : Int) => (u * v)) (c := fun (u : Int) (v : Int) => mulOk u v) (fun _ => (ep_var rfl)) (em_opC2 (fun _ => (ep_op (ep_op (ep_var rfl) (ep_var rfl) o_add) (ep_int (K := K)) o_sub)) (fun _ => (ep_var rfl)) fun h => o_divW h) fun _ h => (o_mulW h)) fun _ => o_add) fun s => (.cons (.no _) (.cons (.no _) (.cons (.no _) .nil))))))) h⟩
theorem ok_spread {f : Addr} {fd : FuncData} (F : FnP K "spread" (top 21) f fd) (hg : mg "spread" = some (.ref f)) : Cal P w K mg base 1 "spread" ["held", "need", "lost"] (sp_spread K) := ⟨f, fd, fo_spread F, hg, F.kp, F.bindsN fun _ _ _ _ _ _ us hl => match us, hl with | [_, _, _], _ => rfl⟩
def m_telling (lots : Int) (contents : Int) (need : Int) (lost : Int) : Mn Unit (Option (Int × (Option Int))) :=
  (mb (mp (decide (lots = (1 : Int)))) fun b => mi b
    (mp ((some ((0 : Int), (none : (Option Int)))) : (Option (Int × (Option Int)))))
    (mb (mp (decide (lots < contents))) fun b => mi b
    (mp ((some ((1 : Int), (none : (Option Int)))) : (Option (Int × (Option Int)))))
    (mb (mp (decide (contents = (2 : Int)))) fun b => mi b
    (mp ((none : (Option (Int × (Option Int)))) : (Option (Int × (Option Int)))))
    (mb (mu (m_prime_below contents)) fun prime25 =>
  (mb (mb (mc (mulOk prime25 prime25) (prime25 * prime25)) fun x_27 => mb (mp ()) fun z28 => mp (x_27, z28)) fun z26 =>
  (mb (whP 64 ((2 : Int), z26.1) (fun (t29 : Int × Int) => (mp (decide (t29.2 < lots)))) fun (t29 : Int × Int) =>
    (mb (mb (mc (mulOk t29.2 prime25) (t29.2 * prime25)) fun x_31 => mb (mp ()) fun z32 => mp (x_31, z32)) fun z30 => mp ((t29.1 + (1 : Int)), z30.1))) fun t33 =>
  (mb (mb (mu (m_spread ((t33.1 + (1 : Int)) : Int) need lost)) fun x_34 => mp (decide (x_34 ≤ prime25))) fun b36 => mi b36 (mp ((some (t33.1, (some prime25))) : (Option (Int × (Option Int))))) (mp ((none : (Option (Int × (Option Int)))) : (Option (Int × (Option Int))))))))))))
abbrev sp_telling (K : PySem.W.Frag) : Sp := Prom (rIm K) (S := Unit) (fun i : Int × Int × Int × Int => [.im (pv K i.1), .im (pv K i.2.1), .im (pv K i.2.2.1), .im (pv K i.2.2.2)]) fun i => m_telling i.1 i.2.1 i.2.2.1 i.2.2.2
theorem len_telling : ∀ vs H Q E, sp_telling K vs H Q E → vs.length = 4 := prom_len (Ret := (rIm K)) (As := fun i : Int × Int × Int × Int => [.im (pv K i.1), .im (pv K i.2.1), .im (pv K i.2.2.1), .im (pv K i.2.2.2)]) (m := fun i => m_telling i.1 i.2.1 i.2.2.1 i.2.2.2) fun _ => rfl
theorem sc_telling : FnScope ["lots", "contents", "need", "lost", "prime", "symbols", "words"] ["lots", "contents", "need", "lost"] (defScope (top 22)) := ⟨rfl, rfl, rfl, by decide +kernel, rfl, by decide +kernel, by decide +kernel⟩
theorem fo_telling {f : Addr} {fd : FuncData} (F : FnP K "telling" (top 22) f fd) (C_prime_below : Cal P w K mg base 4 "prime_below" ["number"] (sp_prime_below K)) (C_spread : Cal P w K mg base 1 "spread" ["held", "need", "lost"] (sp_spread K)) : FnOk P w K mg base CX0 5 f fd ["lots", "contents", "need", "lost"] (sp_telling K) := by
  obtain ⟨f_prime_below, fd_prime_below, G_prime_below, g_prime_below, kp_prime_below, bi_prime_below⟩ := C_prime_below.ex
  obtain ⟨f_spread, fd_spread, G_spread, g_spread, kp_spread, bi_spread⟩ := C_spread.ex
  refine F.ok sc_telling (len_telling (K := K)) (fun cdv A outer s H vs Q E hr h => ?_)
  have hl : vs.length = 4 := len_telling (K := K) vs H Q E h
  match vs, hl, h with
  | [v0, v1, v2, v3], _, h => exact ⟨_, PSs.nox ((pss_cons (ps_if (pt_cmpR op_eq (L2.pv 0) pe_int (nomark _)) (pss_one (ps_ret (pe_tup (pa_cons pe_int (pa_cons pe_non pa_nil))))) pss_nil) (pss_cons (ps_if (pt_cmpR op_lt (L2.pv 0) (L2.pv 1) (nomark _)) (pss_one (ps_ret (pe_tup (pa_cons pe_int (pa_cons pe_non pa_nil))))) pss_nil) (pss_cons (ps_if (pt_cmpR op_eq (L2.pv 1) pe_int (nomark _)) (pss_one (ps_ret pe_non)) pss_nil) (pss_cons (ps_set (i := 4) sc_telling.nd rfl (Or.inl rfl) (pe_call G_prime_below (hr.mono (Nat.le_of_ble_eq_true rfl)) rfl g_prime_below kp_prime_below bi_prime_below .nil pass0 (pa_cons (L2.pv 1) pa_nil))) (pss_cons (ps_par (i := 5) (j := 6) rfl sc_telling.nd rfl rfl (by decide) rfl rfl (pa_cons pe_int (pa_cons (pe_op op_mulW (L2.pv 4) (L2.pv 4)) pa_nil)) rfl) (pss_cons (ps_while PassesOwn.never (pt_cmpR op_lt (L2.pv 6) (L2.pv 0) (nomark _)) (pss_one (ps_par (i := 5) (j := 6) rfl sc_telling.nd rfl rfl (by decide) rfl rfl (pa_cons (pe_op op_add (L2.pv 5) pe_int) (pa_cons (pe_op op_mulW (L2.pv 6) (L2.pv 4)) pa_nil)) rfl))) (pss_one (ps_ret (pe_ifExp (pt_cmpR op_le (pe_call G_spread (hr.mono (Nat.le_of_ble_eq_true rfl)) rfl g_spread kp_spread bi_spread .nil pass0 (pa_cons (pe_op op_add (L2.pv 5) pe_int) (pa_cons (L2.pv 2) (pa_cons (L2.pv 3) pa_nil)))) (L2.pv 4) (nomark _)) (pe_tup (pa_cons (L2.pv 5) (pa_cons (L2.pv 4) pa_nil))) pe_non)))))))))), prom_ok (n := 4) (Ret := (rIm K)) (As := fun i : Int × Int × Int × Int => [.im (pv K i.1), .im (pv K i.2.1), .im (pv K i.2.2.1), .im (pv K i.2.2.2)]) (m := fun i => m_telling i.1 i.2.1 i.2.2.1 i.2.2.2) 3 (fun _ => rfl) rfl (fun (lots, contents, need, lost) => (show RN (rIm K) _ (fun (s : Unit) => [.im (pv K lots), .im (pv K contents), .im (pv K need), .im (pv K lost), .no, .no, .no]) (m_telling lots contents need lost) (fun (s : Unit) => [.no, .no, .no, .no, .no, .no, .no]) from (rn_of (rt_ifr (tm_pure fun _ => (tp_test (ep_op (ep_var rfl) (ep_int (K := K)) o_eq))) (rt_ret (em_pure fun _ => (ep_someN (ep_tup (ap_cons (ep_int (K := K)) (ap_cons ep_nonO ap_nil)) tup2))) fun s => (.cons (.no _) (.cons (.no _) (.cons (.no _) (.cons (.no _) (.cons (.rfl _) (.cons (.rfl _) (.cons (.rfl _) .nil)))))))) (rt_ifr (tm_pure fun _ => (tp_test (ep_op (ep_var rfl) (ep_var rfl) o_lt))) (rt_ret (em_pure fun _ => (ep_someN (ep_tup (ap_cons (ep_int (K := K)) (ap_cons ep_nonO ap_nil)) tup2))) fun s => (.cons (.no _) (.cons (.no _) (.cons (.no _) (.cons (.no _) (.cons (.rfl _) (.cons (.rfl _) (.cons (.rfl _) .nil)))))))) (rt_ifr (tm_pure fun _ => (tp_test (ep_op (ep_var rfl) (ep_int (K := K)) o_eq))) (rt_ret (em_pure fun _ => ep_nonO) fun s => (.cons (.no _) (.cons (.no _) (.cons (.no _) (.cons (.no _) (.cons (.rfl _) (.cons (.rfl _) (.cons (.rfl _) .nil)))))))) (rt_seq (rp_asg (Γ := fun (s : Unit) => [.im (pv K lots), .im (pv K contents), .im (pv K need), .im (pv K lost), .no, .no, .no]) (i := 4) (Γ' := fun prime25 (s : Unit) => [.im (pv K lots), .im (pv K contents), .im (pv K need), .im (pv K lost), .im (pv K prime25), .no, .no]) (em_of_eo (eo_call0 (i := contents) (ps := [pv K contents]) (fun _ => (ap_cons (ep_var rfl) ap_nil)) rfl)) (fun _ => rfl) fun _ _ => rfl) fun prime25 => (rt_seq (rp_asg2 (Γ' := fun z26 (s : Unit) => [.im (pv K lots), .im (pv K contents), .im (pv K need), .im (pv K lost), .im (pv K prime25), .im (pv K ((2 : Int) : Int)), .im (pv K z26.1)]) (ao_p (fun _ => (ep_int (K := K))) (ao_m (em_opC2 (fun _ => (ep_var rfl)) (fun _ => (ep_var rfl)) fun h => o_mulW h) ao_nil)) (fun _ => asg_ok rfl) (fun _ => rfl) (fun _ => rfl) fun _ _ => rfl) fun z26 => (rt_seq (rp_while (ΓL := fun (t29 : Int × Int) (s : Unit) => [.im (pv K lots), .im (pv K contents), .im (pv K need), .im (pv K lost), .im (pv K prime25), .im (pv K t29.1), .im (pv K t29.2)]) (fun s => (.cons (.rfl _) (.cons (.rfl _) (.cons (.rfl _) (.cons (.rfl _) (.cons (.rfl _) (.cons (.rfl _) (.cons (.rfl _) .nil)))))))) (fun t29 => (tm_pure fun _ => (tp_test (ep_op (ep_var rfl) (ep_var rfl) o_lt)))) fun t29 => (rp_post (f := fun z30 => ((t29.1 + (1 : Int)), z30.1)) (rp_asg2 (Γ' := fun z30 (s : Unit) => [.im (pv K lots), .im (pv K contents), .im (pv K need), .im (pv K lost), .im (pv K prime25), .im (pv K ((t29.1 + (1 : Int)) : Int)), .im (pv K z30.1)]) (ao_p (fun _ => (ep_op (ep_var rfl) (ep_int (K := K)) o_add)) (ao_m (em_opC2 (fun _ => (ep_var rfl)) (fun _ => (ep_var rfl)) fun h => o_mulW h) ao_nil)) (fun _ => asg_ok rfl) (fun _ => rfl) (fun _ => rfl) fun _ _ => rfl) fun z30 s => (.cons (.rfl _) (.cons (.rfl _) (.cons (.rfl _) (.cons (.rfl _) (.cons (.rfl _) (.cons (.rfl _) (.cons (.rfl _) .nil))))))))) fun t33 => (rt_ret (em_if (tm_test (em_opr (g := fun (u : Int) (v : Int) => decide (u ≤ v)) (em_of_eo (eo_call0 (i := (((t33.1 + (1 : Int)) : Int), need, lost)) (ps := [pv K ((t33.1 + (1 : Int)) : Int), pv K need, pv K lost]) (fun _ => (ap_cons (ep_op (ep_var rfl) (ep_int (K := K)) o_add) (ap_cons (ep_var rfl) (ap_cons (ep_var rfl) ap_nil)))) rfl)) (fun _ => (ep_var rfl)) fun _ => o_le)) (em_pure fun _ => (ep_someN (ep_tup (ap_cons (ep_var rfl) (ap_cons (ep_some nn_int (ep_var rfl)) ap_nil)) tup2))) (em_pure fun _ => ep_nonO)) fun s => (.cons (.no _) (.cons (.no _) (.cons (.no _) (.cons (.no _) (.cons (.no _) (.cons (.no _) (.cons (.no _) .nil))))))))))))))))) h⟩
theorem ok_telling {f : Addr} {fd : FuncData} (F : FnP K "telling" (top 22) f fd) (hg : mg "telling" = some (.ref f)) (C_prime_below : Cal P w K mg base 4 "prime_below" ["number"] (sp_prime_below K)) (C_spread : Cal P w K mg base 1 "spread" ["held", "need", "lost"] (sp_spread K)) : Cal P w K mg base 5 "telling" ["lots", "contents", "need", "lost"] (sp_telling K) := ⟨f, fd, fo_telling F C_prime_below C_spread, hg, F.kp, F.bindsN fun _ _ _ _ _ _ us hl => match us, hl with | [_, _, _, _], _ => rfl⟩
def m_check_shape (disks : Int) (lost : Int) (records : Int) (changes : Int) : Mn Unit Unit :=
  (mb (mb (mu (m_is_between disks ((1 : Int) : Int) ((12 : Int) : Int))) fun b37 => mp (!b37)) fun b => mi b
    mbad
    (mb (mb (mu (m_is_between lost ((0 : Int) : Int) ((disks - (1 : Int)) : Int))) fun b38 => mp (!b38)) fun b => mi b
    mbad
    (mb (mb (mu (m_is_between records ((1 : Int) : Int) ((24 : Int) : Int))) fun b39 => mp (!b39)) fun b => mi b
    mbad
    (mb (mb (mu (m_is_between changes ((1 : Int) : Int) records)) fun b40 => mp (!b40)) fun b => mi b
    mbad
    (mp ())))))
abbrev sp_check_shape (K : PySem.W.Frag) : Sp := Prom (rIm K) (S := Unit) (fun i : Int × Int × Int × Int => [.im (pv K i.1), .im (pv K i.2.1), .im (pv K i.2.2.1), .im (pv K i.2.2.2)]) fun i => m_check_shape i.1 i.2.1 i.2.2.1 i.2.2.2
theorem len_check_shape : ∀ vs H Q E, sp_check_shape K vs H Q E → vs.length = 4 := prom_len (Ret := (rIm K)) (As := fun i : Int × Int × Int × Int => [.im (pv K i.1), .im (pv K i.2.1), .im (pv K i.2.2.1), .im (pv K i.2.2.2)]) (m := fun i => m_check_shape i.1 i.2.1 i.2.2.1 i.2.2.2) fun _ => rfl
theorem sc_check_shape : FnScope ["disks", "lost", "records", "changes"] ["disks", "lost", "records", "changes"] (defScope (top 23)) := ⟨rfl, rfl, rfl, by decide +kernel, rfl, by decide +kernel, by decide +kernel⟩
theorem fo_check_shape {f : Addr} {fd : FuncData} (F : FnP K "check_shape" (top 23) f fd) (c_MOST_DISKS : ∃ t, mg "MOST_DISKS" = some (.int 12 t)) (c_MOST_RECORDS : ∃ t, mg "MOST_RECORDS" = some (.int 24 t)) (C_is_between : Cal P w K mg base 2 "is_between" ["value", "least", "most"] (sp_is_between K)) : FnOk P w K mg base CX0 3 f fd ["disks", "lost", "records", "changes"] (sp_check_shape K) := by
  obtain ⟨t_MOST_DISKS, c_MOST_DISKS⟩ := c_MOST_DISKS
  obtain ⟨t_MOST_RECORDS, c_MOST_RECORDS⟩ := c_MOST_RECORDS
  obtain ⟨f_is_between, fd_is_between, G_is_between, g_is_between, kp_is_between, bi_is_between⟩ := C_is_between.ex
  refine F.ok sc_check_shape (len_check_shape (K := K)) (fun cdv A outer s H vs Q E hr h => ?_)
  have hl : vs.length = 4 := len_check_shape (K := K) vs H Q E h
  match vs, hl, h with
  | [v0, v1, v2, v3], _, h => exact ⟨_, PSs.nox ((pss_cons (ps_if (pt_not (pt_val (pe_call G_is_between (hr.mono (Nat.le_of_ble_eq_true rfl)) rfl g_is_between kp_is_between bi_is_between .nil pass0 (pa_cons (L2.pv 0) (pa_cons pe_int (pa_cons (pe_glob (v := .int 12) rfl c_MOST_DISKS ⟨_, rfl⟩) pa_nil)))))) (pss_one ps_never) pss_nil) (pss_cons (ps_if (pt_not (pt_val (pe_call G_is_between (hr.mono (Nat.le_of_ble_eq_true rfl)) rfl g_is_between kp_is_between bi_is_between .nil pass0 (pa_cons (L2.pv 1) (pa_cons pe_int (pa_cons (pe_op op_sub (L2.pv 0) pe_int) pa_nil)))))) (pss_one ps_never) pss_nil) (pss_cons (ps_if (pt_not (pt_val (pe_call G_is_between (hr.mono (Nat.le_of_ble_eq_true rfl)) rfl g_is_between kp_is_between bi_is_between .nil pass0 (pa_cons (L2.pv 2) (pa_cons pe_int (pa_cons (pe_glob (v := .int 24) rfl c_MOST_RECORDS ⟨_, rfl⟩) pa_nil)))))) (pss_one ps_never) pss_nil) (pss_one (ps_if (pt_not (pt_val (pe_call G_is_between (hr.mono (Nat.le_of_ble_eq_true rfl)) rfl g_is_between kp_is_between bi_is_between .nil pass0 (pa_cons (L2.pv 3) (pa_cons pe_int (pa_cons (L2.pv 2) pa_nil)))))) (pss_one ps_never) pss_nil)))))), prom_ok (n := 4) (Ret := (rIm K)) (As := fun i : Int × Int × Int × Int => [.im (pv K i.1), .im (pv K i.2.1), .im (pv K i.2.2.1), .im (pv K i.2.2.2)]) (m := fun i => m_check_shape i.1 i.2.1 i.2.2.1 i.2.2.2) 0 (fun _ => rfl) rfl (fun (disks, lost, records, changes) => (show RN (rIm K) _ (fun (s : Unit) => [.im (pv K disks), .im (pv K lost), .im (pv K records), .im (pv K changes)]) (m_check_shape disks lost records changes) (fun (s : Unit) => [.no, .no, .no, .no]) from ((rn_ifr (tm_not (tm_B (em_of_eo (eo_call0 (i := (disks, ((1 : Int) : Int), ((12 : Int) : Int))) (ps := [pv K disks, pv K ((1 : Int) : Int), pv K ((12 : Int) : Int)]) (fun _ => (ap_cons (ep_var rfl) (ap_cons (ep_int (K := K)) (ap_cons (ep_int (K := K)) ap_nil)))) rfl)))) rt_never (rn_ifr (tm_not (tm_B (em_of_eo (eo_call0 (i := (lost, ((0 : Int) : Int), ((disks - (1 : Int)) : Int))) (ps := [pv K lost, pv K ((0 : Int) : Int), pv K ((disks - (1 : Int)) : Int)]) (fun _ => (ap_cons (ep_var rfl) (ap_cons (ep_int (K := K)) (ap_cons (ep_op (ep_var rfl) (ep_int (K := K)) o_sub) ap_nil)))) rfl)))) rt_never (rn_ifr (tm_not (tm_B (em_of_eo (eo_call0 (i := (records, ((1 : Int) : Int), ((24 : Int) : Int))) (ps := [pv K records, pv K ((1 : Int) : Int), pv K ((24 : Int) : Int)]) (fun _ => (ap_cons (ep_var rfl) (ap_cons (ep_int (K := K)) (ap_cons (ep_int (K := K)) ap_nil)))) rfl)))) rt_never (rn_if (tm_not (tm_B (em_of_eo (eo_call0 (i := (changes, ((1 : Int) : Int), records)) (ps := [pv K changes, pv K ((1 : Int) : Int), pv K records]) (fun _ => (ap_cons (ep_var rfl) (ap_cons (ep_int (K := K)) (ap_cons (ep_var rfl) ap_nil)))) rfl)))) (rn_of rt_never) (rn_next fun s => (.cons (.no _) (.cons (.no _) (.cons (.no _) (.cons (.no _) .nil)))))))))))) h⟩
theorem ok_check_shape {f : Addr} {fd : FuncData} (F : FnP K "check_shape" (top 23) f fd) (hg : mg "check_shape" = some (.ref f)) (c_MOST_DISKS : ∃ t, mg "MOST_DISKS" = some (.int 12 t)) (c_MOST_RECORDS : ∃ t, mg "MOST_RECORDS" = some (.int 24 t)) (C_is_between : Cal P w K mg base 2 "is_between" ["value", "least", "most"] (sp_is_between K)) : Cal P w K mg base 3 "check_shape" ["disks", "lost", "records", "changes"] (sp_check_shape K) := ⟨f, fd, fo_check_shape F c_MOST_DISKS c_MOST_RECORDS C_is_between, hg, F.kp, F.bindsN fun _ _ _ _ _ _ us hl => match us, hl with | [_, _, _, _], _ => rfl⟩
structure C_Array where
  f_disks : Int
  f_lost : Int
  f_records : Int
  f_changes : Int
  f_contents : Int
  f_need : Int
  f_lots : Int
  f_symbols : Int
  f_prime : (Option Int)
  f_heads : Int
def n_Array : List Str := ["disks", "lost", "records", "changes", "contents", "need", "lots", "symbols", "prime", "heads"]
instance rp_Array : Rp C_Array := ⟨fun K x H v => insR K n_Array n_Array [pv K x.f_disks, pv K x.f_lost, pv K x.f_records, pv K x.f_changes, pv K x.f_contents, pv K x.f_need, pv K x.f_lots, pv K x.f_symbols, pv K x.f_prime, pv K x.f_heads] H v, fun e h => insR_up e h⟩
instance nn_Array : Nn C_Array := ⟨fun ⟨a, C, dx, vs, h, _⟩ q => by rw [h] at q; cases q⟩
def m_Array (disks : Int) (lost : Int) (records : Int) (changes : Int) (contents : Int) : Mn Unit C_Array :=
  (mb (mu (m_check_shape disks lost records changes)) fun u_41 =>
  (mb (mb (mb (mb (mu (m_is_prime contents)) fun b42 => mp (!b42)) fun b43 => mi b43 (mp true) (mp (decide (contents < disks)))) fun b => mi b
    (mb (mbad : Mn Unit Unit) fun u_45 => mp ())
    (mp ())) fun t44 =>
  (mb (mp disks) fun disks46 =>
  (mb (mp lost) fun lost47 =>
  (mb (mp records) fun records48 =>
  (mb (mp changes) fun changes49 =>
  (mb (mp contents) fun contents50 =>
  (mb (mp ((disks - lost) : Int)) fun need51 =>
  (mb (mu (m_choose records changes)) fun lots52 =>
  (mb (mu (m_telling lots52 contents need51 lost)) fun found53 =>
  (mb (mb (mp found53.isNone) fun b => mi b
    (mb (mbad : Mn Unit Unit) fun u_55 => mp ())
    (mp ())) fun t54 =>
  (mb (mo found53) fun z56 =>
  (mb (mu (m_spread ((z56.1 + (1 : Int)) : Int) need51 lost)) fun heads57 => mp (C_Array.mk disks46 lost47 records48 changes49 contents50 need51 lots52 z56.1 z56.2 heads57))))))))))))))
abbrev sp_Array (K : PySem.W.Frag) (C : Addr) : Sp := PromI C n_Array (fun i : Int × Int × Int × Int × Int => [pv K i.1, pv K i.2.1, pv K i.2.2.1, pv K i.2.2.2.1, pv K i.2.2.2.2]) (fun i => m_Array i.1 i.2.1 i.2.2.1 i.2.2.2.1 i.2.2.2.2) fun x => [pv K x.f_disks, pv K x.f_lost, pv K x.f_records, pv K x.f_changes, pv K x.f_contents, pv K x.f_need, pv K x.f_lots, pv K x.f_symbols, pv K x.f_prime, pv K x.f_heads]
theorem len_Array {C : Addr} : ∀ vs H Q E, sp_Array K C vs H Q E → vs.length = 6 := promI_len (As := fun i : Int × Int × Int × Int × Int => [pv K i.1, pv K i.2.1, pv K i.2.2.1, pv K i.2.2.2.1, pv K i.2.2.2.2]) (m := fun i => m_Array i.1 i.2.1 i.2.2.1 i.2.2.2.1 i.2.2.2.2) (fl := fun x => [pv K x.f_disks, pv K x.f_lost, pv K x.f_records, pv K x.f_changes, pv K x.f_contents, pv K x.f_need, pv K x.f_lots, pv K x.f_symbols, pv K x.f_prime, pv K x.f_heads]) fun _ => rfl
theorem sc_Array : FnScope ["self", "disks", "lost", "records", "changes", "contents", "found"] ["self", "disks", "lost", "records", "changes", "contents"] (defScope (inClass (top 24) 0)) := ⟨rfl, rfl, rfl, by decide +kernel, rfl, by decide +kernel, by decide +kernel⟩
theorem fo_Array {C f : Addr} {fd : FuncData} (F : FunD K "__init__" "Array.__init__" (defArgs (inClass (top 24) 0)) (defBody (inClass (top 24) 0)) (defScope (inClass (top 24) 0)) [] [] f fd) (hc : ClsN K C n_Array) (C_check_shape : Cal P w K mg base 3 "check_shape" ["disks", "lost", "records", "changes"] (sp_check_shape K)) (C_is_prime : Cal P w K mg base 3 "is_prime" ["value"] (sp_is_prime K)) (C_choose : Cal P w K mg base 1 "choose" ["many", "few"] (sp_choose K)) (C_telling : Cal P w K mg base 5 "telling" ["lots", "contents", "need", "lost"] (sp_telling K)) (C_spread : Cal P w K mg base 1 "spread" ["held", "need", "lost"] (sp_spread K)) : FnOk P w K mg base CX0 6 f fd ["self", "disks", "lost", "records", "changes", "contents"] (sp_Array K C) := by
  obtain ⟨f_check_shape, fd_check_shape, G_check_shape, g_check_shape, kp_check_shape, bi_check_shape⟩ := C_check_shape.ex
  obtain ⟨f_is_prime, fd_is_prime, G_is_prime, g_is_prime, kp_is_prime, bi_is_prime⟩ := C_is_prime.ex
  obtain ⟨f_choose, fd_choose, G_choose, g_choose, kp_choose, bi_choose⟩ := C_choose.ex
  obtain ⟨f_telling, fd_telling, G_telling, g_telling, kp_telling, bi_telling⟩ := C_telling.ex
  obtain ⟨f_spread, fd_spread, G_spread, g_spread, kp_spread, bi_spread⟩ := C_spread.ex
  refine F.ok sc_Array (len_Array (K := K)) (fun cdv A outer s H vs Q E hr h => ?_)
  have hl : vs.length = 6 := len_Array (K := K) vs H Q E h
  match vs, hl, h with
  | [v0, v1, v2, v3, v4, v5], _, h => exact ⟨_, PSs.nox ((pss_cons (ps_expr (pe_call G_check_shape (hr.mono (Nat.le_of_ble_eq_true rfl)) rfl g_check_shape kp_check_shape bi_check_shape .nil pass0 (pa_cons (L2.pv 1) (pa_cons (L2.pv 2) (pa_cons (L2.pv 3) (pa_cons (L2.pv 4) pa_nil)))))) (pss_cons (ps_if (PW.pt (pw_or (pt_not (pt_val (pe_call G_is_prime (hr.mono (Nat.le_of_ble_eq_true rfl)) rfl g_is_prime kp_is_prime bi_is_prime .nil pass0 (pa_cons (L2.pv 5) pa_nil)))) (pw_or1 (pt_cmpR op_lt (L2.pv 5) (L2.pv 1) (nomark _))))) (pss_one ps_never) pss_nil) (pss_cons (ps_fld (L2.pv 0) (L2.pv 1) rfl) (pss_cons (ps_fld (L2.pv 0) (L2.pv 2) rfl) (pss_cons (ps_fld (L2.pv 0) (L2.pv 3) rfl) (pss_cons (ps_fld (L2.pv 0) (L2.pv 4) rfl) (pss_cons (ps_fld (L2.pv 0) (L2.pv 5) rfl) (pss_cons (ps_fld (L2.pv 0) (pe_op op_sub (L2.pv 1) (L2.pv 2)) rfl) (pss_cons (ps_fld (L2.pv 0) (pe_call G_choose (hr.mono (Nat.le_of_ble_eq_true rfl)) rfl g_choose kp_choose bi_choose .nil pass0 (pa_cons (L2.pv 3) (pa_cons (L2.pv 4) pa_nil))) rfl) (pss_cons (ps_set (i := 6) sc_Array.nd rfl (Or.inl rfl) (pe_call G_telling (hr.mono (Nat.le_of_ble_eq_true rfl)) rfl g_telling kp_telling bi_telling .nil pass0 (pa_cons (pe_fld (L2.pv 0) rfl) (pa_cons (L2.pv 5) (pa_cons (pe_fld (L2.pv 0) rfl) (pa_cons (L2.pv 2) pa_nil)))))) (pss_cons (ps_if (pt_cmpR op_isN (L2.pv 6) pe_non (nomark _)) (pss_one ps_never) pss_nil) (pss_cons (ps_asg (L2.pv 6) (pg_tup (n := 2) rfl (pgs_cons (pg_fldA (L2.pv 0)) (pgs_cons (pg_fldA (L2.pv 0)) pgs_nil)))) (pss_one (ps_fld (L2.pv 0) (pe_call G_spread (hr.mono (Nat.le_of_ble_eq_true rfl)) rfl g_spread kp_spread bi_spread .nil pass0 (pa_cons (pe_op op_add (pe_fld (L2.pv 0) rfl) pe_int) (pa_cons (pe_fld (L2.pv 0) rfl) (pa_cons (L2.pv 2) pa_nil)))) rfl))))))))))))))), promI_ok (n := 5) (ns := n_Array) (As := fun i : Int × Int × Int × Int × Int => [pv K i.1, pv K i.2.1, pv K i.2.2.1, pv K i.2.2.2.1, pv K i.2.2.2.2]) (m := fun i => m_Array i.1 i.2.1 i.2.2.1 i.2.2.2.1 i.2.2.2.2) (fl := fun x => [pv K x.f_disks, pv K x.f_lost, pv K x.f_records, pv K x.f_changes, pv K x.f_contents, pv K x.f_need, pv K x.f_lots, pv K x.f_symbols, pv K x.f_prime, pv K x.f_heads]) 1 (fun _ => rfl) rfl (fun (disks, lost, records, changes, contents) => (show RP _ (fun (s : Unit) => [.ow ((oin C [] []).at v0), .im (pv K disks), .im (pv K lost), .im (pv K records), .im (pv K changes), .im (pv K contents), .no]) (m_Array disks lost records changes contents) (fun (x : C_Array) (s : Unit) => .ow ((oin C n_Array [pv K x.f_disks, pv K x.f_lost, pv K x.f_records, pv K x.f_changes, pv K x.f_contents, pv K x.f_need, pv K x.f_lots, pv K x.f_symbols, pv K x.f_prime, pv K x.f_heads]).at v0) :: [.no, .no, .no, .no, .no, .no]) from (rp_seq (rp_drop (em_of_eo (eo_call0 (i := (disks, lost, records, changes)) (ps := [pv K disks, pv K lost, pv K records, pv K changes]) (fun _ => (ap_cons (ep_var rfl) (ap_cons (ep_var rfl) (ap_cons (ep_var rfl) (ap_cons (ep_var rfl) ap_nil))))) rfl))) fun u_41 => (rp_seq (rp_if (Γ' := fun t44 (s : Unit) => [.ow ((oin C [] []).at v0), .im (pv K disks), .im (pv K lost), .im (pv K records), .im (pv K changes), .im (pv K contents), .no]) (tm_or (tm_not (tm_B (em_of_eo (eo_call0 (i := contents) (ps := [pv K contents]) (fun _ => (ap_cons (ep_var rfl) ap_nil)) rfl)))) (tm_pure fun _ => (tp_test (ep_op (ep_var rfl) (ep_var rfl) o_lt)))) (rp_post (f := fun u_45 => ()) (rp_never (Γ' := fun u_45 (s : Unit) => [.ow ((oin C [] []).at v0), .im (pv K disks), .im (pv K lost), .im (pv K records), .im (pv K changes), .im (pv K contents), .no])) fun u_45 s => (.cons (.rfl _) (.cons (.rfl _) (.cons (.rfl _) (.cons (.rfl _) (.cons (.rfl _) (.cons (.rfl _) (.cons (.rfl _) .nil)))))))) (rp_next (x := ()) fun s => (.cons (.rfl _) (.cons (.rfl _) (.cons (.rfl _) (.cons (.rfl _) (.cons (.rfl _) (.cons (.rfl _) (.cons (.rfl _) .nil))))))))) fun t44 => (rp_seq (rp_fldI (all := n_Array) (ns := []) (ps := []) (C := C) (j := 0) (w := v0) (Γ := fun (s : Unit) => [.ow ((oin C [] []).at v0), .im (pv K disks), .im (pv K lost), .im (pv K records), .im (pv K changes), .im (pv K contents), .no]) (Γ' := fun disks46 (s : Unit) => [.ow ((oin C ["disks"] [pv K disks46]).at v0), .im (pv K disks), .im (pv K lost), .im (pv K records), .im (pv K changes), .im (pv K contents), .no]) (fun _ => rfl) rfl hc (by decide +kernel) (by decide +kernel) (by decide) (em_pure fun _ => (ep_var rfl)) fun _ _ => rfl) fun disks46 => (rp_seq (rp_fldI (all := n_Array) (ns := ["disks"]) (ps := [pv K disks46]) (C := C) (j := 0) (w := v0) (Γ := fun (s : Unit) => [.ow ((oin C ["disks"] [pv K disks46]).at v0), .im (pv K disks), .im (pv K lost), .im (pv K records), .im (pv K changes), .im (pv K contents), .no]) (Γ' := fun lost47 (s : Unit) => [.ow ((oin C ["disks", "lost"] [pv K disks46, pv K lost47]).at v0), .im (pv K disks), .im (pv K lost), .im (pv K records), .im (pv K changes), .im (pv K contents), .no]) (fun _ => rfl) rfl hc (by decide +kernel) (by decide +kernel) (by decide) (em_pure fun _ => (ep_var rfl)) fun _ _ => rfl) fun lost47 => (rp_seq (rp_fldI (all := n_Array) (ns := ["disks", "lost"]) (ps := [pv K disks46, pv K lost47]) (C := C) (j := 0) (w := v0) (Γ := fun (s : Unit) => [.ow ((oin C ["disks", "lost"] [pv K disks46, pv K lost47]).at v0), .im (pv K disks), .im (pv K lost), .im (pv K records), .im (pv K changes), .im (pv K contents), .no]) (Γ' := fun records48 (s : Unit) => [.ow ((oin C ["disks", "lost", "records"] [pv K disks46, pv K lost47, pv K records48]).at v0), .im (pv K disks), .im (pv K lost), .im (pv K records), .im (pv K changes), .im (pv K contents), .no]) (fun _ => rfl) rfl hc (by decide +kernel) (by decide +kernel) (by decide) (em_pure fun _ => (ep_var rfl)) fun _ _ => rfl) fun records48 => (rp_seq (rp_fldI (all := n_Array) (ns := ["disks", "lost", "records"]) (ps := [pv K disks46, pv K lost47, pv K records48]) (C := C) (j := 0) (w := v0) (Γ := fun (s : Unit) => [.ow ((oin C ["disks", "lost", "records"] [pv K disks46, pv K lost47, pv K records48]).at v0), .im (pv K disks), .im (pv K lost), .im (pv K records), .im (pv K changes), .im (pv K contents), .no]) (Γ' := fun changes49 (s : Unit) => [.ow ((oin C ["disks", "lost", "records", "changes"] [pv K disks46, pv K lost47, pv K records48, pv K changes49]).at v0), .im (pv K disks), .im (pv K lost), .im (pv K records), .im (pv K changes), .im (pv K contents), .no]) (fun _ => rfl) rfl hc (by decide +kernel) (by decide +kernel) (by decide) (em_pure fun _ => (ep_var rfl)) fun _ _ => rfl) fun changes49 => (rp_seq (rp_fldI (all := n_Array) (ns := ["disks", "lost", "records", "changes"]) (ps := [pv K disks46, pv K lost47, pv K records48, pv K changes49]) (C := C) (j := 0) (w := v0) (Γ := fun (s : Unit) => [.ow ((oin C ["disks", "lost", "records", "changes"] [pv K disks46, pv K lost47, pv K records48, pv K changes49]).at v0), .im (pv K disks), .im (pv K lost), .im (pv K records), .im (pv K changes), .im (pv K contents), .no]) (Γ' := fun contents50 (s : Unit) => [.ow ((oin C ["disks", "lost", "records", "changes", "contents"] [pv K disks46, pv K lost47, pv K records48, pv K changes49, pv K contents50]).at v0), .im (pv K disks), .im (pv K lost), .im (pv K records), .im (pv K changes), .im (pv K contents), .no]) (fun _ => rfl) rfl hc (by decide +kernel) (by decide +kernel) (by decide) (em_pure fun _ => (ep_var rfl)) fun _ _ => rfl) fun contents50 => (rp_seq (rp_fldI (all := n_Array) (ns := ["disks", "lost", "records", "changes", "contents"]) (ps := [pv K disks46, pv K lost47, pv K records48, pv K changes49, pv K contents50]) (C := C) (j := 0) (w := v0) (Γ := fun (s : Unit) => [.ow ((oin C ["disks", "lost", "records", "changes", "contents"] [pv K disks46, pv K lost47, pv K records48, pv K changes49, pv K contents50]).at v0), .im (pv K disks), .im (pv K lost), .im (pv K records), .im (pv K changes), .im (pv K contents), .no]) (Γ' := fun need51 (s : Unit) => [.ow ((oin C ["disks", "lost", "records", "changes", "contents", "need"] [pv K disks46, pv K lost47, pv K records48, pv K changes49, pv K contents50, pv K need51]).at v0), .im (pv K disks), .im (pv K lost), .im (pv K records), .im (pv K changes), .im (pv K contents), .no]) (fun _ => rfl) rfl hc (by decide +kernel) (by decide +kernel) (by decide) (em_pure fun _ => (ep_op (ep_var rfl) (ep_var rfl) o_sub)) fun _ _ => rfl) fun need51 => (rp_seq (rp_fldI (all := n_Array) (ns := ["disks", "lost", "records", "changes", "contents", "need"]) (ps := [pv K disks46, pv K lost47, pv K records48, pv K changes49, pv K contents50, pv K need51]) (C := C) (j := 0) (w := v0) (Γ := fun (s : Unit) => [.ow ((oin C ["disks", "lost", "records", "changes", "contents", "need"] [pv K disks46, pv K lost47, pv K records48, pv K changes49, pv K contents50, pv K need51]).at v0), .im (pv K disks), .im (pv K lost), .im (pv K records), .im (pv K changes), .im (pv K contents), .no]) (Γ' := fun lots52 (s : Unit) => [.ow ((oin C ["disks", "lost", "records", "changes", "contents", "need", "lots"] [pv K disks46, pv K lost47, pv K records48, pv K changes49, pv K contents50, pv K need51, pv K lots52]).at v0), .im (pv K disks), .im (pv K lost), .im (pv K records), .im (pv K changes), .im (pv K contents), .no]) (fun _ => rfl) rfl hc (by decide +kernel) (by decide +kernel) (by decide) (em_of_eo (eo_call0 (i := (records, changes)) (ps := [pv K records, pv K changes]) (fun _ => (ap_cons (ep_var rfl) (ap_cons (ep_var rfl) ap_nil))) rfl)) fun _ _ => rfl) fun lots52 => (rp_seq (rp_asg (Γ := fun (s : Unit) => [.ow ((oin C ["disks", "lost", "records", "changes", "contents", "need", "lots"] [pv K disks46, pv K lost47, pv K records48, pv K changes49, pv K contents50, pv K need51, pv K lots52]).at v0), .im (pv K disks), .im (pv K lost), .im (pv K records), .im (pv K changes), .im (pv K contents), .no]) (i := 6) (Γ' := fun found53 (s : Unit) => [.ow ((oin C ["disks", "lost", "records", "changes", "contents", "need", "lots"] [pv K disks46, pv K lost47, pv K records48, pv K changes49, pv K contents50, pv K need51, pv K lots52]).at v0), .im (pv K disks), .im (pv K lost), .im (pv K records), .im (pv K changes), .im (pv K contents), .im (pv K found53)]) (em_of_eo (eo_call0 (i := (lots52, contents, need51, lost)) (ps := [pv K lots52, pv K contents, pv K need51, pv K lost]) (fun _ => (ap_cons (ep_fldO (all := n_Array) (i := 6) rfl hc (by decide +kernel) (by decide +kernel) rfl) (ap_cons (ep_var rfl) (ap_cons (ep_fldO (all := n_Array) (i := 5) rfl hc (by decide +kernel) (by decide +kernel) rfl) (ap_cons (ep_var rfl) ap_nil))))) rfl)) (fun _ => rfl) fun _ _ => rfl) fun found53 => (rp_seq (rp_if (Γ' := fun t54 (s : Unit) => [.ow ((oin C ["disks", "lost", "records", "changes", "contents", "need", "lots"] [pv K disks46, pv K lost47, pv K records48, pv K changes49, pv K contents50, pv K need51, pv K lots52]).at v0), .im (pv K disks), .im (pv K lost), .im (pv K records), .im (pv K changes), .im (pv K contents), .im (pv K found53)]) (tm_pure fun _ => (tp_test (ep_op (ep_var rfl) (ep_non (K := K)) o_isNopt))) (rp_post (f := fun u_55 => ()) (rp_never (Γ' := fun u_55 (s : Unit) => [.ow ((oin C ["disks", "lost", "records", "changes", "contents", "need", "lots"] [pv K disks46, pv K lost47, pv K records48, pv K changes49, pv K contents50, pv K need51, pv K lots52]).at v0), .im (pv K disks), .im (pv K lost), .im (pv K records), .im (pv K changes), .im (pv K contents), .im (pv K found53)])) fun u_55 s => (.cons (.rfl _) (.cons (.rfl _) (.cons (.rfl _) (.cons (.rfl _) (.cons (.rfl _) (.cons (.rfl _) (.cons (.rfl _) .nil)))))))) (rp_next (x := ()) fun s => (.cons (.rfl _) (.cons (.rfl _) (.cons (.rfl _) (.cons (.rfl _) (.cons (.rfl _) (.cons (.rfl _) (.cons (.rfl _) .nil))))))))) fun t54 => (rp_seq (rp_tupF2 (all := n_Array) (ns := ["disks", "lost", "records", "changes", "contents", "need", "lots"]) (ps := [pv K disks46, pv K lost47, pv K records48, pv K changes49, pv K contents50, pv K need51, pv K lots52]) (C := C) (j := 0) (w := v0) (f1 := "symbols") (f2 := "prime") (Γ := fun (s : Unit) => [.ow ((oin C ["disks", "lost", "records", "changes", "contents", "need", "lots"] [pv K disks46, pv K lost47, pv K records48, pv K changes49, pv K contents50, pv K need51, pv K lots52]).at v0), .im (pv K disks), .im (pv K lost), .im (pv K records), .im (pv K changes), .im (pv K contents), .im (pv K found53)]) (Γ' := fun z56 (s : Unit) => [.ow ((oin C ["disks", "lost", "records", "changes", "contents", "need", "lots", "symbols", "prime"] [pv K disks46, pv K lost47, pv K records48, pv K changes49, pv K contents50, pv K need51, pv K lots52, pv K z56.1, pv K z56.2]).at v0), .im (pv K disks), .im (pv K lost), .im (pv K records), .im (pv K changes), .im (pv K contents), .im (pv K found53)]) (fun _ => rfl) (fun _ => Nat.le_of_ble_eq_true rfl) rfl hc (by decide +kernel) (by decide +kernel) (by decide +kernel) (by decide +kernel) (by decide) (em_unopt fun _ => (ep_var rfl)) fun _ _ => rfl) fun z56 => (rp_post (f := fun heads57 => (C_Array.mk disks46 lost47 records48 changes49 contents50 need51 lots52 z56.1 z56.2 heads57)) (rp_fldI (all := n_Array) (ns := ["disks", "lost", "records", "changes", "contents", "need", "lots", "symbols", "prime"]) (ps := [pv K disks46, pv K lost47, pv K records48, pv K changes49, pv K contents50, pv K need51, pv K lots52, pv K z56.1, pv K z56.2]) (C := C) (j := 0) (w := v0) (Γ := fun (s : Unit) => [.ow ((oin C ["disks", "lost", "records", "changes", "contents", "need", "lots", "symbols", "prime"] [pv K disks46, pv K lost47, pv K records48, pv K changes49, pv K contents50, pv K need51, pv K lots52, pv K z56.1, pv K z56.2]).at v0), .im (pv K disks), .im (pv K lost), .im (pv K records), .im (pv K changes), .im (pv K contents), .im (pv K found53)]) (Γ' := fun heads57 (s : Unit) => [.ow ((oin C ["disks", "lost", "records", "changes", "contents", "need", "lots", "symbols", "prime", "heads"] [pv K disks46, pv K lost47, pv K records48, pv K changes49, pv K contents50, pv K need51, pv K lots52, pv K z56.1, pv K z56.2, pv K heads57]).at v0), .im (pv K disks), .im (pv K lost), .im (pv K records), .im (pv K changes), .im (pv K contents), .im (pv K found53)]) (fun _ => rfl) rfl hc (by decide +kernel) (by decide +kernel) (by decide) (em_of_eo (eo_call0 (i := (((z56.1 + (1 : Int)) : Int), need51, lost)) (ps := [pv K ((z56.1 + (1 : Int)) : Int), pv K need51, pv K lost]) (fun _ => (ap_cons (ep_op (ep_fldO (all := n_Array) (i := 7) rfl hc (by decide +kernel) (by decide +kernel) rfl) (ep_int (K := K)) o_add) (ap_cons (ep_fldO (all := n_Array) (i := 5) rfl hc (by decide +kernel) (by decide +kernel) rfl) (ap_cons (ep_var rfl) ap_nil)))) rfl)) fun _ _ => rfl) fun heads57 s => (.cons (.rfl _) (.cons (.no _) (.cons (.no _) (.cons (.no _) (.cons (.no _) (.cons (.no _) (.cons (.no _) .nil)))))))))))))))))))))) h⟩
theorem ok_Array {C f : Addr} {fd : FuncData} (F : FunD K "__init__" "Array.__init__" (defArgs (inClass (top 24) 0)) (defBody (inClass (top 24) 0)) (defScope (inClass (top 24) 0)) [] [] f fd) (hg : mg "Array" = some (.ref C)) (M : Mk K C f) (hc : ClsN K C n_Array) (C_check_shape : Cal P w K mg base 3 "check_shape" ["disks", "lost", "records", "changes"] (sp_check_shape K)) (C_is_prime : Cal P w K mg base 3 "is_prime" ["value"] (sp_is_prime K)) (C_choose : Cal P w K mg base 1 "choose" ["many", "few"] (sp_choose K)) (C_telling : Cal P w K mg base 5 "telling" ["lots", "contents", "need", "lost"] (sp_telling K)) (C_spread : Cal P w K mg base 1 "spread" ["held", "need", "lost"] (sp_spread K)) : MakC P w K mg base 6 "Array" n_Array ["self", "disks", "lost", "records", "changes", "contents"] fun C => sp_Array K C := ⟨C, f, fd, hg, M, hc, fo_Array F hc C_check_shape C_is_prime C_choose C_telling C_spread, F.bindsN fun _ _ _ _ _ _ us hl => match us, hl with | [_, _, _, _, _, _], _ => rfl⟩
def m_is_disk (array : C_Array) (value : Int) : Mn Unit Bool :=
  (mu (m_is_between value ((0 : Int) : Int) ((array.f_disks - (1 : Int)) : Int)))
abbrev sp_is_disk (K : PySem.W.Frag) : Sp := Prom (rIm K) (S := Unit) (fun i : C_Array × Int => [.im (pv K i.1), .im (pv K i.2)]) fun i => m_is_disk i.1 i.2
theorem len_is_disk : ∀ vs H Q E, sp_is_disk K vs H Q E → vs.length = 2 := prom_len (Ret := (rIm K)) (As := fun i : C_Array × Int => [.im (pv K i.1), .im (pv K i.2)]) (m := fun i => m_is_disk i.1 i.2) fun _ => rfl
theorem sc_is_disk : FnScope ["array", "value"] ["array", "value"] (defScope (top 25)) := ⟨rfl, rfl, rfl, by decide +kernel, rfl, by decide +kernel, by decide +kernel⟩
theorem fo_is_disk {f : Addr} {fd : FuncData} (F : FnP K "is_disk" (top 25) f fd) (C_is_between : Cal P w K mg base 2 "is_between" ["value", "least", "most"] (sp_is_between K)) : FnOk P w K mg base CX0 3 f fd ["array", "value"] (sp_is_disk K) := by
  obtain ⟨f_is_between, fd_is_between, G_is_between, g_is_between, kp_is_between, bi_is_between⟩ := C_is_between.ex
  refine F.ok sc_is_disk (len_is_disk (K := K)) (fun cdv A outer s H vs Q E hr h => ?_)
  have hl : vs.length = 2 := len_is_disk (K := K) vs H Q E h
  match vs, hl, h with
  | [v0, v1], _, h => exact ⟨_, PSs.nox ((pss_one (ps_ret (pe_call G_is_between (hr.mono (Nat.le_of_ble_eq_true rfl)) rfl g_is_between kp_is_between bi_is_between .nil pass0 (pa_cons (L2.pv 1) (pa_cons pe_int (pa_cons (pe_op op_sub (pe_fld (L2.pv 0) rfl) pe_int) pa_nil))))))), prom_ok (n := 2) (Ret := (rIm K)) (As := fun i : C_Array × Int => [.im (pv K i.1), .im (pv K i.2)]) (m := fun i => m_is_disk i.1 i.2) 0 (fun _ => rfl) rfl (fun (array, value) => (show RN (rIm K) _ (fun (s : Unit) => [.im (pv K array), .im (pv K value)]) (m_is_disk array value) (fun (s : Unit) => [.no, .no]) from (rn_of (rt_ret (em_of_eo (eo_call0 (i := (value, ((0 : Int) : Int), ((array.f_disks - (1 : Int)) : Int))) (ps := [pv K value, pv K ((0 : Int) : Int), pv K ((array.f_disks - (1 : Int)) : Int)]) (fun _ => (ap_cons (ep_var rfl) (ap_cons (ep_int (K := K)) (ap_cons (ep_op (ep_fld (all := n_Array) (ns := n_Array) (i := 0) (ep_var rfl) (fun _ _ h => h) (by decide +kernel) (by decide +kernel) rfl) (ep_int (K := K)) o_sub) ap_nil)))) rfl)) fun s => (.cons (.no _) (.cons (.no _) .nil)))))) h⟩
theorem ok_is_disk {f : Addr} {fd : FuncData} (F : FnP K "is_disk" (top 25) f fd) (hg : mg "is_disk" = some (.ref f)) (C_is_between : Cal P w K mg base 2 "is_between" ["value", "least", "most"] (sp_is_between K)) : Cal P w K mg base 3 "is_disk" ["array", "value"] (sp_is_disk K) := ⟨f, fd, fo_is_disk F C_is_between, hg, F.kp, F.bindsN fun _ _ _ _ _ _ us hl => match us, hl with | [_, _], _ => rfl⟩
def m_check_disk (array : C_Array) (disk : Int) : Mn Unit Unit :=
  (mb (mb (mu (m_is_disk array disk)) fun b58 => mp (!b58)) fun b => mi b
    mbad
    (mp ()))
abbrev sp_check_disk (K : PySem.W.Frag) : Sp := Prom (rIm K) (S := Unit) (fun i : C_Array × Int => [.im (pv K i.1), .im (pv K i.2)]) fun i => m_check_disk i.1 i.2
theorem len_check_disk : ∀ vs H Q E, sp_check_disk K vs H Q E → vs.length = 2 := prom_len (Ret := (rIm K)) (As := fun i : C_Array × Int => [.im (pv K i.1), .im (pv K i.2)]) (m := fun i => m_check_disk i.1 i.2) fun _ => rfl
theorem sc_check_disk : FnScope ["array", "disk"] ["array", "disk"] (defScope (top 26)) := ⟨rfl, rfl, rfl, by decide +kernel, rfl, by decide +kernel, by decide +kernel⟩
theorem fo_check_disk {f : Addr} {fd : FuncData} (F : FnP K "check_disk" (top 26) f fd) (C_is_disk : Cal P w K mg base 3 "is_disk" ["array", "value"] (sp_is_disk K)) : FnOk P w K mg base CX0 4 f fd ["array", "disk"] (sp_check_disk K) := by
  obtain ⟨f_is_disk, fd_is_disk, G_is_disk, g_is_disk, kp_is_disk, bi_is_disk⟩ := C_is_disk.ex
  refine F.ok sc_check_disk (len_check_disk (K := K)) (fun cdv A outer s H vs Q E hr h => ?_)
  have hl : vs.length = 2 := len_check_disk (K := K) vs H Q E h
  match vs, hl, h with
  | [v0, v1], _, h => exact ⟨_, PSs.nox ((pss_one (ps_if (pt_not (pt_val (pe_call G_is_disk (hr.mono (Nat.le_of_ble_eq_true rfl)) rfl g_is_disk kp_is_disk bi_is_disk .nil pass0 (pa_cons (L2.pv 0) (pa_cons (L2.pv 1) pa_nil))))) (pss_one ps_never) pss_nil))), prom_ok (n := 2) (Ret := (rIm K)) (As := fun i : C_Array × Int => [.im (pv K i.1), .im (pv K i.2)]) (m := fun i => m_check_disk i.1 i.2) 0 (fun _ => rfl) rfl (fun (array, disk) => (show RN (rIm K) _ (fun (s : Unit) => [.im (pv K array), .im (pv K disk)]) (m_check_disk array disk) (fun (s : Unit) => [.no, .no]) from ((rn_if (tm_not (tm_B (em_of_eo (eo_call0 (i := (array, disk)) (ps := [pv K array, pv K disk]) (fun _ => (ap_cons (ep_var rfl) (ap_cons (ep_var rfl) ap_nil))) rfl)))) (rn_of rt_never) (rn_next fun s => (.cons (.no _) (.cons (.no _) .nil))))))) h⟩
theorem ok_check_disk {f : Addr} {fd : FuncData} (F : FnP K "check_disk" (top 26) f fd) (hg : mg "check_disk" = some (.ref f)) (C_is_disk : Cal P w K mg base 3 "is_disk" ["array", "value"] (sp_is_disk K)) : Cal P w K mg base 4 "check_disk" ["array", "disk"] (sp_check_disk K) := ⟨f, fd, fo_check_disk F C_is_disk, hg, F.kp, F.bindsN fun _ _ _ _ _ _ us hl => match us, hl with | [_, _], _ => rfl⟩
def m_heads_on (array : C_Array) (disk : Int) : Mn Unit (List Int) :=
  (mb (mu (m_check_disk array disk)) fun u_59 =>
  (mb (mb (mp disk) fun x_64 => mb (mb (mp array.f_heads) fun x_62 => mb (mb (mp array.f_disks) fun x_60 => mb (mp ()) fun z61 => mp (x_60, z61)) fun z63 => mp (x_62, z63)) fun z65 => mp (x_64, z65)) fun z66 => mc (rgCok z66.1 z66.2.1 z66.2.2.1) (rgC z66.1 z66.2.1 z66.2.2.1)))
abbrev sp_heads_on (K : PySem.W.Frag) : Sp := Prom (rIm K) (S := Unit) (fun i : C_Array × Int => [.im (pv K i.1), .im (pv K i.2)]) fun i => m_heads_on i.1 i.2
theorem len_heads_on : ∀ vs H Q E, sp_heads_on K vs H Q E → vs.length = 2 := prom_len (Ret := (rIm K)) (As := fun i : C_Array × Int => [.im (pv K i.1), .im (pv K i.2)]) (m := fun i => m_heads_on i.1 i.2) fun _ => rfl
theorem sc_heads_on : FnScope ["array", "disk"] ["array", "disk"] (defScope (top 27)) := ⟨rfl, rfl, rfl, by decide +kernel, rfl, by decide +kernel, by decide +kernel⟩
theorem fo_heads_on {f : Addr} {fd : FuncData} (F : FnP K "heads_on" (top 27) f fd) (b_list : mg "list" = none) (b_range : mg "range" = none) (C_check_disk : Cal P w K mg base 4 "check_disk" ["array", "disk"] (sp_check_disk K)) : FnOk P w K mg base CX0 5 f fd ["array", "disk"] (sp_heads_on K) := by
  obtain ⟨f_check_disk, fd_check_disk, G_check_disk, g_check_disk, kp_check_disk, bi_check_disk⟩ := C_check_disk.ex
  refine F.ok sc_heads_on (len_heads_on (K := K)) (fun cdv A outer s H vs Q E hr h => ?_)
  have hl : vs.length = 2 := len_heads_on (K := K) vs H Q E h
  match vs, hl, h with
  | [v0, v1], _, h => exact ⟨_, PSs.nox ((pss_cons (ps_expr (pe_call G_check_disk (hr.mono (Nat.le_of_ble_eq_true rfl)) rfl g_check_disk kp_check_disk bi_check_disk .nil pass0 (pa_cons (L2.pv 0) (pa_cons (L2.pv 1) pa_nil)))) (pss_one (ps_ret (pe_listRg3 rfl rfl b_list (prg_3 rfl b_range (pa_cons (L2.pv 1) (pa_cons (pe_fld (L2.pv 0) rfl) (pa_cons (pe_fld (L2.pv 0) rfl) pa_nil))))))))), prom_ok (n := 2) (Ret := (rIm K)) (As := fun i : C_Array × Int => [.im (pv K i.1), .im (pv K i.2)]) (m := fun i => m_heads_on i.1 i.2) 0 (fun _ => rfl) rfl (fun (array, disk) => (show RN (rIm K) _ (fun (s : Unit) => [.im (pv K array), .im (pv K disk)]) (m_heads_on array disk) (fun (s : Unit) => [.no, .no]) from (rn_of (rt_seq (rp_drop (em_of_eo (eo_call0 (i := (array, disk)) (ps := [pv K array, pv K disk]) (fun _ => (ap_cons (ep_var rfl) (ap_cons (ep_var rfl) ap_nil))) rfl))) fun u_59 => (rt_ret (em_ownL (eo_listRg3 (f := fun (z66 : Int × Int × Int × Unit) => z66.1) (g := fun (z66 : Int × Int × Int × Unit) => z66.2.1) (h := fun (z66 : Int × Int × Int × Unit) => z66.2.2.1) (am_cons (em_pure fun _ => (ep_var rfl)) (am_cons (em_pure fun _ => (ep_fld (all := n_Array) (ns := n_Array) (i := 9) (ep_var rfl) (fun _ _ h => h) (by decide +kernel) (by decide +kernel) rfl)) (am_cons (em_pure fun _ => (ep_fld (all := n_Array) (ns := n_Array) (i := 0) (ep_var rfl) (fun _ _ h => h) (by decide +kernel) (by decide +kernel) rfl)) am_nil))))) fun s => (.cons (.no _) (.cons (.no _) .nil))))))) h⟩
theorem ok_heads_on {f : Addr} {fd : FuncData} (F : FnP K "heads_on" (top 27) f fd) (hg : mg "heads_on" = some (.ref f)) (b_list : mg "list" = none) (b_range : mg "range" = none) (C_check_disk : Cal P w K mg base 4 "check_disk" ["array", "disk"] (sp_check_disk K)) : Cal P w K mg base 5 "heads_on" ["array", "disk"] (sp_heads_on K) := ⟨f, fd, fo_heads_on F b_list b_range C_check_disk, hg, F.kp, F.bindsN fun _ _ _ _ _ _ us hl => match us, hl with | [_, _], _ => rfl⟩
def m_blocks_on (array : C_Array) (disk : Int) : Mn Unit Int :=
  (mb (mb (mb (mb (mu (m_heads_on array disk)) fun x_67 => mb (mp ()) fun z68 => mp (x_67, z68)) fun z69 => mp ((z69.1.length : Nat) : Int)) fun y71 => mp (array.f_records + y71)) fun x_72 => mp (x_72 + array.f_changes))
abbrev sp_blocks_on (K : PySem.W.Frag) : Sp := Prom (rIm K) (S := Unit) (fun i : C_Array × Int => [.im (pv K i.1), .im (pv K i.2)]) fun i => m_blocks_on i.1 i.2
theorem len_blocks_on : ∀ vs H Q E, sp_blocks_on K vs H Q E → vs.length = 2 := prom_len (Ret := (rIm K)) (As := fun i : C_Array × Int => [.im (pv K i.1), .im (pv K i.2)]) (m := fun i => m_blocks_on i.1 i.2) fun _ => rfl
theorem sc_blocks_on : FnScope ["array", "disk"] ["array", "disk"] (defScope (top 28)) := ⟨rfl, rfl, rfl, by decide +kernel, rfl, by decide +kernel, by decide +kernel⟩
theorem fo_blocks_on {f : Addr} {fd : FuncData} (F : FnP K "blocks_on" (top 28) f fd) (b_len : mg "len" = none) (C_heads_on : Cal P w K mg base 5 "heads_on" ["array", "disk"] (sp_heads_on K)) : FnOk P w K mg base CX0 6 f fd ["array", "disk"] (sp_blocks_on K) := by
  obtain ⟨f_heads_on, fd_heads_on, G_heads_on, g_heads_on, kp_heads_on, bi_heads_on⟩ := C_heads_on.ex
  refine F.ok sc_blocks_on (len_blocks_on (K := K)) (fun cdv A outer s H vs Q E hr h => ?_)
  have hl : vs.length = 2 := len_blocks_on (K := K) vs H Q E h
  match vs, hl, h with
  | [v0, v1], _, h => exact ⟨_, PSs.nox ((pss_one (ps_ret (pe_op op_add (pe_op op_add (pe_fld (L2.pv 0) rfl) (pe_callB call_len_seq rfl b_len bt_len (pa_cons (pe_call G_heads_on (hr.mono (Nat.le_of_ble_eq_true rfl)) rfl g_heads_on kp_heads_on bi_heads_on .nil pass0 (pa_cons (L2.pv 0) (pa_cons (L2.pv 1) pa_nil))) pa_nil))) (pe_fld (L2.pv 0) rfl))))), prom_ok (n := 2) (Ret := (rIm K)) (As := fun i : C_Array × Int => [.im (pv K i.1), .im (pv K i.2)]) (m := fun i => m_blocks_on i.1 i.2) 0 (fun _ => rfl) rfl (fun (array, disk) => (show RN (rIm K) _ (fun (s : Unit) => [.im (pv K array), .im (pv K disk)]) (m_blocks_on array disk) (fun (s : Unit) => [.no, .no]) from (rn_of (rt_ret (em_opr (g := fun (u : Int) (v : Int) => (u + v)) (em_opl (g := fun (u : Int) (v : Int) => (u + v)) (fun _ => (ep_fld (all := n_Array) (ns := n_Array) (i := 2) (ep_var rfl) (fun _ _ h => h) (by decide +kernel) (by decide +kernel) rfl)) (em_cb (f := fun (z69 : (List Int) × Unit) => ((z69.1.length : Nat) : Int)) (am_cons (em_of_eo (eo_call0 (i := (array, disk)) (ps := [pv K array, pv K disk]) (fun _ => (ap_cons (ep_var rfl) (ap_cons (ep_var rfl) ap_nil))) rfl)) am_nil) fun _ => c_lenL) fun _ => o_add) (fun _ => (ep_fld (all := n_Array) (ns := n_Array) (i := 3) (ep_var rfl) (fun _ _ h => h) (by decide +kernel) (by decide +kernel) rfl)) fun _ => o_add) fun s => (.cons (.no _) (.cons (.no _) .nil)))))) h⟩
theorem ok_blocks_on {f : Addr} {fd : FuncData} (F : FnP K "blocks_on" (top 28) f fd) (hg : mg "blocks_on" = some (.ref f)) (b_len : mg "len" = none) (C_heads_on : Cal P w K mg base 5 "heads_on" ["array", "disk"] (sp_heads_on K)) : Cal P w K mg base 6 "blocks_on" ["array", "disk"] (sp_blocks_on K) := ⟨f, fd, fo_blocks_on F b_len C_heads_on, hg, F.kp, F.bindsN fun _ _ _ _ _ _ us hl => match us, hl with | [_, _], _ => rfl⟩
def m_all_blocks (array : C_Array) : Mn Unit Int :=
  (mb (mb (mb (mc (b62 array.f_disks) (rng 0 array.f_disks.toNat)) fun xs => cmP xs (fun (a74 : Int) => (mp true)) fun a74 => (mu (m_blocks_on array a74))) fun x_75 => mb (mp ()) fun z76 => mp (x_75, z76)) fun z77 => mp ((z77.1).sum))
abbrev sp_all_blocks (K : PySem.W.Frag) : Sp := Prom (rIm K) (S := Unit) (fun i : C_Array => [.im (pv K i)]) fun i => m_all_blocks i
theorem len_all_blocks : ∀ vs H Q E, sp_all_blocks K vs H Q E → vs.length = 1 := prom_len (Ret := (rIm K)) (As := fun i : C_Array => [.im (pv K i)]) (m := fun i => m_all_blocks i) fun _ => rfl
theorem sc_all_blocks : FnScope ["array", "disk"] ["array"] (defScope (top 29)) := ⟨rfl, rfl, rfl, by decide +kernel, rfl, by decide +kernel, by decide +kernel⟩
theorem fo_all_blocks {f : Addr} {fd : FuncData} (F : FnP K "all_blocks" (top 29) f fd) (b_range : mg "range" = none) (b_sum : mg "sum" = none) (C_blocks_on : Cal P w K mg base 6 "blocks_on" ["array", "disk"] (sp_blocks_on K)) : FnOk P w K mg base CX0 7 f fd ["array"] (sp_all_blocks K) := by
  obtain ⟨f_blocks_on, fd_blocks_on, G_blocks_on, g_blocks_on, kp_blocks_on, bi_blocks_on⟩ := C_blocks_on.ex
  refine F.ok sc_all_blocks (len_all_blocks (K := K)) (fun cdv A outer s H vs Q E hr h => ?_)
  have hl : vs.length = 1 := len_all_blocks (K := K) vs H Q E h
  match vs, hl, h with
  | [v0], _, h => exact ⟨_, PSs.nox ((pss_one (ps_ret (pe_callB (cr_sum rfl) rfl b_sum bt_sum (pa_cons (pe_lc (own := [("disk", 1)]) rfl sc_all_blocks.nd (pi_range1 rfl b_range (pa_cons (pe_fld (L2.pv 0) rfl) pa_nil)) (blkOk_by (own := [("disk", 1)]) (N := ["array", "disk"]) (sc := defScope (top 29)) (by decide +kernel)) (fun _ _ _ _ _ => (pg_name (i := 1) sc_all_blocks.nd rfl (Or.inl rfl))) (fun _ _ _ _ _ => pts_nil) (fun _ _ _ _ _ => (pe_call G_blocks_on (hr.mono (Nat.le_of_ble_eq_true rfl)) rfl g_blocks_on kp_blocks_on bi_blocks_on .nil pass0 (pa_cons (L2.pv 0) (pa_cons (L2.pv 1) pa_nil))))) pa_nil))))), prom_ok (n := 1) (Ret := (rIm K)) (As := fun i : C_Array => [.im (pv K i)]) (m := fun i => m_all_blocks i) 1 (fun _ => rfl) rfl (fun array => (show RN (rIm K) _ (fun (s : Unit) => [.im (pv K array), .no]) (m_all_blocks array) (fun (s : Unit) => [.no, .no]) from (rn_of (rt_ret (em_cb (f := fun (z77 : (List Int) × Unit) => (z77.1).sum) (am_cons (em_lc (Γx := fun (a74 : Int) (s : Unit) => [.im (pv K array), .im (pv K a74)]) (js := [1]) (im_rng1 fun _ => (ap_cons (ep_fld (all := n_Array) (ns := n_Array) (i := 0) (ep_var rfl) (fun _ _ h => h) (by decide +kernel) (by decide +kernel) rfl) ap_nil)) (fun _ => rfl) (fun a74 s => (gt_name (Γ := [.im (pv K array), .no]) (i := 1) (Γ' := [.im (pv K array), .im (pv K a74)]) rfl rfl)) rfl (fun a74 => tm_yes) (fun a74 => (em_of_eo (eo_call0 (i := (array, a74)) (ps := [pv K array, pv K a74]) (fun _ => (ap_cons (ep_var rfl) (ap_cons (ep_var rfl) ap_nil))) rfl))) fun a74 s => (.cons (.rfl _) (.cons (.no _) .nil))) am_nil) fun _ => c_sum) fun s => (.cons (.no _) (.cons (.rfl _) .nil)))))) h⟩
theorem ok_all_blocks {f : Addr} {fd : FuncData} (F : FnP K "all_blocks" (top 29) f fd) (hg : mg "all_blocks" = some (.ref f)) (b_range : mg "range" = none) (b_sum : mg "sum" = none) (C_blocks_on : Cal P w K mg base 6 "blocks_on" ["array", "disk"] (sp_blocks_on K)) : Cal P w K mg base 7 "all_blocks" ["array"] (sp_all_blocks K) := ⟨f, fd, fo_all_blocks F b_range b_sum C_blocks_on, hg, F.kp, F.bindsN fun _ _ _ _ _ _ us hl => match us, hl with | [_], _ => rfl⟩
def m_power (base_ : Int) (exponent : Int) : Mn Unit Int :=
  (mb (mp ((1 : Int) : Int)) fun found78 =>
  (mb (mb (mc (b62 exponent) (rng 0 exponent.toNat)) fun xs => forP xs found78 fun a80 (t79 : Int) =>
    (mb (mc (mulOk t79 base_) (t79 * base_)) fun found81 => mp found81)) fun t82 =>
  (mp t82)))
abbrev sp_power (K : PySem.W.Frag) : Sp := Prom (rIm K) (S := Unit) (fun i : Int × Int => [.im (pv K i.1), .im (pv K i.2)]) fun i => m_power i.1 i.2
theorem len_power : ∀ vs H Q E, sp_power K vs H Q E → vs.length = 2 := prom_len (Ret := (rIm K)) (As := fun i : Int × Int => [.im (pv K i.1), .im (pv K i.2)]) (m := fun i => m_power i.1 i.2) fun _ => rfl
theorem sc_power : FnScope ["base", "exponent", "found", "_"] ["base", "exponent"] (defScope (top 32)) := ⟨rfl, rfl, rfl, by decide +kernel, rfl, by decide +kernel, by decide +kernel⟩
theorem fo_power {f : Addr} {fd : FuncData} (F : FnP K "power" (top 32) f fd) (b_range : mg "range" = none) : FnOk P w K mg base CX0 1 f fd ["base", "exponent"] (sp_power K) := by
  refine F.ok sc_power (len_power (K := K)) (fun cdv A outer s H vs Q E hr h => ?_)
  have hl : vs.length = 2 := len_power (K := K) vs H Q E h
  match vs, hl, h with
  | [v0, v1], _, h => exact ⟨_, PSs.nox ((pss_cons (ps_set (i := 2) sc_power.nd rfl (Or.inl rfl) pe_int) (pss_cons (ps_for PassesOwn.never rfl (pi_range1 rfl b_range (pa_cons (L2.pv 1) pa_nil)) (pg_name (i := 3) sc_power.nd rfl (Or.inl rfl)) (pss_one (ps_set (i := 2) sc_power.nd rfl (Or.inl rfl) (pe_op op_mulW (L2.pv 2) (L2.pv 0))))) (pss_one (ps_ret (L2.pv 2)))))), prom_ok (n := 2) (Ret := (rIm K)) (As := fun i : Int × Int => [.im (pv K i.1), .im (pv K i.2)]) (m := fun i => m_power i.1 i.2) 2 (fun _ => rfl) rfl (fun (base_, exponent) => (show RN (rIm K) _ (fun (s : Unit) => [.im (pv K base_), .im (pv K exponent), .no, .no]) (m_power base_ exponent) (fun (s : Unit) => [.no, .no, .no, .no]) from (rn_of (rt_seq (rp_asg (Γ := fun (s : Unit) => [.im (pv K base_), .im (pv K exponent), .no, .no]) (i := 2) (Γ' := fun found78 (s : Unit) => [.im (pv K base_), .im (pv K exponent), .im (pv K found78), .no]) (em_pure fun _ => (ep_int (K := K))) (fun _ => rfl) fun _ _ => rfl) fun found78 => (rt_seq (rp_for (ΓL := fun (t79 : Int) (s : Unit) => [.im (pv K base_), .im (pv K exponent), .im (pv K t79), .no]) (Γx := fun (a80 : Int) (t79 : Int) (s : Unit) => [.im (pv K base_), .im (pv K exponent), .im (pv K t79), .im (pv K a80)]) (im_rng1 fun _ => (ap_cons (ep_var rfl) ap_nil)) (fun s => (.cons (.rfl _) (.cons (.rfl _) (.cons (.rfl _) (.cons (.rfl _) .nil))))) (fun a80 t79 s => (gt_name (Γ := [.im (pv K base_), .im (pv K exponent), .im (pv K t79), .no]) (i := 3) (Γ' := [.im (pv K base_), .im (pv K exponent), .im (pv K t79), .im (pv K a80)]) rfl rfl)) fun a80 t79 => (rp_post (f := fun found81 => found81) (rp_asg (Γ := fun (s : Unit) => [.im (pv K base_), .im (pv K exponent), .im (pv K t79), .im (pv K a80)]) (i := 2) (Γ' := fun found81 (s : Unit) => [.im (pv K base_), .im (pv K exponent), .im (pv K found81), .im (pv K a80)]) (em_opC2 (fun _ => (ep_var rfl)) (fun _ => (ep_var rfl)) fun h => o_mulW h) (fun _ => rfl) fun _ _ => rfl) fun found81 s => (.cons (.rfl _) (.cons (.rfl _) (.cons (.rfl _) (.cons (.no _) .nil)))))) fun t82 => (rt_ret (em_pure fun _ => (ep_var rfl)) fun s => (.cons (.no _) (.cons (.no _) (.cons (.no _) (.cons (.rfl _) .nil)))))))))) h⟩
theorem ok_power {f : Addr} {fd : FuncData} (F : FnP K "power" (top 32) f fd) (hg : mg "power" = some (.ref f)) (b_range : mg "range" = none) : Cal P w K mg base 1 "power" ["base", "exponent"] (sp_power K) := ⟨f, fd, fo_power F b_range, hg, F.kp, F.bindsN fun _ _ _ _ _ _ us hl => match us, hl with | [_, _], _ => rfl⟩
def m_check_contents (contents : Int) : Mn Unit Unit :=
  (mb (mb (mu (m_is_between contents ((2 : Int) : Int) ((997 : Int) : Int))) fun b83 => mp (!b83)) fun b => mi b
    mbad
    (mp ()))
abbrev sp_check_contents (K : PySem.W.Frag) : Sp := Prom (rIm K) (S := Unit) (fun i : Int => [.im (pv K i)]) fun i => m_check_contents i
theorem len_check_contents : ∀ vs H Q E, sp_check_contents K vs H Q E → vs.length = 1 := prom_len (Ret := (rIm K)) (As := fun i : Int => [.im (pv K i)]) (m := fun i => m_check_contents i) fun _ => rfl
theorem sc_check_contents : FnScope ["contents"] ["contents"] (defScope (top 33)) := ⟨rfl, rfl, rfl, by decide +kernel, rfl, by decide +kernel, by decide +kernel⟩
theorem fo_check_contents {f : Addr} {fd : FuncData} (F : FnP K "check_contents" (top 33) f fd) (c_MOST_PRIME : ∃ t, mg "MOST_PRIME" = some (.int 997 t)) (C_is_between : Cal P w K mg base 2 "is_between" ["value", "least", "most"] (sp_is_between K)) : FnOk P w K mg base CX0 3 f fd ["contents"] (sp_check_contents K) := by
  obtain ⟨t_MOST_PRIME, c_MOST_PRIME⟩ := c_MOST_PRIME
  obtain ⟨f_is_between, fd_is_between, G_is_between, g_is_between, kp_is_between, bi_is_between⟩ := C_is_between.ex
  refine F.ok sc_check_contents (len_check_contents (K := K)) (fun cdv A outer s H vs Q E hr h => ?_)
  have hl : vs.length = 1 := len_check_contents (K := K) vs H Q E h
  match vs, hl, h with
  | [v0], _, h => exact ⟨_, PSs.nox ((pss_one (ps_if (pt_not (pt_val (pe_call G_is_between (hr.mono (Nat.le_of_ble_eq_true rfl)) rfl g_is_between kp_is_between bi_is_between .nil pass0 (pa_cons (L2.pv 0) (pa_cons pe_int (pa_cons (pe_glob (v := .int 997) rfl c_MOST_PRIME ⟨_, rfl⟩) pa_nil)))))) (pss_one ps_never) pss_nil))), prom_ok (n := 1) (Ret := (rIm K)) (As := fun i : Int => [.im (pv K i)]) (m := fun i => m_check_contents i) 0 (fun _ => rfl) rfl (fun contents => (show RN (rIm K) _ (fun (s : Unit) => [.im (pv K contents)]) (m_check_contents contents) (fun (s : Unit) => [.no]) from ((rn_if (tm_not (tm_B (em_of_eo (eo_call0 (i := (contents, ((2 : Int) : Int), ((997 : Int) : Int))) (ps := [pv K contents, pv K ((2 : Int) : Int), pv K ((997 : Int) : Int)]) (fun _ => (ap_cons (ep_var rfl) (ap_cons (ep_int (K := K)) (ap_cons (ep_int (K := K)) ap_nil)))) rfl)))) (rn_of rt_never) (rn_next fun s => (.cons (.no _) .nil)))))) h⟩
theorem ok_check_contents {f : Addr} {fd : FuncData} (F : FnP K "check_contents" (top 33) f fd) (hg : mg "check_contents" = some (.ref f)) (c_MOST_PRIME : ∃ t, mg "MOST_PRIME" = some (.int 997 t)) (C_is_between : Cal P w K mg base 2 "is_between" ["value", "least", "most"] (sp_is_between K)) : Cal P w K mg base 3 "check_contents" ["contents"] (sp_check_contents K) := ⟨f, fd, fo_check_contents F c_MOST_PRIME C_is_between, hg, F.kp, F.bindsN fun _ _ _ _ _ _ us hl => match us, hl with | [_], _ => rfl⟩
def m_check_sizes (need : Int) (records : Int) (changes : Int) (contents : Int) : Mn Unit Unit :=
  (mb (mu (m_check_shape need ((0 : Int) : Int) records changes)) fun u_84 =>
  (mb (mu (m_check_contents contents)) fun _ => mp ()))
abbrev sp_check_sizes (K : PySem.W.Frag) : Sp := Prom (rIm K) (S := Unit) (fun i : Int × Int × Int × Int => [.im (pv K i.1), .im (pv K i.2.1), .im (pv K i.2.2.1), .im (pv K i.2.2.2)]) fun i => m_check_sizes i.1 i.2.1 i.2.2.1 i.2.2.2
theorem len_check_sizes : ∀ vs H Q E, sp_check_sizes K vs H Q E → vs.length = 4 := prom_len (Ret := (rIm K)) (As := fun i : Int × Int × Int × Int => [.im (pv K i.1), .im (pv K i.2.1), .im (pv K i.2.2.1), .im (pv K i.2.2.2)]) (m := fun i => m_check_sizes i.1 i.2.1 i.2.2.1 i.2.2.2) fun _ => rfl
theorem sc_check_sizes : FnScope ["need", "records", "changes", "contents"] ["need", "records", "changes", "contents"] (defScope (top 34)) := ⟨rfl, rfl, rfl, by decide +kernel, rfl, by decide +kernel, by decide +kernel⟩
theorem fo_check_sizes {f : Addr} {fd : FuncData} (F : FnP K "check_sizes" (top 34) f fd) (C_check_shape : Cal P w K mg base 3 "check_shape" ["disks", "lost", "records", "changes"] (sp_check_shape K)) (C_check_contents : Cal P w K mg base 3 "check_contents" ["contents"] (sp_check_contents K)) : FnOk P w K mg base CX0 4 f fd ["need", "records", "changes", "contents"] (sp_check_sizes K) := by
  obtain ⟨f_check_shape, fd_check_shape, G_check_shape, g_check_shape, kp_check_shape, bi_check_shape⟩ := C_check_shape.ex
  obtain ⟨f_check_contents, fd_check_contents, G_check_contents, g_check_contents, kp_check_contents, bi_check_contents⟩ := C_check_contents.ex
  refine F.ok sc_check_sizes (len_check_sizes (K := K)) (fun cdv A outer s H vs Q E hr h => ?_)
  have hl : vs.length = 4 := len_check_sizes (K := K) vs H Q E h
  match vs, hl, h with
  | [v0, v1, v2, v3], _, h => exact ⟨_, PSs.nox ((pss_cons (ps_expr (pe_call G_check_shape (hr.mono (Nat.le_of_ble_eq_true rfl)) rfl g_check_shape kp_check_shape bi_check_shape .nil pass0 (pa_cons (L2.pv 0) (pa_cons pe_int (pa_cons (L2.pv 1) (pa_cons (L2.pv 2) pa_nil)))))) (pss_one (ps_expr (pe_call G_check_contents (hr.mono (Nat.le_of_ble_eq_true rfl)) rfl g_check_contents kp_check_contents bi_check_contents .nil pass0 (pa_cons (L2.pv 3) pa_nil)))))), prom_ok (n := 4) (Ret := (rIm K)) (As := fun i : Int × Int × Int × Int => [.im (pv K i.1), .im (pv K i.2.1), .im (pv K i.2.2.1), .im (pv K i.2.2.2)]) (m := fun i => m_check_sizes i.1 i.2.1 i.2.2.1 i.2.2.2) 0 (fun _ => rfl) rfl (fun (need, records, changes, contents) => (show RN (rIm K) _ (fun (s : Unit) => [.im (pv K need), .im (pv K records), .im (pv K changes), .im (pv K contents)]) (m_check_sizes need records changes contents) (fun (s : Unit) => [.no, .no, .no, .no]) from ((rn_seq (rp_drop (em_of_eo (eo_call0 (i := (need, ((0 : Int) : Int), records, changes)) (ps := [pv K need, pv K ((0 : Int) : Int), pv K records, pv K changes]) (fun _ => (ap_cons (ep_var rfl) (ap_cons (ep_int (K := K)) (ap_cons (ep_var rfl) (ap_cons (ep_var rfl) ap_nil))))) rfl))) fun u_84 => (rn_last (rp_drop (em_of_eo (eo_call0 (i := contents) (ps := [pv K contents]) (fun _ => (ap_cons (ep_var rfl) ap_nil)) rfl))) fun u_85 s => (.cons (.no _) (.cons (.no _) (.cons (.no _) (.cons (.no _) .nil))))))))) h⟩
theorem ok_check_sizes {f : Addr} {fd : FuncData} (F : FnP K "check_sizes" (top 34) f fd) (hg : mg "check_sizes" = some (.ref f)) (C_check_shape : Cal P w K mg base 3 "check_shape" ["disks", "lost", "records", "changes"] (sp_check_shape K)) (C_check_contents : Cal P w K mg base 3 "check_contents" ["contents"] (sp_check_contents K)) : Cal P w K mg base 4 "check_sizes" ["need", "records", "changes", "contents"] (sp_check_sizes K) := ⟨f, fd, fo_check_sizes F C_check_shape C_check_contents, hg, F.kp, F.bindsN fun _ _ _ _ _ _ us hl => match us, hl with | [_, _, _, _], _ => rfl⟩
def m_enough (disks : Int) (lost : Int) (records : Int) (changes : Int) (contents : Int) : Mn Unit Int :=
  (mb (mb (mb (mb (mp disks) fun x_94 => mb (mb (mp lost) fun x_92 => mb (mb (mp records) fun x_90 => mb (mb (mp changes) fun x_88 => mb (mb (mp contents) fun x_86 => mb (mp ()) fun z87 => mp (x_86, z87)) fun z89 => mp (x_88, z89)) fun z91 => mp (x_90, z91)) fun z93 => mp (x_92, z93)) fun z95 => mp (x_94, z95)) fun z96 => mu (m_Array z96.1 z96.2.1 z96.2.2.1 z96.2.2.2.1 z96.2.2.2.2.1)) fun x_97 => mb (mp ()) fun z98 => mp (x_97, z98)) fun z99 => mu (m_all_blocks z99.1))
abbrev sp_enough (K : PySem.W.Frag) : Sp := Prom (rIm K) (S := Unit) (fun i : Int × Int × Int × Int × Int => [.im (pv K i.1), .im (pv K i.2.1), .im (pv K i.2.2.1), .im (pv K i.2.2.2.1), .im (pv K i.2.2.2.2)]) fun i => m_enough i.1 i.2.1 i.2.2.1 i.2.2.2.1 i.2.2.2.2
theorem len_enough : ∀ vs H Q E, sp_enough K vs H Q E → vs.length = 5 := prom_len (Ret := (rIm K)) (As := fun i : Int × Int × Int × Int × Int => [.im (pv K i.1), .im (pv K i.2.1), .im (pv K i.2.2.1), .im (pv K i.2.2.2.1), .im (pv K i.2.2.2.2)]) (m := fun i => m_enough i.1 i.2.1 i.2.2.1 i.2.2.2.1 i.2.2.2.2) fun _ => rfl
theorem sc_enough : FnScope ["disks", "lost", "records", "changes", "contents"] ["disks", "lost", "records", "changes", "contents"] (defScope (top 35)) := ⟨rfl, rfl, rfl, by decide +kernel, rfl, by decide +kernel, by decide +kernel⟩
theorem fo_enough {f : Addr} {fd : FuncData} (F : FnP K "enough" (top 35) f fd) (C_all_blocks : Cal P w K mg base 7 "all_blocks" ["array"] (sp_all_blocks K)) (K_Array : MakC P w K mg base 6 "Array" n_Array ["self", "disks", "lost", "records", "changes", "contents"] fun C => sp_Array K C) : FnOk P w K mg base CX0 8 f fd ["disks", "lost", "records", "changes", "contents"] (sp_enough K) := by
  obtain ⟨f_all_blocks, fd_all_blocks, G_all_blocks, g_all_blocks, kp_all_blocks, bi_all_blocks⟩ := C_all_blocks.ex
  obtain ⟨CC_Array, f_Array, fd_Array, g_Array, M_Array, hc_Array, G_Array, bi_Array⟩ := K_Array.ex
  refine F.ok sc_enough (len_enough (K := K)) (fun cdv A outer s H vs Q E hr h => ?_)
  have hl : vs.length = 5 := len_enough (K := K) vs H Q E h
  match vs, hl, h with
  | [v0, v1, v2, v3, v4], _, h => exact ⟨_, PSs.nox ((pss_one (ps_ret (pe_call G_all_blocks (hr.mono (Nat.le_of_ble_eq_true rfl)) rfl g_all_blocks kp_all_blocks bi_all_blocks .nil pass0 (pa_cons (pe_make M_Array G_Array (hr.mono (Nat.le_of_ble_eq_true rfl)) rfl g_Array bi_Array .nil pass0 (pa_cons (L2.pv 0) (pa_cons (L2.pv 1) (pa_cons (L2.pv 2) (pa_cons (L2.pv 3) (pa_cons (L2.pv 4) pa_nil)))))) pa_nil))))), prom_ok (n := 5) (Ret := (rIm K)) (As := fun i : Int × Int × Int × Int × Int => [.im (pv K i.1), .im (pv K i.2.1), .im (pv K i.2.2.1), .im (pv K i.2.2.2.1), .im (pv K i.2.2.2.2)]) (m := fun i => m_enough i.1 i.2.1 i.2.2.1 i.2.2.2.1 i.2.2.2.2) 0 (fun _ => rfl) rfl (fun (disks, lost, records, changes, contents) => (show RN (rIm K) _ (fun (s : Unit) => [.im (pv K disks), .im (pv K lost), .im (pv K records), .im (pv K changes), .im (pv K contents)]) (m_enough disks lost records changes contents) (fun (s : Unit) => [.no, .no, .no, .no, .no]) from (rn_of (rt_ret (em_of_eo (eo_call0M (f := fun (z99 : C_Array × Unit) => z99.1) (am_cons (em_own (eo_make (g := fun (z96 : Int × Int × Int × Int × Int × Unit) => (z96.1, z96.2.1, z96.2.2.1, z96.2.2.2.1, z96.2.2.2.2.1)) (am_cons (em_pure fun _ => (ep_var rfl)) (am_cons (em_pure fun _ => (ep_var rfl)) (am_cons (em_pure fun _ => (ep_var rfl)) (am_cons (em_pure fun _ => (ep_var rfl)) (am_cons (em_pure fun _ => (ep_var rfl)) am_nil))))) fun _ => rfl) fun x I a Ma d q => fr_oin hc_Array I a Ma d q) am_nil) fun _ => rfl)) fun s => (.cons (.no _) (.cons (.no _) (.cons (.no _) (.cons (.no _) (.cons (.no _) .nil))))))))) h⟩
theorem ok_enough {f : Addr} {fd : FuncData} (F : FnP K "enough" (top 35) f fd) (hg : mg "enough" = some (.ref f)) (C_all_blocks : Cal P w K mg base 7 "all_blocks" ["array"] (sp_all_blocks K)) (K_Array : MakC P w K mg base 6 "Array" n_Array ["self", "disks", "lost", "records", "changes", "contents"] fun C => sp_Array K C) : Cal P w K mg base 8 "enough" ["disks", "lost", "records", "changes", "contents"] (sp_enough K) := ⟨f, fd, fo_enough F C_all_blocks K_Array, hg, F.kp, F.bindsN fun _ _ _ _ _ _ us hl => match us, hl with | [_, _, _, _, _], _ => rfl⟩
def gl_enough__records_contents_lost_changes_disks : List Value → List Value → List Value
  | [], [a0, a1, a2, a3, a4] => [a4, a2, a0, a3, a1]
  | _, _ => []
def gv_enough__records_contents_lost_changes_disks : List V → List V → List V
  | [], [a0, a1, a2, a3, a4] => [a4, a2, a0, a3, a1]
  | _, _ => []
theorem kb_enough__records_contents_lost_changes_disks {f : Addr} {fd : FuncData} (F : FnP K "enough" (top 35) f fd) : KBinds K fd ["disks", "lost", "records", "changes", "contents"] ["records", "contents", "lost", "changes", "disks"] gl_enough__records_contents_lost_changes_disks gv_enough__records_contents_lost_changes_disks := by
  obtain ⟨oc, od, dV, kV, doc, pm, an, cdv, ct, osl, rfl, lk, hcd, hD, hK⟩ := F.ex
  rcases hD with ⟨_, rfl⟩ | ⟨e, _⟩
  · refine ⟨fun s us ws X hl => ?_, fun {vs us zs ws} r1 r2 => ?_⟩
    · match us, ws, hl with
      | [], [a0, a1, a2, a3, a4], _ => exact .of_eq rfl
    · match vs, us, zs, ws, r1, r2 with
      | [], [], [_, _, _, _, _], [_, _, _, _, _], .nil, (.cons r0 (.cons r1 (.cons r2 (.cons r3 (.cons r4 .nil))))) => exact (.cons r4 (.cons r2 (.cons r0 (.cons r3 (.cons r1 .nil)))))
      | _ :: _, _ :: _, _, _, .cons _ _, _ => exact .nil
      | [], [], [], [], .nil, .nil => exact .nil
      | [], [], [_], [_], .nil, (.cons _ .nil) => exact .nil
      | [], [], [_, _], [_, _], .nil, (.cons _ (.cons _ .nil)) => exact .nil
      | [], [], [_, _, _], [_, _, _], .nil, (.cons _ (.cons _ (.cons _ .nil))) => exact .nil
      | [], [], [_, _, _, _], [_, _, _, _], .nil, (.cons _ (.cons _ (.cons _ (.cons _ .nil)))) => exact .nil
      | [], [], _ :: _ :: _ :: _ :: _ :: _ :: _, _ :: _ :: _ :: _ :: _ :: _ :: _, .nil, (.cons _ (.cons _ (.cons _ (.cons _ (.cons _ (.cons _ _)))))) => exact .nil
  · exact absurd rfl e
theorem okK_enough__records_contents_lost_changes_disks {f : Addr} {fd : FuncData} (F : FnP K "enough" (top 35) f fd) (hg : mg "enough" = some (.ref f)) (C_all_blocks : Cal P w K mg base 7 "all_blocks" ["array"] (sp_all_blocks K)) (K_Array : MakC P w K mg base 6 "Array" n_Array ["self", "disks", "lost", "records", "changes", "contents"] fun C => sp_Array K C) : CalK P w K mg base 8 "enough" ["disks", "lost", "records", "changes", "contents"] (sp_enough K) ["records", "contents", "lost", "changes", "disks"] gl_enough__records_contents_lost_changes_disks gv_enough__records_contents_lost_changes_disks := ⟨f, fd, fo_enough F C_all_blocks K_Array, hg, F.kp, kb_enough__records_contents_lost_changes_disks F⟩
def m_count_wishes (need : Int) (records : Int) (changes : Int) (contents : Int) : Mn Unit Int :=
  (mb (mb (mu (m_power contents need)) fun x_100 => mp (x_100 - (1 : Int))) fun others102 =>
  (mb (mp ()) fun z103 =>
  (mb (mb (mc (b62 ((1 : Int) : Int) && b62 ((changes + (1 : Int)) : Int)) (rng ((1 : Int) : Int) (((changes + (1 : Int)) : Int) - ((1 : Int) : Int)).toNat)) fun xs => forP xs ((0 : Int), (1 : Int)) fun a105 (t104 : Int × Int) =>
    (mb (mc (mulOk t104.2 others102) (t104.2 * others102)) fun filled106 =>
    (mb (mb (mb (mu (m_choose records a105)) fun x_107 => mc (mulOk x_107 filled106) (x_107 * filled106)) fun x_110 => mp (t104.1 + x_110)) fun found109 => mp (found109, filled106)))) fun t111 =>
  (mp t111.1))))
abbrev sp_count_wishes (K : PySem.W.Frag) : Sp := Prom (rIm K) (S := Unit) (fun i : Int × Int × Int × Int => [.im (pv K i.1), .im (pv K i.2.1), .im (pv K i.2.2.1), .im (pv K i.2.2.2)]) fun i => m_count_wishes i.1 i.2.1 i.2.2.1 i.2.2.2
theorem len_count_wishes : ∀ vs H Q E, sp_count_wishes K vs H Q E → vs.length = 4 := prom_len (Ret := (rIm K)) (As := fun i : Int × Int × Int × Int => [.im (pv K i.1), .im (pv K i.2.1), .im (pv K i.2.2.1), .im (pv K i.2.2.2)]) (m := fun i => m_count_wishes i.1 i.2.1 i.2.2.1 i.2.2.2) fun _ => rfl
theorem sc_count_wishes : FnScope ["need", "records", "changes", "contents", "others", "found", "filled", "many"] ["need", "records", "changes", "contents"] (defScope (top 36)) := ⟨rfl, rfl, rfl, by decide +kernel, rfl, by decide +kernel, by decide +kernel⟩
theorem fo_count_wishes {f : Addr} {fd : FuncData} (F : FnP K "count_wishes" (top 36) f fd) (b_range : mg "range" = none) (C_power : Cal P w K mg base 1 "power" ["base", "exponent"] (sp_power K)) (C_choose : Cal P w K mg base 1 "choose" ["many", "few"] (sp_choose K)) : FnOk P w K mg base CX0 2 f fd ["need", "records", "changes", "contents"] (sp_count_wishes K) := by
  obtain ⟨f_power, fd_power, G_power, g_power, kp_power, bi_power⟩ := C_power.ex
  obtain ⟨f_choose, fd_choose, G_choose, g_choose, kp_choose, bi_choose⟩ := C_choose.ex
  refine F.ok sc_count_wishes (len_count_wishes (K := K)) (fun cdv A outer s H vs Q E hr h => ?_)
  have hl : vs.length = 4 := len_count_wishes (K := K) vs H Q E h
  match vs, hl, h with
  | [v0, v1, v2, v3], _, h => exact ⟨_, PSs.nox ((pss_cons (ps_set (i := 4) sc_count_wishes.nd rfl (Or.inl rfl) (pe_op op_sub (pe_call G_power (hr.mono (Nat.le_of_ble_eq_true rfl)) rfl g_power kp_power bi_power .nil pass0 (pa_cons (L2.pv 3) (pa_cons (L2.pv 0) pa_nil))) pe_int)) (pss_cons (ps_asg (pe_tup (pa_cons pe_int (pa_cons pe_int pa_nil))) (pg_tup (n := 2) rfl (pgs_cons (pg_name (i := 5) sc_count_wishes.nd rfl (Or.inl rfl)) (pgs_cons (pg_name (i := 6) sc_count_wishes.nd rfl (Or.inl rfl)) pgs_nil)))) (pss_cons (ps_for PassesOwn.never rfl (pi_range2 rfl b_range (pa_cons pe_int (pa_cons (pe_op op_add (L2.pv 2) pe_int) pa_nil))) (pg_name (i := 7) sc_count_wishes.nd rfl (Or.inl rfl)) (pss_cons (ps_set (i := 6) sc_count_wishes.nd rfl (Or.inl rfl) (pe_op op_mulW (L2.pv 6) (L2.pv 4))) (pss_one (ps_aug (i := 5) sc_count_wishes.nd rfl (Or.inl rfl) (pe_op op_mulW (pe_call G_choose (hr.mono (Nat.le_of_ble_eq_true rfl)) rfl g_choose kp_choose bi_choose .nil pass0 (pa_cons (L2.pv 1) (pa_cons (L2.pv 7) pa_nil))) (L2.pv 6)) ip_add)))) (pss_one (ps_ret (L2.pv 5))))))), prom_ok (n := 4) (Ret := (rIm K)) (As := fun i : Int × Int × Int × Int => [.im (pv K i.1), .im (pv K i.2.1), .im (pv K i.2.2.1), .im (pv K i.2.2.2)]) (m := fun i => m_count_wishes i.1 i.2.1 i.2.2.1 i.2.2.2) 4 (fun _ => rfl) rfl (fun (need, records, changes, contents) => (show RN (rIm K) _ (fun (s : Unit) => [.im (pv K need), .im (pv K records), .im (pv K changes), .im (pv K contents), .no, .no, .no, .no]) (m_count_wishes need records changes contents) (fun (s : Unit) => [.no, .no, .no, .no, .no, .no, .no, .no]) from (rn_of (rt_seq (rp_asg (Γ := fun (s : Unit) => [.im (pv K need), .im (pv K records), .im (pv K changes), .im (pv K contents), .no, .no, .no, .no]) (i := 4) (Γ' := fun others102 (s : Unit) => [.im (pv K need), .im (pv K records), .im (pv K changes), .im (pv K contents), .im (pv K others102), .no, .no, .no]) (em_opr (g := fun (u : Int) (v : Int) => (u - v)) (em_of_eo (eo_call0 (i := (contents, need)) (ps := [pv K contents, pv K need]) (fun _ => (ap_cons (ep_var rfl) (ap_cons (ep_var rfl) ap_nil))) rfl)) (fun _ => (ep_int (K := K))) fun _ => o_sub) (fun _ => rfl) fun _ _ => rfl) fun others102 => (rt_seq (rp_asgT (Γ' := fun z103 (s : Unit) => [.im (pv K need), .im (pv K records), .im (pv K changes), .im (pv K contents), .im (pv K others102), .im (pv K ((0 : Int) : Int)), .im (pv K ((1 : Int) : Int)), .no]) [5, 6] (ao_p (fun _ => (ep_int (K := K))) (ao_p (fun _ => (ep_int (K := K))) ao_nil)) (fun _ => asg_ok rfl) (fun _ => rfl) (fun _ => rfl) (Nat.le_of_ble_eq_true rfl) fun _ _ => rfl) fun z103 => (rt_seq (rp_for (ΓL := fun (t104 : Int × Int) (s : Unit) => [.im (pv K need), .im (pv K records), .im (pv K changes), .im (pv K contents), .im (pv K others102), .im (pv K t104.1), .im (pv K t104.2), .no]) (Γx := fun (a105 : Int) (t104 : Int × Int) (s : Unit) => [.im (pv K need), .im (pv K records), .im (pv K changes), .im (pv K contents), .im (pv K others102), .im (pv K t104.1), .im (pv K t104.2), .im (pv K a105)]) (im_rng2 fun _ => (ap_cons (ep_int (K := K)) (ap_cons (ep_op (ep_var rfl) (ep_int (K := K)) o_add) ap_nil))) (fun s => (.cons (.rfl _) (.cons (.rfl _) (.cons (.rfl _) (.cons (.rfl _) (.cons (.rfl _) (.cons (.rfl _) (.cons (.rfl _) (.cons (.rfl _) .nil))))))))) (fun a105 t104 s => (gt_name (Γ := [.im (pv K need), .im (pv K records), .im (pv K changes), .im (pv K contents), .im (pv K others102), .im (pv K t104.1), .im (pv K t104.2), .no]) (i := 7) (Γ' := [.im (pv K need), .im (pv K records), .im (pv K changes), .im (pv K contents), .im (pv K others102), .im (pv K t104.1), .im (pv K t104.2), .im (pv K a105)]) rfl rfl)) fun a105 t104 => (rp_seq (rp_asg (Γ := fun (s : Unit) => [.im (pv K need), .im (pv K records), .im (pv K changes), .im (pv K contents), .im (pv K others102), .im (pv K t104.1), .im (pv K t104.2), .im (pv K a105)]) (i := 6) (Γ' := fun filled106 (s : Unit) => [.im (pv K need), .im (pv K records), .im (pv K changes), .im (pv K contents), .im (pv K others102), .im (pv K t104.1), .im (pv K filled106), .im (pv K a105)]) (em_opC2 (fun _ => (ep_var rfl)) (fun _ => (ep_var rfl)) fun h => o_mulW h) (fun _ => rfl) fun _ _ => rfl) fun filled106 => (rp_post (f := fun found109 => (found109, filled106)) (rp_aug (Γ' := fun found109 (s : Unit) => [.im (pv K need), .im (pv K records), .im (pv K changes), .im (pv K contents), .im (pv K others102), .im (pv K found109), .im (pv K filled106), .im (pv K a105)]) (fun _ => rfl) (em_oprC (g := fun (u : Int) (v : Int) => (u * v)) (c := fun (u : Int) (v : Int) => mulOk u v) (em_of_eo (eo_call0 (i := (records, a105)) (ps := [pv K records, pv K a105]) (fun _ => (ap_cons (ep_var rfl) (ap_cons (ep_var rfl) ap_nil))) rfl)) (fun _ => (ep_var rfl)) fun _ h => (o_mulW h)) (fun _ => rfl) fun _ _ => rfl) fun found109 s => (.cons (.rfl _) (.cons (.rfl _) (.cons (.rfl _) (.cons (.rfl _) (.cons (.rfl _) (.cons (.rfl _) (.cons (.rfl _) (.cons (.no _) .nil))))))))))) fun t111 => (rt_ret (em_pure fun _ => (ep_var rfl)) fun s => (.cons (.no _) (.cons (.no _) (.cons (.no _) (.cons (.no _) (.cons (.no _) (.cons (.no _) (.cons (.no _) (.cons (.rfl _) .nil))))))))))))))) h⟩
theorem ok_count_wishes {f : Addr} {fd : FuncData} (F : FnP K "count_wishes" (top 36) f fd) (hg : mg "count_wishes" = some (.ref f)) (b_range : mg "range" = none) (C_power : Cal P w K mg base 1 "power" ["base", "exponent"] (sp_power K)) (C_choose : Cal P w K mg base 1 "choose" ["many", "few"] (sp_choose K)) : Cal P w K mg base 2 "count_wishes" ["need", "records", "changes", "contents"] (sp_count_wishes K) := ⟨f, fd, fo_count_wishes F b_range C_power C_choose, hg, F.kp, F.bindsN fun _ _ _ _ _ _ us hl => match us, hl with | [_, _, _, _], _ => rfl⟩
def m_lines_allow (blocks : Int) (need : Int) (records : Int) (changes : Int) (contents : Int) : Mn Unit Bool :=
  (mb (mb (mu (m_is_between blocks ((1 : Int) : Int) ((1000 : Int) : Int))) fun b112 => mp (!b112)) fun b => mi b
    mbad
    (mb (mu (m_check_sizes need records changes contents)) fun u_113 =>
  (mb (mb (mb (mb (mp contents) fun x_116 => mb (mb (mc (mulOk need records) (need * records)) fun x_114 => mb (mp ()) fun z115 => mp (x_114, z115)) fun z117 => mp (x_116, z117)) fun z118 => mu (m_power z118.1 z118.2.1)) fun x_119 => mb (mu (m_count_wishes need records changes contents)) fun y120 => mc (mulOk x_119 y120) (x_119 * y120)) fun ordered121 =>
  (mb (mb (mu (m_power contents ((blocks - (1 : Int)) : Int))) fun y123 => mc (mulOk ((2 : Int) * blocks) y123) (((2 : Int) * blocks) * y123)) fun y125 => mp (decide (ordered121 ≤ y125))))))
abbrev sp_lines_allow (K : PySem.W.Frag) : Sp := Prom (rIm K) (S := Unit) (fun i : Int × Int × Int × Int × Int => [.im (pv K i.1), .im (pv K i.2.1), .im (pv K i.2.2.1), .im (pv K i.2.2.2.1), .im (pv K i.2.2.2.2)]) fun i => m_lines_allow i.1 i.2.1 i.2.2.1 i.2.2.2.1 i.2.2.2.2
theorem len_lines_allow : ∀ vs H Q E, sp_lines_allow K vs H Q E → vs.length = 5 := prom_len (Ret := (rIm K)) (As := fun i : Int × Int × Int × Int × Int => [.im (pv K i.1), .im (pv K i.2.1), .im (pv K i.2.2.1), .im (pv K i.2.2.2.1), .im (pv K i.2.2.2.2)]) (m := fun i => m_lines_allow i.1 i.2.1 i.2.2.1 i.2.2.2.1 i.2.2.2.2) fun _ => rfl
theorem sc_lines_allow : FnScope ["blocks", "need", "records", "changes", "contents", "ordered"] ["blocks", "need", "records", "changes", "contents"] (defScope (top 37)) := ⟨rfl, rfl, rfl, by decide +kernel, rfl, by decide +kernel, by decide +kernel⟩
theorem fo_lines_allow {f : Addr} {fd : FuncData} (F : FnP K "lines_allow" (top 37) f fd) (c_MOST_BLOCKS : ∃ t, mg "MOST_BLOCKS" = some (.int 1000 t)) (C_is_between : Cal P w K mg base 2 "is_between" ["value", "least", "most"] (sp_is_between K)) (C_check_sizes : Cal P w K mg base 4 "check_sizes" ["need", "records", "changes", "contents"] (sp_check_sizes K)) (C_power : Cal P w K mg base 1 "power" ["base", "exponent"] (sp_power K)) (C_count_wishes : Cal P w K mg base 2 "count_wishes" ["need", "records", "changes", "contents"] (sp_count_wishes K)) : FnOk P w K mg base CX0 5 f fd ["blocks", "need", "records", "changes", "contents"] (sp_lines_allow K) := by
  obtain ⟨t_MOST_BLOCKS, c_MOST_BLOCKS⟩ := c_MOST_BLOCKS
  obtain ⟨f_is_between, fd_is_between, G_is_between, g_is_between, kp_is_between, bi_is_between⟩ := C_is_between.ex
  obtain ⟨f_check_sizes, fd_check_sizes, G_check_sizes, g_check_sizes, kp_check_sizes, bi_check_sizes⟩ := C_check_sizes.ex
  obtain ⟨f_power, fd_power, G_power, g_power, kp_power, bi_power⟩ := C_power.ex
  obtain ⟨f_count_wishes, fd_count_wishes, G_count_wishes, g_count_wishes, kp_count_wishes, bi_count_wishes⟩ := C_count_wishes.ex
  refine F.ok sc_lines_allow (len_lines_allow (K := K)) (fun cdv A outer s H vs Q E hr h => ?_)
  have hl : vs.length = 5 := len_lines_allow (K := K) vs H Q E h
  match vs, hl, h with
  | [v0, v1, v2, v3, v4], _, h => exact ⟨_, PSs.nox ((pss_cons (ps_if (pt_not (pt_val (pe_call G_is_between (hr.mono (Nat.le_of_ble_eq_true rfl)) rfl g_is_between kp_is_between bi_is_between .nil pass0 (pa_cons (L2.pv 0) (pa_cons pe_int (pa_cons (pe_glob (v := .int 1000) rfl c_MOST_BLOCKS ⟨_, rfl⟩) pa_nil)))))) (pss_one ps_never) pss_nil) (pss_cons (ps_expr (pe_call G_check_sizes (hr.mono (Nat.le_of_ble_eq_true rfl)) rfl g_check_sizes kp_check_sizes bi_check_sizes .nil pass0 (pa_cons (L2.pv 1) (pa_cons (L2.pv 2) (pa_cons (L2.pv 3) (pa_cons (L2.pv 4) pa_nil)))))) (pss_cons (ps_set (i := 5) sc_lines_allow.nd rfl (Or.inl rfl) (pe_op op_mulW (pe_call G_power (hr.mono (Nat.le_of_ble_eq_true rfl)) rfl g_power kp_power bi_power .nil pass0 (pa_cons (L2.pv 4) (pa_cons (pe_op op_mulW (L2.pv 1) (L2.pv 2)) pa_nil))) (pe_call G_count_wishes (hr.mono (Nat.le_of_ble_eq_true rfl)) rfl g_count_wishes kp_count_wishes bi_count_wishes .nil pass0 (pa_cons (L2.pv 1) (pa_cons (L2.pv 2) (pa_cons (L2.pv 3) (pa_cons (L2.pv 4) pa_nil))))))) (pss_one (ps_ret (pe_cmpR op_le (L2.pv 5) (pe_op op_mulW (pe_op op_mul pe_int (L2.pv 0)) (pe_call G_power (hr.mono (Nat.le_of_ble_eq_true rfl)) rfl g_power kp_power bi_power .nil pass0 (pa_cons (L2.pv 4) (pa_cons (pe_op op_sub (L2.pv 0) pe_int) pa_nil)))) (nomark _)))))))), prom_ok (n := 5) (Ret := (rIm K)) (As := fun i : Int × Int × Int × Int × Int => [.im (pv K i.1), .im (pv K i.2.1), .im (pv K i.2.2.1), .im (pv K i.2.2.2.1), .im (pv K i.2.2.2.2)]) (m := fun i => m_lines_allow i.1 i.2.1 i.2.2.1 i.2.2.2.1 i.2.2.2.2) 1 (fun _ => rfl) rfl (fun (blocks, need, records, changes, contents) => (show RN (rIm K) _ (fun (s : Unit) => [.im (pv K blocks), .im (pv K need), .im (pv K records), .im (pv K changes), .im (pv K contents), .no]) (m_lines_allow blocks need records changes contents) (fun (s : Unit) => [.no, .no, .no, .no, .no, .no]) from (rn_of (rt_ifr (tm_not (tm_B (em_of_eo (eo_call0 (i := (blocks, ((1 : Int) : Int), ((1000 : Int) : Int))) (ps := [pv K blocks, pv K ((1 : Int) : Int), pv K ((1000 : Int) : Int)]) (fun _ => (ap_cons (ep_var rfl) (ap_cons (ep_int (K := K)) (ap_cons (ep_int (K := K)) ap_nil)))) rfl)))) rt_never (rt_seq (rp_drop (em_of_eo (eo_call0 (i := (need, records, changes, contents)) (ps := [pv K need, pv K records, pv K changes, pv K contents]) (fun _ => (ap_cons (ep_var rfl) (ap_cons (ep_var rfl) (ap_cons (ep_var rfl) (ap_cons (ep_var rfl) ap_nil))))) rfl))) fun u_113 => (rt_seq (rp_asg (Γ := fun (s : Unit) => [.im (pv K blocks), .im (pv K need), .im (pv K records), .im (pv K changes), .im (pv K contents), .no]) (i := 5) (Γ' := fun ordered121 (s : Unit) => [.im (pv K blocks), .im (pv K need), .im (pv K records), .im (pv K changes), .im (pv K contents), .im (pv K ordered121)]) (em_opC (g := fun (u : Int) (v : Int) => (u * v)) (c := fun (u : Int) (v : Int) => mulOk u v) (em_of_eo (eo_call0M (f := fun (z118 : Int × Int × Unit) => (z118.1, z118.2.1)) (am_cons (em_pure fun _ => (ep_var rfl)) (am_cons (em_opC2 (fun _ => (ep_var rfl)) (fun _ => (ep_var rfl)) fun h => o_mulW h) am_nil)) fun _ => rfl)) (em_of_eo (eo_call0 (i := (need, records, changes, contents)) (ps := [pv K need, pv K records, pv K changes, pv K contents]) (fun _ => (ap_cons (ep_var rfl) (ap_cons (ep_var rfl) (ap_cons (ep_var rfl) (ap_cons (ep_var rfl) ap_nil))))) rfl)) fun _ _ h => (o_mulW h)) (fun _ => rfl) fun _ _ => rfl) fun ordered121 => (rt_ret (em_opl (g := fun (u : Int) (v : Int) => decide (u ≤ v)) (fun _ => (ep_var rfl)) (em_oplC (g := fun (u : Int) (v : Int) => (u * v)) (c := fun (u : Int) (v : Int) => mulOk u v) (fun _ => (ep_op (ep_int (K := K)) (ep_var rfl) (o_mulL rfl))) (em_of_eo (eo_call0 (i := (contents, ((blocks - (1 : Int)) : Int))) (ps := [pv K contents, pv K ((blocks - (1 : Int)) : Int)]) (fun _ => (ap_cons (ep_var rfl) (ap_cons (ep_op (ep_var rfl) (ep_int (K := K)) o_sub) ap_nil))) rfl)) fun _ h => (o_mulW h)) fun _ => o_le) fun s => (.cons (.no _) (.cons (.no _) (.cons (.no _) (.cons (.no _) (.cons (.no _) (.cons (.no _) .nil))))))))))))) h⟩
theorem ok_lines_allow {f : Addr} {fd : FuncData} (F : FnP K "lines_allow" (top 37) f fd) (hg : mg "lines_allow" = some (.ref f)) (c_MOST_BLOCKS : ∃ t, mg "MOST_BLOCKS" = some (.int 1000 t)) (C_is_between : Cal P w K mg base 2 "is_between" ["value", "least", "most"] (sp_is_between K)) (C_check_sizes : Cal P w K mg base 4 "check_sizes" ["need", "records", "changes", "contents"] (sp_check_sizes K)) (C_power : Cal P w K mg base 1 "power" ["base", "exponent"] (sp_power K)) (C_count_wishes : Cal P w K mg base 2 "count_wishes" ["need", "records", "changes", "contents"] (sp_count_wishes K)) : Cal P w K mg base 5 "lines_allow" ["blocks", "need", "records", "changes", "contents"] (sp_lines_allow K) := ⟨f, fd, fo_lines_allow F c_MOST_BLOCKS C_is_between C_check_sizes C_power C_count_wishes, hg, F.kp, F.bindsN fun _ _ _ _ _ _ us hl => match us, hl with | [_, _, _, _, _], _ => rfl⟩
def gl_lines_allow__records_contents_need_changes_blocks : List Value → List Value → List Value
  | [], [a0, a1, a2, a3, a4] => [a4, a2, a0, a3, a1]
  | _, _ => []
def gv_lines_allow__records_contents_need_changes_blocks : List V → List V → List V
  | [], [a0, a1, a2, a3, a4] => [a4, a2, a0, a3, a1]
  | _, _ => []
theorem kb_lines_allow__records_contents_need_changes_blocks {f : Addr} {fd : FuncData} (F : FnP K "lines_allow" (top 37) f fd) : KBinds K fd ["blocks", "need", "records", "changes", "contents"] ["records", "contents", "need", "changes", "blocks"] gl_lines_allow__records_contents_need_changes_blocks gv_lines_allow__records_contents_need_changes_blocks := by
  obtain ⟨oc, od, dV, kV, doc, pm, an, cdv, ct, osl, rfl, lk, hcd, hD, hK⟩ := F.ex
  rcases hD with ⟨_, rfl⟩ | ⟨e, _⟩
  · refine ⟨fun s us ws X hl => ?_, fun {vs us zs ws} r1 r2 => ?_⟩
    · match us, ws, hl with
      | [], [a0, a1, a2, a3, a4], _ => exact .of_eq rfl
    · match vs, us, zs, ws, r1, r2 with
      | [], [], [_, _, _, _, _], [_, _, _, _, _], .nil, (.cons r0 (.cons r1 (.cons r2 (.cons r3 (.cons r4 .nil))))) => exact (.cons r4 (.cons r2 (.cons r0 (.cons r3 (.cons r1 .nil)))))
      | _ :: _, _ :: _, _, _, .cons _ _, _ => exact .nil
      | [], [], [], [], .nil, .nil => exact .nil
      | [], [], [_], [_], .nil, (.cons _ .nil) => exact .nil
      | [], [], [_, _], [_, _], .nil, (.cons _ (.cons _ .nil)) => exact .nil
      | [], [], [_, _, _], [_, _, _], .nil, (.cons _ (.cons _ (.cons _ .nil))) => exact .nil
      | [], [], [_, _, _, _], [_, _, _, _], .nil, (.cons _ (.cons _ (.cons _ (.cons _ .nil)))) => exact .nil
      | [], [], _ :: _ :: _ :: _ :: _ :: _ :: _, _ :: _ :: _ :: _ :: _ :: _ :: _, .nil, (.cons _ (.cons _ (.cons _ (.cons _ (.cons _ (.cons _ _)))))) => exact .nil
  · exact absurd rfl e
theorem okK_lines_allow__records_contents_need_changes_blocks {f : Addr} {fd : FuncData} (F : FnP K "lines_allow" (top 37) f fd) (hg : mg "lines_allow" = some (.ref f)) (c_MOST_BLOCKS : ∃ t, mg "MOST_BLOCKS" = some (.int 1000 t)) (C_is_between : Cal P w K mg base 2 "is_between" ["value", "least", "most"] (sp_is_between K)) (C_check_sizes : Cal P w K mg base 4 "check_sizes" ["need", "records", "changes", "contents"] (sp_check_sizes K)) (C_power : Cal P w K mg base 1 "power" ["base", "exponent"] (sp_power K)) (C_count_wishes : Cal P w K mg base 2 "count_wishes" ["need", "records", "changes", "contents"] (sp_count_wishes K)) : CalK P w K mg base 5 "lines_allow" ["blocks", "need", "records", "changes", "contents"] (sp_lines_allow K) ["records", "contents", "need", "changes", "blocks"] gl_lines_allow__records_contents_need_changes_blocks gv_lines_allow__records_contents_need_changes_blocks := ⟨f, fd, fo_lines_allow F c_MOST_BLOCKS C_is_between C_check_sizes C_power C_count_wishes, hg, F.kp, kb_lines_allow__records_contents_need_changes_blocks F⟩
def m_least_symbols (need : Int) (records : Int) (changes : Int) (contents : Int) : Mn Unit Int :=
  (mb (mb (mu (m_choose records changes)) fun x_129 => mb (mb (mc (mulOk need (records + changes)) (need * (records + changes))) fun x_127 => mb (mp ()) fun z128 => mp (x_127, z128)) fun z130 => mp (x_129, z130)) fun z126 =>
  (mb (mp ()) fun z131 =>
  (mb (whP 64 ((0 : Int), (1 : Int)) (fun (t132 : Int × Int) => (mb (mc (mulOk ((2 : Int) * ((z126.2.1 + t132.1) + (1 : Int))) t132.2) (((2 : Int) * ((z126.2.1 + t132.1) + (1 : Int))) * t132.2)) fun y134 => mp (decide (y134 < z126.1)))) fun (t132 : Int × Int) =>
    (mb (mb (mc (mulOk t132.2 contents) (t132.2 * contents)) fun x_136 => mb (mp ()) fun z137 => mp (x_136, z137)) fun z135 => mp ((t132.1 + (1 : Int)), z135.1))) fun t138 =>
  (mp t138.1))))
abbrev sp_least_symbols (K : PySem.W.Frag) : Sp := Prom (rIm K) (S := Unit) (fun i : Int × Int × Int × Int => [.im (pv K i.1), .im (pv K i.2.1), .im (pv K i.2.2.1), .im (pv K i.2.2.2)]) fun i => m_least_symbols i.1 i.2.1 i.2.2.1 i.2.2.2
theorem len_least_symbols : ∀ vs H Q E, sp_least_symbols K vs H Q E → vs.length = 4 := prom_len (Ret := (rIm K)) (As := fun i : Int × Int × Int × Int => [.im (pv K i.1), .im (pv K i.2.1), .im (pv K i.2.2.1), .im (pv K i.2.2.2)]) (m := fun i => m_least_symbols i.1 i.2.1 i.2.2.1 i.2.2.2) fun _ => rfl
theorem sc_least_symbols : FnScope ["need", "records", "changes", "contents", "lots", "row", "symbols", "words"] ["need", "records", "changes", "contents"] (defScope (top 38)) := ⟨rfl, rfl, rfl, by decide +kernel, rfl, by decide +kernel, by decide +kernel⟩
theorem fo_least_symbols {f : Addr} {fd : FuncData} (F : FnP K "least_symbols" (top 38) f fd) (C_choose : Cal P w K mg base 1 "choose" ["many", "few"] (sp_choose K)) : FnOk P w K mg base CX0 2 f fd ["need", "records", "changes", "contents"] (sp_least_symbols K) := by
  obtain ⟨f_choose, fd_choose, G_choose, g_choose, kp_choose, bi_choose⟩ := C_choose.ex
  refine F.ok sc_least_symbols (len_least_symbols (K := K)) (fun cdv A outer s H vs Q E hr h => ?_)
  have hl : vs.length = 4 := len_least_symbols (K := K) vs H Q E h
  match vs, hl, h with
  | [v0, v1, v2, v3], _, h => exact ⟨_, PSs.nox ((pss_cons (ps_par (i := 4) (j := 5) rfl sc_least_symbols.nd rfl rfl (by decide) rfl rfl (pa_cons (pe_call G_choose (hr.mono (Nat.le_of_ble_eq_true rfl)) rfl g_choose kp_choose bi_choose .nil pass0 (pa_cons (L2.pv 1) (pa_cons (L2.pv 2) pa_nil))) (pa_cons (pe_op op_mulW (L2.pv 0) (pe_op op_add (L2.pv 1) (L2.pv 2))) pa_nil)) rfl) (pss_cons (ps_asg (pe_tup (pa_cons pe_int (pa_cons pe_int pa_nil))) (pg_tup (n := 2) rfl (pgs_cons (pg_name (i := 6) sc_least_symbols.nd rfl (Or.inl rfl)) (pgs_cons (pg_name (i := 7) sc_least_symbols.nd rfl (Or.inl rfl)) pgs_nil)))) (pss_cons (ps_while PassesOwn.never (pt_cmpR op_gt (L2.pv 4) (pe_op op_mulW (pe_op op_mul pe_int (pe_op op_add (pe_op op_add (L2.pv 5) (L2.pv 6)) pe_int)) (L2.pv 7)) (nomark _)) (pss_one (ps_par (i := 6) (j := 7) rfl sc_least_symbols.nd rfl rfl (by decide) rfl rfl (pa_cons (pe_op op_add (L2.pv 6) pe_int) (pa_cons (pe_op op_mulW (L2.pv 7) (L2.pv 3)) pa_nil)) rfl))) (pss_one (ps_ret (L2.pv 6))))))), prom_ok (n := 4) (Ret := (rIm K)) (As := fun i : Int × Int × Int × Int => [.im (pv K i.1), .im (pv K i.2.1), .im (pv K i.2.2.1), .im (pv K i.2.2.2)]) (m := fun i => m_least_symbols i.1 i.2.1 i.2.2.1 i.2.2.2) 4 (fun _ => rfl) rfl (fun (need, records, changes, contents) => (show RN (rIm K) _ (fun (s : Unit) => [.im (pv K need), .im (pv K records), .im (pv K changes), .im (pv K contents), .no, .no, .no, .no]) (m_least_symbols need records changes contents) (fun (s : Unit) => [.no, .no, .no, .no, .no, .no, .no, .no]) from (rn_of (rt_seq (rp_asg2 (Γ' := fun z126 (s : Unit) => [.im (pv K need), .im (pv K records), .im (pv K changes), .im (pv K contents), .im (pv K z126.1), .im (pv K z126.2.1), .no, .no]) (ao_m (em_of_eo (eo_call0 (i := (records, changes)) (ps := [pv K records, pv K changes]) (fun _ => (ap_cons (ep_var rfl) (ap_cons (ep_var rfl) ap_nil))) rfl)) (ao_m (em_opC2 (fun _ => (ep_var rfl)) (fun _ => (ep_op (ep_var rfl) (ep_var rfl) o_add)) fun h => o_mulW h) ao_nil)) (fun _ => asg_ok rfl) (fun _ => rfl) (fun _ => rfl) fun _ _ => rfl) fun z126 => (rt_seq (rp_asgT (Γ' := fun z131 (s : Unit) => [.im (pv K need), .im (pv K records), .im (pv K changes), .im (pv K contents), .im (pv K z126.1), .im (pv K z126.2.1), .im (pv K ((0 : Int) : Int)), .im (pv K ((1 : Int) : Int))]) [6, 7] (ao_p (fun _ => (ep_int (K := K))) (ao_p (fun _ => (ep_int (K := K))) ao_nil)) (fun _ => asg_ok rfl) (fun _ => rfl) (fun _ => rfl) (Nat.le_of_ble_eq_true rfl) fun _ _ => rfl) fun z131 => (rt_seq (rp_while (ΓL := fun (t132 : Int × Int) (s : Unit) => [.im (pv K need), .im (pv K records), .im (pv K changes), .im (pv K contents), .im (pv K z126.1), .im (pv K z126.2.1), .im (pv K t132.1), .im (pv K t132.2)]) (fun s => (.cons (.rfl _) (.cons (.rfl _) (.cons (.rfl _) (.cons (.rfl _) (.cons (.rfl _) (.cons (.rfl _) (.cons (.rfl _) (.cons (.rfl _) .nil))))))))) (fun t132 => (tm_test (em_opl (g := fun (u : Int) (v : Int) => decide (v < u)) (fun _ => (ep_var rfl)) (em_opC2 (fun _ => (ep_op (ep_int (K := K)) (ep_op (ep_op (ep_var rfl) (ep_var rfl) o_add) (ep_int (K := K)) o_add) (o_mulL rfl))) (fun _ => (ep_var rfl)) fun h => o_mulW h) fun _ => o_gt))) fun t132 => (rp_post (f := fun z135 => ((t132.1 + (1 : Int)), z135.1)) (rp_asg2 (Γ' := fun z135 (s : Unit) => [.im (pv K need), .im (pv K records), .im (pv K changes), .im (pv K contents), .im (pv K z126.1), .im (pv K z126.2.1), .im (pv K ((t132.1 + (1 : Int)) : Int)), .im (pv K z135.1)]) (ao_p (fun _ => (ep_op (ep_var rfl) (ep_int (K := K)) o_add)) (ao_m (em_opC2 (fun _ => (ep_var rfl)) (fun _ => (ep_var rfl)) fun h => o_mulW h) ao_nil)) (fun _ => asg_ok rfl) (fun _ => rfl) (fun _ => rfl) fun _ _ => rfl) fun z135 s => (.cons (.rfl _) (.cons (.rfl _) (.cons (.rfl _) (.cons (.rfl _) (.cons (.rfl _) (.cons (.rfl _) (.cons (.rfl _) (.cons (.rfl _) .nil)))))))))) fun t138 => (rt_ret (em_pure fun _ => (ep_var rfl)) fun s => (.cons (.no _) (.cons (.no _) (.cons (.no _) (.cons (.no _) (.cons (.no _) (.cons (.no _) (.cons (.no _) (.cons (.no _) .nil))))))))))))))) h⟩
theorem ok_least_symbols {f : Addr} {fd : FuncData} (F : FnP K "least_symbols" (top 38) f fd) (hg : mg "least_symbols" = some (.ref f)) (C_choose : Cal P w K mg base 1 "choose" ["many", "few"] (sp_choose K)) : Cal P w K mg base 2 "least_symbols" ["need", "records", "changes", "contents"] (sp_least_symbols K) := ⟨f, fd, fo_least_symbols F C_choose, hg, F.kp, F.bindsN fun _ _ _ _ _ _ us hl => match us, hl with | [_, _, _, _], _ => rfl⟩
def m_heads_needed (need : Int) (lost : Int) (records : Int) (changes : Int) (contents : Int) : Mn Unit Int :=
  (mb (mb (mu (m_choose records changes)) fun x_142 => mb (mb (mc (mulOk need (records + changes)) (need * (records + changes))) fun x_140 => mb (mp ()) fun z141 => mp (x_140, z141)) fun z143 => mp (x_142, z143)) fun z139 =>
  (mb (mp (decide (z139.1 = (1 : Int)))) fun b => mi b
    (mp ((cond (decide (((2 : Int) * z139.2.1) < contents) && decide ((7 : Int) ≤ contents)) (lost + (1 : Int)) (0 : Int)) : Int))
    (mb (mb (mu (m_power contents need)) fun x_144 => mb (mc (mulOk changes z139.1) (changes * z139.1)) fun y145 => mp (decide (x_144 ≤ y145))) fun b => mi b
    (mp ((0 : Int) : Int))
    (mb (mu (m_least_symbols need records changes contents)) fun symbols146 =>
  (mb (mp (decide ((0 : Int) < symbols146))) fun b => mi b
    (mu (m_spread ((symbols146 + (1 : Int)) : Int) need lost))
    (mb (mb (mc (mulOk (z139.1 - (1 : Int)) contents) ((z139.1 - (1 : Int)) * contents)) fun x_147 => mp (decide (((2 : Int) * z139.2.1) ≤ x_147))) fun b149 => mi b149 (mp ((lost + (1 : Int)) : Int)) (mp ((0 : Int) : Int))))))))
abbrev sp_heads_needed (K : PySem.W.Frag) : Sp := Prom (rIm K) (S := Unit) (fun i : Int × Int × Int × Int × Int => [.im (pv K i.1), .im (pv K i.2.1), .im (pv K i.2.2.1), .im (pv K i.2.2.2.1), .im (pv K i.2.2.2.2)]) fun i => m_heads_needed i.1 i.2.1 i.2.2.1 i.2.2.2.1 i.2.2.2.2
theorem len_heads_needed : ∀ vs H Q E, sp_heads_needed K vs H Q E → vs.length = 5 := prom_len (Ret := (rIm K)) (As := fun i : Int × Int × Int × Int × Int => [.im (pv K i.1), .im (pv K i.2.1), .im (pv K i.2.2.1), .im (pv K i.2.2.2.1), .im (pv K i.2.2.2.2)]) (m := fun i => m_heads_needed i.1 i.2.1 i.2.2.1 i.2.2.2.1 i.2.2.2.2) fun _ => rfl
theorem sc_heads_needed : FnScope ["need", "lost", "records", "changes", "contents", "lots", "row", "symbols"] ["need", "lost", "records", "changes", "contents"] (defScope (top 39)) := ⟨rfl, rfl, rfl, by decide +kernel, rfl, by decide +kernel, by decide +kernel⟩
theorem fo_heads_needed {f : Addr} {fd : FuncData} (F : FnP K "heads_needed" (top 39) f fd) (C_choose : Cal P w K mg base 1 "choose" ["many", "few"] (sp_choose K)) (C_power : Cal P w K mg base 1 "power" ["base", "exponent"] (sp_power K)) (C_least_symbols : Cal P w K mg base 2 "least_symbols" ["need", "records", "changes", "contents"] (sp_least_symbols K)) (C_spread : Cal P w K mg base 1 "spread" ["held", "need", "lost"] (sp_spread K)) : FnOk P w K mg base CX0 3 f fd ["need", "lost", "records", "changes", "contents"] (sp_heads_needed K) := by
  obtain ⟨f_choose, fd_choose, G_choose, g_choose, kp_choose, bi_choose⟩ := C_choose.ex
  obtain ⟨f_power, fd_power, G_power, g_power, kp_power, bi_power⟩ := C_power.ex
  obtain ⟨f_least_symbols, fd_least_symbols, G_least_symbols, g_least_symbols, kp_least_symbols, bi_least_symbols⟩ := C_least_symbols.ex
  obtain ⟨f_spread, fd_spread, G_spread, g_spread, kp_spread, bi_spread⟩ := C_spread.ex
  refine F.ok sc_heads_needed (len_heads_needed (K := K)) (fun cdv A outer s H vs Q E hr h => ?_)
  have hl : vs.length = 5 := len_heads_needed (K := K) vs H Q E h
  match vs, hl, h with
  | [v0, v1, v2, v3, v4], _, h => exact ⟨_, PSs.nox ((pss_cons (ps_par (i := 5) (j := 6) rfl sc_heads_needed.nd rfl rfl (by decide) rfl rfl (pa_cons (pe_call G_choose (hr.mono (Nat.le_of_ble_eq_true rfl)) rfl g_choose kp_choose bi_choose .nil pass0 (pa_cons (L2.pv 2) (pa_cons (L2.pv 3) pa_nil))) (pa_cons (pe_op op_mulW (L2.pv 0) (pe_op op_add (L2.pv 2) (L2.pv 3))) pa_nil)) rfl) (pss_cons (ps_if (pt_cmpR op_eq (L2.pv 5) pe_int (nomark _)) (pss_one (ps_ret (pe_ifExp (PW.pt (pw_and (pt_cmpR op_gt (L2.pv 4) (pe_op op_mul pe_int (L2.pv 6)) (nomark _)) (pw_and1 (pt_cmpR op_ge (L2.pv 4) pe_int (nomark _))))) (pe_op op_add (L2.pv 1) pe_int) pe_int))) pss_nil) (pss_cons (ps_if (pt_cmpR op_le (pe_call G_power (hr.mono (Nat.le_of_ble_eq_true rfl)) rfl g_power kp_power bi_power .nil pass0 (pa_cons (L2.pv 4) (pa_cons (L2.pv 0) pa_nil))) (pe_op op_mulW (L2.pv 3) (L2.pv 5)) (nomark _)) (pss_one (ps_ret pe_int)) pss_nil) (pss_cons (ps_set (i := 7) sc_heads_needed.nd rfl (Or.inl rfl) (pe_call G_least_symbols (hr.mono (Nat.le_of_ble_eq_true rfl)) rfl g_least_symbols kp_least_symbols bi_least_symbols .nil pass0 (pa_cons (L2.pv 0) (pa_cons (L2.pv 2) (pa_cons (L2.pv 3) (pa_cons (L2.pv 4) pa_nil)))))) (pss_cons (ps_if (pt_cmpR op_gt (L2.pv 7) pe_int (nomark _)) (pss_one (ps_ret (pe_call G_spread (hr.mono (Nat.le_of_ble_eq_true rfl)) rfl g_spread kp_spread bi_spread .nil pass0 (pa_cons (pe_op op_add (L2.pv 7) pe_int) (pa_cons (L2.pv 0) (pa_cons (L2.pv 1) pa_nil)))))) pss_nil) (pss_one (ps_ret (pe_ifExp (pt_cmpR op_ge (pe_op op_mulW (pe_op op_sub (L2.pv 5) pe_int) (L2.pv 4)) (pe_op op_mul pe_int (L2.pv 6)) (nomark _)) (pe_op op_add (L2.pv 1) pe_int) pe_int))))))))), prom_ok (n := 5) (Ret := (rIm K)) (As := fun i : Int × Int × Int × Int × Int => [.im (pv K i.1), .im (pv K i.2.1), .im (pv K i.2.2.1), .im (pv K i.2.2.2.1), .im (pv K i.2.2.2.2)]) (m := fun i => m_heads_needed i.1 i.2.1 i.2.2.1 i.2.2.2.1 i.2.2.2.2) 3 (fun _ => rfl) rfl (fun (need, lost, records, changes, contents) => (show RN (rIm K) _ (fun (s : Unit) => [.im (pv K need), .im (pv K lost), .im (pv K records), .im (pv K changes), .im (pv K contents), .no, .no, .no]) (m_heads_needed need lost records changes contents) (fun (s : Unit) => [.no, .no, .no, .no, .no, .no, .no, .no]) from (rn_of (rt_seq (rp_asg2 (Γ' := fun z139 (s : Unit) => [.im (pv K need), .im (pv K lost), .im (pv K records), .im (pv K changes), .im (pv K contents), .im (pv K z139.1), .im (pv K z139.2.1), .no]) (ao_m (em_of_eo (eo_call0 (i := (records, changes)) (ps := [pv K records, pv K changes]) (fun _ => (ap_cons (ep_var rfl) (ap_cons (ep_var rfl) ap_nil))) rfl)) (ao_m (em_opC2 (fun _ => (ep_var rfl)) (fun _ => (ep_op (ep_var rfl) (ep_var rfl) o_add)) fun h => o_mulW h) ao_nil)) (fun _ => asg_ok rfl) (fun _ => rfl) (fun _ => rfl) fun _ _ => rfl) fun z139 => (rt_ifr (tm_pure fun _ => (tp_test (ep_op (ep_var rfl) (ep_int (K := K)) o_eq))) (rt_ret (em_pure fun _ => (ep_if (tp_and (tp_test (ep_op (ep_var rfl) (ep_op (ep_int (K := K)) (ep_var rfl) (o_mulL rfl)) o_gt)) fun _ => (tp_test (ep_op (ep_var rfl) (ep_int (K := K)) o_ge))) (fun _ => (ep_op (ep_var rfl) (ep_int (K := K)) o_add)) fun _ => (ep_int (K := K)))) fun s => (.cons (.no _) (.cons (.no _) (.cons (.no _) (.cons (.no _) (.cons (.no _) (.cons (.no _) (.cons (.no _) (.cons (.rfl _) .nil))))))))) (rt_ifr (tm_test (em_op (g := fun (u : Int) (v : Int) => decide (u ≤ v)) (em_of_eo (eo_call0 (i := (contents, need)) (ps := [pv K contents, pv K need]) (fun _ => (ap_cons (ep_var rfl) (ap_cons (ep_var rfl) ap_nil))) rfl)) (em_opC2 (fun _ => (ep_var rfl)) (fun _ => (ep_var rfl)) fun h => o_mulW h) fun _ _ => o_le)) (rt_ret (em_pure fun _ => (ep_int (K := K))) fun s => (.cons (.no _) (.cons (.no _) (.cons (.no _) (.cons (.no _) (.cons (.no _) (.cons (.no _) (.cons (.no _) (.cons (.rfl _) .nil))))))))) (rt_seq (rp_asg (Γ := fun (s : Unit) => [.im (pv K need), .im (pv K lost), .im (pv K records), .im (pv K changes), .im (pv K contents), .im (pv K z139.1), .im (pv K z139.2.1), .no]) (i := 7) (Γ' := fun symbols146 (s : Unit) => [.im (pv K need), .im (pv K lost), .im (pv K records), .im (pv K changes), .im (pv K contents), .im (pv K z139.1), .im (pv K z139.2.1), .im (pv K symbols146)]) (em_of_eo (eo_call0 (i := (need, records, changes, contents)) (ps := [pv K need, pv K records, pv K changes, pv K contents]) (fun _ => (ap_cons (ep_var rfl) (ap_cons (ep_var rfl) (ap_cons (ep_var rfl) (ap_cons (ep_var rfl) ap_nil))))) rfl)) (fun _ => rfl) fun _ _ => rfl) fun symbols146 => (rt_ifr (tm_pure fun _ => (tp_test (ep_op (ep_var rfl) (ep_int (K := K)) o_gt))) (rt_ret (em_of_eo (eo_call0 (i := (((symbols146 + (1 : Int)) : Int), need, lost)) (ps := [pv K ((symbols146 + (1 : Int)) : Int), pv K need, pv K lost]) (fun _ => (ap_cons (ep_op (ep_var rfl) (ep_int (K := K)) o_add) (ap_cons (ep_var rfl) (ap_cons (ep_var rfl) ap_nil)))) rfl)) fun s => (.cons (.no _) (.cons (.no _) (.cons (.no _) (.cons (.no _) (.cons (.no _) (.cons (.no _) (.cons (.no _) (.cons (.no _) .nil))))))))) (rt_ret (em_if (tm_test (em_opr (g := fun (u : Int) (v : Int) => decide (v ≤ u)) (em_opC2 (fun _ => (ep_op (ep_var rfl) (ep_int (K := K)) o_sub)) (fun _ => (ep_var rfl)) fun h => o_mulW h) (fun _ => (ep_op (ep_int (K := K)) (ep_var rfl) (o_mulL rfl))) fun _ => o_ge)) (em_pure fun _ => (ep_op (ep_var rfl) (ep_int (K := K)) o_add)) (em_pure fun _ => (ep_int (K := K)))) fun s => (.cons (.no _) (.cons (.no _) (.cons (.no _) (.cons (.no _) (.cons (.no _) (.cons (.no _) (.cons (.no _) (.cons (.no _) .nil))))))))))))))))) h⟩
theorem ok_heads_needed {f : Addr} {fd : FuncData} (F : FnP K "heads_needed" (top 39) f fd) (hg : mg "heads_needed" = some (.ref f)) (C_choose : Cal P w K mg base 1 "choose" ["many", "few"] (sp_choose K)) (C_power : Cal P w K mg base 1 "power" ["base", "exponent"] (sp_power K)) (C_least_symbols : Cal P w K mg base 2 "least_symbols" ["need", "records", "changes", "contents"] (sp_least_symbols K)) (C_spread : Cal P w K mg base 1 "spread" ["held", "need", "lost"] (sp_spread K)) : Cal P w K mg base 3 "heads_needed" ["need", "lost", "records", "changes", "contents"] (sp_heads_needed K) := ⟨f, fd, fo_heads_needed F C_choose C_power C_least_symbols C_spread, hg, F.kp, F.bindsN fun _ _ _ _ _ _ us hl => match us, hl with | [_, _, _, _, _], _ => rfl⟩
def m_least_told (disks : Int) (lost : Int) (records : Int) (changes : Int) (contents : Int) : Mn Unit (Option Int) :=
  (mb (mu (m_check_shape disks lost records changes)) fun u_150 =>
  (mb (mu (m_check_contents contents)) fun u_151 =>
  (mb (mu (m_heads_needed ((disks - lost) : Int) lost records changes contents)) fun heads152 =>
  (mb (mp (decide ((0 : Int) < heads152))) fun b155 => mi b155 (mb (mb (mc (mulOk disks (records + changes)) (disks * (records + changes))) fun x_153 => mp (x_153 + heads152)) fun x => mp (some x)) (mp ((none : (Option Int)) : (Option Int)))))))
abbrev sp_least_told (K : PySem.W.Frag) : Sp := Prom (rIm K) (S := Unit) (fun i : Int × Int × Int × Int × Int => [.im (pv K i.1), .im (pv K i.2.1), .im (pv K i.2.2.1), .im (pv K i.2.2.2.1), .im (pv K i.2.2.2.2)]) fun i => m_least_told i.1 i.2.1 i.2.2.1 i.2.2.2.1 i.2.2.2.2
theorem len_least_told : ∀ vs H Q E, sp_least_told K vs H Q E → vs.length = 5 := prom_len (Ret := (rIm K)) (As := fun i : Int × Int × Int × Int × Int => [.im (pv K i.1), .im (pv K i.2.1), .im (pv K i.2.2.1), .im (pv K i.2.2.2.1), .im (pv K i.2.2.2.2)]) (m := fun i => m_least_told i.1 i.2.1 i.2.2.1 i.2.2.2.1 i.2.2.2.2) fun _ => rfl
theorem sc_least_told : FnScope ["disks", "lost", "records", "changes", "contents", "heads"] ["disks", "lost", "records", "changes", "contents"] (defScope (top 40)) := ⟨rfl, rfl, rfl, by decide +kernel, rfl, by decide +kernel, by decide +kernel⟩
theorem fo_least_told {f : Addr} {fd : FuncData} (F : FnP K "least_told" (top 40) f fd) (C_check_shape : Cal P w K mg base 3 "check_shape" ["disks", "lost", "records", "changes"] (sp_check_shape K)) (C_check_contents : Cal P w K mg base 3 "check_contents" ["contents"] (sp_check_contents K)) (C_heads_needed : Cal P w K mg base 3 "heads_needed" ["need", "lost", "records", "changes", "contents"] (sp_heads_needed K)) : FnOk P w K mg base CX0 4 f fd ["disks", "lost", "records", "changes", "contents"] (sp_least_told K) := by
  obtain ⟨f_check_shape, fd_check_shape, G_check_shape, g_check_shape, kp_check_shape, bi_check_shape⟩ := C_check_shape.ex
  obtain ⟨f_check_contents, fd_check_contents, G_check_contents, g_check_contents, kp_check_contents, bi_check_contents⟩ := C_check_contents.ex
  obtain ⟨f_heads_needed, fd_heads_needed, G_heads_needed, g_heads_needed, kp_heads_needed, bi_heads_needed⟩ := C_heads_needed.ex
  refine F.ok sc_least_told (len_least_told (K := K)) (fun cdv A outer s H vs Q E hr h => ?_)
  have hl : vs.length = 5 := len_least_told (K := K) vs H Q E h
  match vs, hl, h with
  | [v0, v1, v2, v3, v4], _, h => exact ⟨_, PSs.nox ((pss_cons (ps_expr (pe_call G_check_shape (hr.mono (Nat.le_of_ble_eq_true rfl)) rfl g_check_shape kp_check_shape bi_check_shape .nil pass0 (pa_cons (L2.pv 0) (pa_cons (L2.pv 1) (pa_cons (L2.pv 2) (pa_cons (L2.pv 3) pa_nil)))))) (pss_cons (ps_expr (pe_call G_check_contents (hr.mono (Nat.le_of_ble_eq_true rfl)) rfl g_check_contents kp_check_contents bi_check_contents .nil pass0 (pa_cons (L2.pv 4) pa_nil))) (pss_cons (ps_set (i := 5) sc_least_told.nd rfl (Or.inl rfl) (pe_call G_heads_needed (hr.mono (Nat.le_of_ble_eq_true rfl)) rfl g_heads_needed kp_heads_needed bi_heads_needed .nil pass0 (pa_cons (pe_op op_sub (L2.pv 0) (L2.pv 1)) (pa_cons (L2.pv 1) (pa_cons (L2.pv 2) (pa_cons (L2.pv 3) (pa_cons (L2.pv 4) pa_nil))))))) (pss_one (ps_ret (pe_ifExp (pt_cmpR op_gt (L2.pv 5) pe_int (nomark _)) (pe_op op_add (pe_op op_mulW (L2.pv 0) (pe_op op_add (L2.pv 2) (L2.pv 3))) (L2.pv 5)) pe_non))))))), prom_ok (n := 5) (Ret := (rIm K)) (As := fun i : Int × Int × Int × Int × Int => [.im (pv K i.1), .im (pv K i.2.1), .im (pv K i.2.2.1), .im (pv K i.2.2.2.1), .im (pv K i.2.2.2.2)]) (m := fun i => m_least_told i.1 i.2.1 i.2.2.1 i.2.2.2.1 i.2.2.2.2) 1 (fun _ => rfl) rfl (fun (disks, lost, records, changes, contents) => (show RN (rIm K) _ (fun (s : Unit) => [.im (pv K disks), .im (pv K lost), .im (pv K records), .im (pv K changes), .im (pv K contents), .no]) (m_least_told disks lost records changes contents) (fun (s : Unit) => [.no, .no, .no, .no, .no, .no]) from (rn_of (rt_seq (rp_drop (em_of_eo (eo_call0 (i := (disks, lost, records, changes)) (ps := [pv K disks, pv K lost, pv K records, pv K changes]) (fun _ => (ap_cons (ep_var rfl) (ap_cons (ep_var rfl) (ap_cons (ep_var rfl) (ap_cons (ep_var rfl) ap_nil))))) rfl))) fun u_150 => (rt_seq (rp_drop (em_of_eo (eo_call0 (i := contents) (ps := [pv K contents]) (fun _ => (ap_cons (ep_var rfl) ap_nil)) rfl))) fun u_151 => (rt_seq (rp_asg (Γ := fun (s : Unit) => [.im (pv K disks), .im (pv K lost), .im (pv K records), .im (pv K changes), .im (pv K contents), .no]) (i := 5) (Γ' := fun heads152 (s : Unit) => [.im (pv K disks), .im (pv K lost), .im (pv K records), .im (pv K changes), .im (pv K contents), .im (pv K heads152)]) (em_of_eo (eo_call0 (i := (((disks - lost) : Int), lost, records, changes, contents)) (ps := [pv K ((disks - lost) : Int), pv K lost, pv K records, pv K changes, pv K contents]) (fun _ => (ap_cons (ep_op (ep_var rfl) (ep_var rfl) o_sub) (ap_cons (ep_var rfl) (ap_cons (ep_var rfl) (ap_cons (ep_var rfl) (ap_cons (ep_var rfl) ap_nil)))))) rfl)) (fun _ => rfl) fun _ _ => rfl) fun heads152 => (rt_ret (em_if (tm_pure fun _ => (tp_test (ep_op (ep_var rfl) (ep_int (K := K)) o_gt))) (em_some (fun _ => nn_int) (em_opr (g := fun (u : Int) (v : Int) => (u + v)) (em_opC2 (fun _ => (ep_var rfl)) (fun _ => (ep_op (ep_var rfl) (ep_var rfl) o_add)) fun h => o_mulW h) (fun _ => (ep_var rfl)) fun _ => o_add)) (em_pure fun _ => ep_nonO)) fun s => (.cons (.no _) (.cons (.no _) (.cons (.no _) (.cons (.no _) (.cons (.no _) (.cons (.no _) .nil))))))))))))) h⟩
theorem ok_least_told {f : Addr} {fd : FuncData} (F : FnP K "least_told" (top 40) f fd) (hg : mg "least_told" = some (.ref f)) (C_check_shape : Cal P w K mg base 3 "check_shape" ["disks", "lost", "records", "changes"] (sp_check_shape K)) (C_check_contents : Cal P w K mg base 3 "check_contents" ["contents"] (sp_check_contents K)) (C_heads_needed : Cal P w K mg base 3 "heads_needed" ["need", "lost", "records", "changes", "contents"] (sp_heads_needed K)) : Cal P w K mg base 4 "least_told" ["disks", "lost", "records", "changes", "contents"] (sp_least_told K) := ⟨f, fd, fo_least_told F C_check_shape C_check_contents C_heads_needed, hg, F.kp, F.bindsN fun _ _ _ _ _ _ us hl => match us, hl with | [_, _, _, _, _], _ => rfl⟩
def gl_least_told__lost_contents_changes_disks_records : List Value → List Value → List Value
  | [], [a0, a1, a2, a3, a4] => [a3, a0, a4, a2, a1]
  | _, _ => []
def gv_least_told__lost_contents_changes_disks_records : List V → List V → List V
  | [], [a0, a1, a2, a3, a4] => [a3, a0, a4, a2, a1]
  | _, _ => []
theorem kb_least_told__lost_contents_changes_disks_records {f : Addr} {fd : FuncData} (F : FnP K "least_told" (top 40) f fd) : KBinds K fd ["disks", "lost", "records", "changes", "contents"] ["lost", "contents", "changes", "disks", "records"] gl_least_told__lost_contents_changes_disks_records gv_least_told__lost_contents_changes_disks_records := by
  obtain ⟨oc, od, dV, kV, doc, pm, an, cdv, ct, osl, rfl, lk, hcd, hD, hK⟩ := F.ex
  rcases hD with ⟨_, rfl⟩ | ⟨e, _⟩
  · refine ⟨fun s us ws X hl => ?_, fun {vs us zs ws} r1 r2 => ?_⟩
    · match us, ws, hl with
      | [], [a0, a1, a2, a3, a4], _ => exact .of_eq rfl
    · match vs, us, zs, ws, r1, r2 with
      | [], [], [_, _, _, _, _], [_, _, _, _, _], .nil, (.cons r0 (.cons r1 (.cons r2 (.cons r3 (.cons r4 .nil))))) => exact (.cons r3 (.cons r0 (.cons r4 (.cons r2 (.cons r1 .nil)))))
      | _ :: _, _ :: _, _, _, .cons _ _, _ => exact .nil
      | [], [], [], [], .nil, .nil => exact .nil
      | [], [], [_], [_], .nil, (.cons _ .nil) => exact .nil
      | [], [], [_, _], [_, _], .nil, (.cons _ (.cons _ .nil)) => exact .nil
      | [], [], [_, _, _], [_, _, _], .nil, (.cons _ (.cons _ (.cons _ .nil))) => exact .nil
      | [], [], [_, _, _, _], [_, _, _, _], .nil, (.cons _ (.cons _ (.cons _ (.cons _ .nil)))) => exact .nil
      | [], [], _ :: _ :: _ :: _ :: _ :: _ :: _, _ :: _ :: _ :: _ :: _ :: _ :: _, .nil, (.cons _ (.cons _ (.cons _ (.cons _ (.cons _ (.cons _ _)))))) => exact .nil
  · exact absurd rfl e
theorem okK_least_told__lost_contents_changes_disks_records {f : Addr} {fd : FuncData} (F : FnP K "least_told" (top 40) f fd) (hg : mg "least_told" = some (.ref f)) (C_check_shape : Cal P w K mg base 3 "check_shape" ["disks", "lost", "records", "changes"] (sp_check_shape K)) (C_check_contents : Cal P w K mg base 3 "check_contents" ["contents"] (sp_check_contents K)) (C_heads_needed : Cal P w K mg base 3 "heads_needed" ["need", "lost", "records", "changes", "contents"] (sp_heads_needed K)) : CalK P w K mg base 4 "least_told" ["disks", "lost", "records", "changes", "contents"] (sp_least_told K) ["lost", "contents", "changes", "disks", "records"] gl_least_told__lost_contents_changes_disks_records gv_least_told__lost_contents_changes_disks_records := ⟨f, fd, fo_least_told F C_check_shape C_check_contents C_heads_needed, hg, F.kp, kb_least_told__lost_contents_changes_disks_records F⟩
def m_is_exact (disks : Int) (lost : Int) (records : Int) (changes : Int) (contents : Int) : Mn Unit Bool :=
  (mb (mb (mu (m_enough disks lost records changes contents)) fun x => mp (some x)) fun x_156 => mb (mu (m_least_told disks lost records changes contents)) fun y157 => mp (decide (x_156 = y157)))
abbrev sp_is_exact (K : PySem.W.Frag) : Sp := Prom (rIm K) (S := Unit) (fun i : Int × Int × Int × Int × Int => [.im (pv K i.1), .im (pv K i.2.1), .im (pv K i.2.2.1), .im (pv K i.2.2.2.1), .im (pv K i.2.2.2.2)]) fun i => m_is_exact i.1 i.2.1 i.2.2.1 i.2.2.2.1 i.2.2.2.2
theorem len_is_exact : ∀ vs H Q E, sp_is_exact K vs H Q E → vs.length = 5 := prom_len (Ret := (rIm K)) (As := fun i : Int × Int × Int × Int × Int => [.im (pv K i.1), .im (pv K i.2.1), .im (pv K i.2.2.1), .im (pv K i.2.2.2.1), .im (pv K i.2.2.2.2)]) (m := fun i => m_is_exact i.1 i.2.1 i.2.2.1 i.2.2.2.1 i.2.2.2.2) fun _ => rfl
theorem sc_is_exact : FnScope ["disks", "lost", "records", "changes", "contents"] ["disks", "lost", "records", "changes", "contents"] (defScope (top 41)) := ⟨rfl, rfl, rfl, by decide +kernel, rfl, by decide +kernel, by decide +kernel⟩
theorem fo_is_exact {f : Addr} {fd : FuncData} (F : FnP K "is_exact" (top 41) f fd) (C_enough : Cal P w K mg base 8 "enough" ["disks", "lost", "records", "changes", "contents"] (sp_enough K)) (C_least_told : Cal P w K mg base 4 "least_told" ["disks", "lost", "records", "changes", "contents"] (sp_least_told K)) : FnOk P w K mg base CX0 9 f fd ["disks", "lost", "records", "changes", "contents"] (sp_is_exact K) := by
  obtain ⟨f_enough, fd_enough, G_enough, g_enough, kp_enough, bi_enough⟩ := C_enough.ex
  obtain ⟨f_least_told, fd_least_told, G_least_told, g_least_told, kp_least_told, bi_least_told⟩ := C_least_told.ex
  refine F.ok sc_is_exact (len_is_exact (K := K)) (fun cdv A outer s H vs Q E hr h => ?_)
  have hl : vs.length = 5 := len_is_exact (K := K) vs H Q E h
  match vs, hl, h with
  | [v0, v1, v2, v3, v4], _, h => exact ⟨_, PSs.nox ((pss_one (ps_ret (pe_cmpR op_eq (pe_call G_enough (hr.mono (Nat.le_of_ble_eq_true rfl)) rfl g_enough kp_enough bi_enough .nil pass0 (pa_cons (L2.pv 0) (pa_cons (L2.pv 1) (pa_cons (L2.pv 2) (pa_cons (L2.pv 3) (pa_cons (L2.pv 4) pa_nil)))))) (pe_call G_least_told (hr.mono (Nat.le_of_ble_eq_true rfl)) rfl g_least_told kp_least_told bi_least_told .nil pass0 (pa_cons (L2.pv 0) (pa_cons (L2.pv 1) (pa_cons (L2.pv 2) (pa_cons (L2.pv 3) (pa_cons (L2.pv 4) pa_nil)))))) (nomark _))))), prom_ok (n := 5) (Ret := (rIm K)) (As := fun i : Int × Int × Int × Int × Int => [.im (pv K i.1), .im (pv K i.2.1), .im (pv K i.2.2.1), .im (pv K i.2.2.2.1), .im (pv K i.2.2.2.2)]) (m := fun i => m_is_exact i.1 i.2.1 i.2.2.1 i.2.2.2.1 i.2.2.2.2) 0 (fun _ => rfl) rfl (fun (disks, lost, records, changes, contents) => (show RN (rIm K) _ (fun (s : Unit) => [.im (pv K disks), .im (pv K lost), .im (pv K records), .im (pv K changes), .im (pv K contents)]) (m_is_exact disks lost records changes contents) (fun (s : Unit) => [.no, .no, .no, .no, .no]) from (rn_of (rt_ret (em_op (g := fun (u : (Option Int)) (v : (Option Int)) => decide (u = v)) (em_some (fun _ => nn_int) (em_of_eo (eo_call0 (i := (disks, lost, records, changes, contents)) (ps := [pv K disks, pv K lost, pv K records, pv K changes, pv K contents]) (fun _ => (ap_cons (ep_var rfl) (ap_cons (ep_var rfl) (ap_cons (ep_var rfl) (ap_cons (ep_var rfl) (ap_cons (ep_var rfl) ap_nil)))))) rfl))) (em_of_eo (eo_call0 (i := (disks, lost, records, changes, contents)) (ps := [pv K disks, pv K lost, pv K records, pv K changes, pv K contents]) (fun _ => (ap_cons (ep_var rfl) (ap_cons (ep_var rfl) (ap_cons (ep_var rfl) (ap_cons (ep_var rfl) (ap_cons (ep_var rfl) ap_nil)))))) rfl)) fun _ _ => o_eq) fun s => (.cons (.no _) (.cons (.no _) (.cons (.no _) (.cons (.no _) (.cons (.no _) .nil))))))))) h⟩
theorem ok_is_exact {f : Addr} {fd : FuncData} (F : FnP K "is_exact" (top 41) f fd) (hg : mg "is_exact" = some (.ref f)) (C_enough : Cal P w K mg base 8 "enough" ["disks", "lost", "records", "changes", "contents"] (sp_enough K)) (C_least_told : Cal P w K mg base 4 "least_told" ["disks", "lost", "records", "changes", "contents"] (sp_least_told K)) : Cal P w K mg base 9 "is_exact" ["disks", "lost", "records", "changes", "contents"] (sp_is_exact K) := ⟨f, fd, fo_is_exact F C_enough C_least_told, hg, F.kp, F.bindsN fun _ _ _ _ _ _ us hl => match us, hl with | [_, _, _, _, _], _ => rfl⟩
def gl_is_exact__contents_changes_records_lost_disks : List Value → List Value → List Value
  | [], [a0, a1, a2, a3, a4] => [a4, a3, a2, a1, a0]
  | _, _ => []
def gv_is_exact__contents_changes_records_lost_disks : List V → List V → List V
  | [], [a0, a1, a2, a3, a4] => [a4, a3, a2, a1, a0]
  | _, _ => []
theorem kb_is_exact__contents_changes_records_lost_disks {f : Addr} {fd : FuncData} (F : FnP K "is_exact" (top 41) f fd) : KBinds K fd ["disks", "lost", "records", "changes", "contents"] ["contents", "changes", "records", "lost", "disks"] gl_is_exact__contents_changes_records_lost_disks gv_is_exact__contents_changes_records_lost_disks := by
  obtain ⟨oc, od, dV, kV, doc, pm, an, cdv, ct, osl, rfl, lk, hcd, hD, hK⟩ := F.ex
  rcases hD with ⟨_, rfl⟩ | ⟨e, _⟩
  · refine ⟨fun s us ws X hl => ?_, fun {vs us zs ws} r1 r2 => ?_⟩
    · match us, ws, hl with
      | [], [a0, a1, a2, a3, a4], _ => exact .of_eq rfl
    · match vs, us, zs, ws, r1, r2 with
      | [], [], [_, _, _, _, _], [_, _, _, _, _], .nil, (.cons r0 (.cons r1 (.cons r2 (.cons r3 (.cons r4 .nil))))) => exact (.cons r4 (.cons r3 (.cons r2 (.cons r1 (.cons r0 .nil)))))
      | _ :: _, _ :: _, _, _, .cons _ _, _ => exact .nil
      | [], [], [], [], .nil, .nil => exact .nil
      | [], [], [_], [_], .nil, (.cons _ .nil) => exact .nil
      | [], [], [_, _], [_, _], .nil, (.cons _ (.cons _ .nil)) => exact .nil
      | [], [], [_, _, _], [_, _, _], .nil, (.cons _ (.cons _ (.cons _ .nil))) => exact .nil
      | [], [], [_, _, _, _], [_, _, _, _], .nil, (.cons _ (.cons _ (.cons _ (.cons _ .nil)))) => exact .nil
      | [], [], _ :: _ :: _ :: _ :: _ :: _ :: _, _ :: _ :: _ :: _ :: _ :: _ :: _, .nil, (.cons _ (.cons _ (.cons _ (.cons _ (.cons _ (.cons _ _)))))) => exact .nil
  · exact absurd rfl e
theorem okK_is_exact__contents_changes_records_lost_disks {f : Addr} {fd : FuncData} (F : FnP K "is_exact" (top 41) f fd) (hg : mg "is_exact" = some (.ref f)) (C_enough : Cal P w K mg base 8 "enough" ["disks", "lost", "records", "changes", "contents"] (sp_enough K)) (C_least_told : Cal P w K mg base 4 "least_told" ["disks", "lost", "records", "changes", "contents"] (sp_least_told K)) : CalK P w K mg base 9 "is_exact" ["disks", "lost", "records", "changes", "contents"] (sp_is_exact K) ["contents", "changes", "records", "lost", "disks"] gl_is_exact__contents_changes_records_lost_disks gv_is_exact__contents_changes_records_lost_disks := ⟨f, fd, fo_is_exact F C_enough C_least_told, hg, F.kp, kb_is_exact__contents_changes_records_lost_disks F⟩
def m__law_cell (script : Scr) (k : Int) : Mn Unit Int :=
  (mb (mp (decide (k < ((script.l.length : Nat) : Int)))) fun b158 => mi b158 (mo (atI script.l k)) (mp ((((6007 : Int) * k) + (((cutL script.l none (some (1 : Int)))).sum % (1000033 : Int))) : Int)))
abbrev sp__law_cell (K : PySem.W.Frag) : Sp := Prom (rIm K) (S := Unit) (fun i : Scr × Int => [.im (pv K i.1), .im (pv K i.2)]) fun i => m__law_cell i.1 i.2
theorem len__law_cell : ∀ vs H Q E, sp__law_cell K vs H Q E → vs.length = 2 := prom_len (Ret := (rIm K)) (As := fun i : Scr × Int => [.im (pv K i.1), .im (pv K i.2)]) (m := fun i => m__law_cell i.1 i.2) fun _ => rfl
theorem sc__law_cell : FnScope ["script", "k"] ["script", "k"] (defScope (top 43)) := ⟨rfl, rfl, rfl, by decide +kernel, rfl, by decide +kernel, by decide +kernel⟩
theorem fo__law_cell {f : Addr} {fd : FuncData} (F : FnP K "_law_cell" (top 43) f fd) (b_int : mg "int" = none) (b_len : mg "len" = none) (b_sum : mg "sum" = none) : FnOk P w K mg base CX0 1 f fd ["script", "k"] (sp__law_cell K) := by
  refine F.ok sc__law_cell (len__law_cell (K := K)) (fun cdv A outer s H vs Q E hr h => ?_)
  have hl : vs.length = 2 := len__law_cell (K := K) vs H Q E h
  match vs, hl, h with
  | [v0, v1], _, h => exact ⟨_, PSs.nox ((pss_one (ps_ret (pe_ifExp (pt_cmpR op_lt (L2.pv 1) (pe_callB call_len_seq rfl b_len bt_len (pa_cons (L2.pv 0) pa_nil)) (nomark _)) (pe_ix ix_list (L2.pv 0) (L2.pv 1) (fun _ _ => rfl)) (pe_op op_add (pe_op op_mul pe_int (L2.pv 1)) (pe_op op_mod (pe_callTy call_int1 rfl b_int bt_int (pa_cons (pe_callB (cr_sum rfl) rfl b_sum bt_sum (pa_cons (pe_slice sl_list (L2.pv 0) po_none (po_some pe_int)) pa_nil)) pa_nil)) pe_int)))))), prom_ok (n := 2) (Ret := (rIm K)) (As := fun i : Scr × Int => [.im (pv K i.1), .im (pv K i.2)]) (m := fun i => m__law_cell i.1 i.2) 0 (fun _ => rfl) rfl (fun (script, k) => (show RN (rIm K) _ (fun (s : Unit) => [.im (pv K script), .im (pv K k)]) (m__law_cell script k) (fun (s : Unit) => [.no, .no]) from (rn_of (rt_ret (em_if (tm_pure fun _ => (tp_test (ep_op (ep_var rfl) (ep_cb (ap_cons (ep_var rfl) ap_nil) c_lenS) o_lt))) (em_ixSp (fun _ => (ep_var rfl)) fun _ => (ep_var rfl)) (em_pure fun _ => (ep_op (ep_op (ep_int (K := K)) (ep_var rfl) (o_mulL rfl)) (ep_op (ep_cb (ap_cons (ep_cb (ap_cons (ep_slS (ep_var rfl) po_no (po_i (ep_int (K := K)))) ap_nil) c_sum) ap_nil) c_int) (ep_int (K := K)) (o_mod rfl)) o_add))) fun s => (.cons (.no _) (.cons (.no _) .nil)))))) h⟩
theorem ok__law_cell {f : Addr} {fd : FuncData} (F : FnP K "_law_cell" (top 43) f fd) (hg : mg "_law_cell" = some (.ref f)) (b_int : mg "int" = none) (b_len : mg "len" = none) (b_sum : mg "sum" = none) : Cal P w K mg base 1 "_law_cell" ["script", "k"] (sp__law_cell K) := ⟨f, fd, fo__law_cell F b_int b_len b_sum, hg, F.kp, F.bindsN fun _ _ _ _ _ _ us hl => match us, hl with | [_, _], _ => rfl⟩
def m__law_box (great : Int) : Mn Unit Box :=
  (mp (Box.mk ((if great < 0 then -great else great) : Int) (decide (((10 : Int) ^ (18 : Int).toNat) ≤ (if great < 0 then -great else great)) : Bool) (((if great < 0 then -great else great) % (2147483629 : Int)) : Int) ((0 : Int) : Int)))
abbrev sp__law_box (K : PySem.W.Frag) : Sp := Prom (rOw boxP) (S := Unit) (fun i : Int => [.im (pv K i)]) fun i => m__law_box i
theorem len__law_box : ∀ vs H Q E, sp__law_box K vs H Q E → vs.length = 1 := prom_len (Ret := (rOw boxP)) (As := fun i : Int => [.im (pv K i)]) (m := fun i => m__law_box i) fun _ => rfl
theorem sc__law_box : FnScope ["great"] ["great"] (defScope (top 44)) := ⟨rfl, rfl, rfl, by decide +kernel, rfl, by decide +kernel, by decide +kernel⟩
theorem fo__law_box {f : Addr} {fd : FuncData} (F : FnP K "_law_box" (top 44) f fd) (b_abs : mg "abs" = none) (b_int : mg "int" = none) : FnOk P w K mg base CX0 1 f fd ["great"] (sp__law_box K) := by
  refine F.ok sc__law_box (len__law_box (K := K)) (fun cdv A outer s H vs Q E hr h => ?_)
  have hl : vs.length = 1 := len__law_box (K := K) vs H Q E h
  match vs, hl, h with
  | [v0], _, h => exact ⟨_, PSs.nox ((pss_one (ps_ret (pe_lst (pa_cons (pe_callB call_abs rfl b_abs bt_abs (pa_cons (L2.pv 0) pa_nil)) (pa_cons (pe_cmpR op_ge (pe_callB call_abs rfl b_abs bt_abs (pa_cons (L2.pv 0) pa_nil)) (pe_op op_pow pe_int pe_int) (nomark _)) (pa_cons (pe_op op_mod (pe_callTy call_int1 rfl b_int bt_int (pa_cons (pe_callB call_abs rfl b_abs bt_abs (pa_cons (L2.pv 0) pa_nil)) pa_nil)) pe_int) (pa_cons pe_int pa_nil)))))))), prom_ok (n := 1) (Ret := (rOw boxP)) (As := fun i : Int => [.im (pv K i)]) (m := fun i => m__law_box i) 0 (fun _ => rfl) rfl (fun great => (show RN (rOw boxP) _ (fun (s : Unit) => [.im (pv K great)]) (m__law_box great) (fun (s : Unit) => [.no]) from (rn_of (rt_reto (eo_box (fun _ => (ap_cons (ep_cb (ap_cons (ep_var rfl) ap_nil) c_abs) (ap_cons (ep_op (ep_cb (ap_cons (ep_var rfl) ap_nil) c_abs) (ep_op (ep_int (K := K)) (ep_int (K := K)) (o_pow rfl)) o_ge) (ap_cons (ep_op (ep_cb (ap_cons (ep_cb (ap_cons (ep_var rfl) ap_nil) c_abs) ap_nil) c_int) (ep_int (K := K)) (o_mod rfl)) (ap_cons (ep_int (K := K)) ap_nil)))))) fun s => (.cons (.no _) .nil))))) h⟩
theorem ok__law_box {f : Addr} {fd : FuncData} (F : FnP K "_law_box" (top 44) f fd) (hg : mg "_law_box" = some (.ref f)) (b_abs : mg "abs" = none) (b_int : mg "int" = none) : Cal P w K mg base 1 "_law_box" ["great"] (sp__law_box K) := ⟨f, fd, fo__law_box F b_abs b_int, hg, F.kp, F.bindsN fun _ _ _ _ _ _ us hl => match us, hl with | [_], _ => rfl⟩
def m__law_take (many : Int) : Mn Box Int :=
  (mb (Mir.mg fun s => (s.flag && decide ((0 : Int) < s.great))) fun b => mi b
    (mb (mcs (fun s => modOk many) fun s => (s.great % many)) fun digit159 =>
  (mb (mb (mcs (fun s => divOk many) fun s => (s.great / many)) fun x => ms fun b => { b with great := x }) fun u_160 =>
  (mp digit159)))
    (mb (mb (Mir.mg fun s => (s.count + (1 : Int))) fun x => ms fun b => { b with count := x }) fun u_161 =>
  (mb (mb (mb (mb (mcs (fun s => powOk ((s.mixed + ((86028121 : Int) * s.count)) + (179424673 : Int)) (5 : Int)) fun s => (((s.mixed + ((86028121 : Int) * s.count)) + (179424673 : Int)) ^ (5 : Int).toNat)) fun x_162 => mb (mp ()) fun z163 => mp (x_162, z163)) fun z164 => mp z164.1) fun x_165 => mp (x_165 % (2147483647 : Int))) fun mixed167 =>
  (mb (mb (mb (mb (mb (mb (mb (mcs (fun s => powOk ((mixed167 * (48271 : Int)) + ((104729 : Int) * s.count)) (3 : Int)) fun s => (((mixed167 * (48271 : Int)) + ((104729 : Int) * s.count)) ^ (3 : Int).toNat)) fun x_168 => mb (mp ()) fun z169 => mp (x_168, z169)) fun z170 => mp z170.1) fun x_171 => mp (x_171 % (2147483587 : Int))) fun x_173 => mp (x_173 / (64 : Int))) fun x_175 => mb (mp ()) fun z176 => mp (x_175, z176)) fun z177 => mp z177.1) fun x_178 => mc (modOk many) (x_178 % many)))))
abbrev sp__law_take (K : PySem.W.Frag) : Sp := Prom (rIm K) (S := Box) (fun i : Int => [.ow boxP, .im (pv K i)]) fun i => m__law_take i
theorem len__law_take : ∀ vs H Q E, sp__law_take K vs H Q E → vs.length = 2 := prom_len (Ret := (rIm K)) (As := fun i : Int => [.ow boxP, .im (pv K i)]) (m := fun i => m__law_take i) fun _ => rfl
theorem sc__law_take : FnScope ["box", "many", "digit", "mixed"] ["box", "many"] (defScope (top 45)) := ⟨rfl, rfl, rfl, by decide +kernel, rfl, by decide +kernel, by decide +kernel⟩
theorem fo__law_take {f : Addr} {fd : FuncData} (F : FnP K "_law_take" (top 45) f fd) (b_int : mg "int" = none) : FnOk P w K mg base CX0 1 f fd ["box", "many"] (sp__law_take K) := by
  refine F.ok sc__law_take (len__law_take (K := K)) (fun cdv A outer s H vs Q E hr h => ?_)
  have hl : vs.length = 2 := len__law_take (K := K) vs H Q E h
  match vs, hl, h with
  | [v0, v1], _, h => exact ⟨_, PSs.nox ((pss_cons (ps_if (PW.pt (pw_and (pt_val (pe_ix ix_list (L2.pv 0) pe_int (fun _ _ => rfl))) (pw_and1 (pt_cmpR op_gt (pe_ix ix_list (L2.pv 0) pe_int (fun _ _ => rfl)) pe_int (nomark _))))) (pss_cons (ps_set (i := 2) sc__law_take.nd rfl (Or.inl rfl) (pe_op op_mod (pe_callTy call_int1 rfl b_int bt_int (pa_cons (pe_ix ix_list (L2.pv 0) pe_int (fun _ _ => rfl)) pa_nil)) (L2.pv 1))) (pss_cons (ps_asg (pe_op op_fdivW (pe_ix ix_list (L2.pv 0) pe_int (fun _ _ => rfl)) (L2.pv 1)) (pg_sub (L2.pv 0) pe_int set_list)) (pss_one (ps_ret (L2.pv 2))))) pss_nil) (pss_cons (ps_asg (pe_op op_add (pe_ix ix_list (L2.pv 0) pe_int (fun _ _ => rfl)) pe_int) (pg_sub (L2.pv 0) pe_int set_list)) (pss_cons (ps_set (i := 3) sc__law_take.nd rfl (Or.inl rfl) (pe_op op_mod (pe_callTy call_int1 rfl b_int bt_int (pa_cons (pe_op op_pow (pe_op op_add (pe_op op_add (pe_ix ix_list (L2.pv 0) pe_int (fun _ _ => rfl)) (pe_op op_mul pe_int (pe_ix ix_list (L2.pv 0) pe_int (fun _ _ => rfl)))) pe_int) pe_int) pa_nil)) pe_int)) (pss_one (ps_ret (pe_op op_mod (pe_callTy call_int1 rfl b_int bt_int (pa_cons (pe_op op_fdivW (pe_op op_mod (pe_callTy call_int1 rfl b_int bt_int (pa_cons (pe_op op_pow (pe_op op_add (pe_op op_mul (L2.pv 3) pe_int) (pe_op op_mul pe_int (pe_ix ix_list (L2.pv 0) pe_int (fun _ _ => rfl)))) pe_int) pa_nil)) pe_int) pe_int) pa_nil)) (L2.pv 1)))))))), prom_ok (n := 2) (Ret := (rIm K)) (As := fun i : Int => [.ow boxP, .im (pv K i)]) (m := fun i => m__law_take i) 2 (fun _ => rfl) rfl (fun many => (show RN (rIm K) _ (fun (s : Box) => [.ow ((boxP s).at v0), .im (pv K many), .no, .no]) (m__law_take many) (fun (s : Box) => [.ow ((boxP s).at v0), .no, .no, .no]) from (rn_of (rt_ifr (tm_p (f := fun (s : Box) => (s.flag && decide ((0 : Int) < s.great))) fun s => (tp_and (tp_B (ep_b1t rfl)) fun _ => (tp_test (ep_op (ep_b0t rfl) (ep_int (K := K)) o_gt)))) (rt_seq (rp_asg (Γ := fun (s : Box) => [.ow ((boxP s).at v0), .im (pv K many), .no, .no]) (i := 2) (Γ' := fun digit159 (s : Box) => [.ow ((boxP s).at v0), .im (pv K many), .im (pv K digit159), .no]) (em_opC2s (x := fun (s : Box) => s.great) (y := fun (s : Box) => many) (z := fun (s : Box) => (s.great % many)) (c := fun (s : Box) => modOk many) (fun s => (ep_cb (ap_cons (ep_b0t rfl) ap_nil) c_int)) (fun s => (ep_var rfl)) fun s h => o_mod h) (fun _ => rfl) fun _ _ => rfl) fun digit159 => (rt_seq (rp_b0t (fun _ => rfl) (em_opC2s (x := fun (s : Box) => s.great) (y := fun (s : Box) => many) (z := fun (s : Box) => (s.great / many)) (c := fun (s : Box) => divOk many) (fun s => (ep_b0t rfl)) (fun s => (ep_var rfl)) fun s h => o_divW h) fun _ _ => rfl) fun u_160 => (rt_ret (em_pure fun _ => (ep_var rfl)) fun s => (.cons (.rfl _) (.cons (.no _) (.cons (.no _) (.cons (.rfl _) .nil))))))) (rt_seq (rp_b3t (fun _ => rfl) (em_p (f := fun (s : Box) => (s.count + (1 : Int))) fun s => (ep_op (ep_b3t rfl) (ep_int (K := K)) o_add)) fun _ _ => rfl) fun u_161 => (rt_seq (rp_asg (Γ := fun (s : Box) => [.ow ((boxP s).at v0), .im (pv K many), .no, .no]) (i := 3) (Γ' := fun mixed167 (s : Box) => [.ow ((boxP s).at v0), .im (pv K many), .no, .im (pv K mixed167)]) (em_opr (g := fun (u : Int) (v : Int) => (u % v)) (em_cb (f := fun (z164 : Int × Unit) => z164.1) (am_cons (em_opC2s (x := fun (s : Box) => ((s.mixed + ((86028121 : Int) * s.count)) + (179424673 : Int))) (y := fun (s : Box) => (5 : Int)) (z := fun (s : Box) => (((s.mixed + ((86028121 : Int) * s.count)) + (179424673 : Int)) ^ (5 : Int).toNat)) (c := fun (s : Box) => powOk ((s.mixed + ((86028121 : Int) * s.count)) + (179424673 : Int)) (5 : Int)) (fun s => (ep_op (ep_op (ep_b2t rfl) (ep_op (ep_int (K := K)) (ep_b3t rfl) (o_mulL rfl)) o_add) (ep_int (K := K)) o_add)) (fun s => (ep_int (K := K))) fun s h => o_pow h) am_nil) fun _ => c_int) (fun _ => (ep_int (K := K))) fun _ => (o_mod rfl)) (fun _ => rfl) fun _ _ => rfl) fun mixed167 => (rt_ret (em_oprC (g := fun (u : Int) (v : Int) => (u % v)) (c := fun (u : Int) (v : Int) => modOk v) (em_cb (f := fun (z177 : Int × Unit) => z177.1) (am_cons (em_opr (g := fun (u : Int) (v : Int) => (u / v)) (em_opr (g := fun (u : Int) (v : Int) => (u % v)) (em_cb (f := fun (z170 : Int × Unit) => z170.1) (am_cons (em_opC2s (x := fun (s : Box) => ((mixed167 * (48271 : Int)) + ((104729 : Int) * s.count))) (y := fun (s : Box) => (3 : Int)) (z := fun (s : Box) => (((mixed167 * (48271 : Int)) + ((104729 : Int) * s.count)) ^ (3 : Int).toNat)) (c := fun (s : Box) => powOk ((mixed167 * (48271 : Int)) + ((104729 : Int) * s.count)) (3 : Int)) (fun s => (ep_op (ep_op (ep_var rfl) (ep_int (K := K)) (o_mulR rfl)) (ep_op (ep_int (K := K)) (ep_b3t rfl) (o_mulL rfl)) o_add)) (fun s => (ep_int (K := K))) fun s h => o_pow h) am_nil) fun _ => c_int) (fun _ => (ep_int (K := K))) fun _ => (o_mod rfl)) (fun _ => (ep_int (K := K))) fun _ => (o_divW rfl)) am_nil) fun _ => c_int) (fun _ => (ep_var rfl)) fun _ h => (o_mod h)) fun s => (.cons (.rfl _) (.cons (.no _) (.cons (.rfl _) (.cons (.no _) .nil))))))))))) h⟩
theorem ok__law_take {f : Addr} {fd : FuncData} (F : FnP K "_law_take" (top 45) f fd) (hg : mg "_law_take" = some (.ref f)) (b_int : mg "int" = none) : Cal P w K mg base 1 "_law_take" ["box", "many"] (sp__law_take K) := ⟨f, fd, fo__law_take F b_int, hg, F.kp, F.bindsN fun _ _ _ _ _ _ us hl => match us, hl with | [_, _], _ => rfl⟩
def m__law_power (base_ : Int) (many : Int) : Mn Unit Int :=
  (mb (mp ((1 : Int) : Int)) fun found180 =>
  (mb (mb (mc (b62 many) (rng 0 many.toNat)) fun xs => forP xs found180 fun a182 (t181 : Int) =>
    (mb (mc (mulOk t181 base_) (t181 * base_)) fun found183 => mp found183)) fun t184 =>
  (mp t184)))
abbrev sp__law_power (K : PySem.W.Frag) : Sp := Prom (rIm K) (S := Unit) (fun i : Int × Int => [.im (pv K i.1), .im (pv K i.2)]) fun i => m__law_power i.1 i.2
theorem len__law_power : ∀ vs H Q E, sp__law_power K vs H Q E → vs.length = 2 := prom_len (Ret := (rIm K)) (As := fun i : Int × Int => [.im (pv K i.1), .im (pv K i.2)]) (m := fun i => m__law_power i.1 i.2) fun _ => rfl
theorem sc__law_power : FnScope ["base", "many", "found", "turn"] ["base", "many"] (defScope (top 46)) := ⟨rfl, rfl, rfl, by decide +kernel, rfl, by decide +kernel, by decide +kernel⟩
theorem fo__law_power {f : Addr} {fd : FuncData} (F : FnP K "_law_power" (top 46) f fd) (b_range : mg "range" = none) : FnOk P w K mg base CX0 1 f fd ["base", "many"] (sp__law_power K) := by
  refine F.ok sc__law_power (len__law_power (K := K)) (fun cdv A outer s H vs Q E hr h => ?_)
  have hl : vs.length = 2 := len__law_power (K := K) vs H Q E h
  match vs, hl, h with
  | [v0, v1], _, h => exact ⟨_, PSs.nox ((pss_cons (ps_set (i := 2) sc__law_power.nd rfl (Or.inl rfl) pe_int) (pss_cons (ps_for PassesOwn.never rfl (pi_range1 rfl b_range (pa_cons (L2.pv 1) pa_nil)) (pg_name (i := 3) sc__law_power.nd rfl (Or.inl rfl)) (pss_one (ps_set (i := 2) sc__law_power.nd rfl (Or.inl rfl) (pe_op op_mulW (L2.pv 2) (L2.pv 0))))) (pss_one (ps_ret (L2.pv 2)))))), prom_ok (n := 2) (Ret := (rIm K)) (As := fun i : Int × Int => [.im (pv K i.1), .im (pv K i.2)]) (m := fun i => m__law_power i.1 i.2) 2 (fun _ => rfl) rfl (fun (base_, many) => (show RN (rIm K) _ (fun (s : Unit) => [.im (pv K base_), .im (pv K many), .no, .no]) (m__law_power base_ many) (fun (s : Unit) => [.no, .no, .no, .no]) from (rn_of (rt_seq (rp_asg (Γ := fun (s : Unit) => [.im (pv K base_), .im (pv K many), .no, .no]) (i := 2) (Γ' := fun found180 (s : Unit) => [.im (pv K base_), .im (pv K many), .im (pv K found180), .no]) (em_pure fun _ => (ep_int (K := K))) (fun _ => rfl) fun _ _ => rfl) fun found180 => (rt_seq (rp_for (ΓL := fun (t181 : Int) (s : Unit) => [.im (pv K base_), .im (pv K many), .im (pv K t181), .no]) (Γx := fun (a182 : Int) (t181 : Int) (s : Unit) => [.im (pv K base_), .im (pv K many), .im (pv K t181), .im (pv K a182)]) (im_rng1 fun _ => (ap_cons (ep_var rfl) ap_nil)) (fun s => (.cons (.rfl _) (.cons (.rfl _) (.cons (.rfl _) (.cons (.rfl _) .nil))))) (fun a182 t181 s => (gt_name (Γ := [.im (pv K base_), .im (pv K many), .im (pv K t181), .no]) (i := 3) (Γ' := [.im (pv K base_), .im (pv K many), .im (pv K t181), .im (pv K a182)]) rfl rfl)) fun a182 t181 => (rp_post (f := fun found183 => found183) (rp_asg (Γ := fun (s : Unit) => [.im (pv K base_), .im (pv K many), .im (pv K t181), .im (pv K a182)]) (i := 2) (Γ' := fun found183 (s : Unit) => [.im (pv K base_), .im (pv K many), .im (pv K found183), .im (pv K a182)]) (em_opC2 (fun _ => (ep_var rfl)) (fun _ => (ep_var rfl)) fun h => o_mulW h) (fun _ => rfl) fun _ _ => rfl) fun found183 s => (.cons (.rfl _) (.cons (.rfl _) (.cons (.rfl _) (.cons (.no _) .nil)))))) fun t184 => (rt_ret (em_pure fun _ => (ep_var rfl)) fun s => (.cons (.no _) (.cons (.no _) (.cons (.no _) (.cons (.rfl _) .nil)))))))))) h⟩
theorem ok__law_power {f : Addr} {fd : FuncData} (F : FnP K "_law_power" (top 46) f fd) (hg : mg "_law_power" = some (.ref f)) (b_range : mg "range" = none) : Cal P w K mg base 1 "_law_power" ["base", "many"] (sp__law_power K) := ⟨f, fd, fo__law_power F b_range, hg, F.kp, F.bindsN fun _ _ _ _ _ _ us hl => match us, hl with | [_, _], _ => rfl⟩
def m__law_row (m : Int) : Mn Unit (List Int) :=
  (mb (mp (([(1 : Int)] : (List Int)) : (List Int))) fun row185 =>
  (mb (mb (mc (b62 m) (rng 0 m.toNat)) fun xs => forP xs row185 fun a187 (t186 : (List Int)) =>
    (mb (mb (mb (mb (mc (b62 ((((t186.length : Nat) : Int) - (1 : Int)) : Int)) (rng 0 ((((t186.length : Nat) : Int) - (1 : Int)) : Int).toNat)) fun xs => cmP xs (fun (a188 : Int) => (mp true)) fun a188 => (mb (mo (atI t186 a188)) fun x_193 => mb (mo (atI t186 (a188 + (1 : Int)))) fun y194 => mp (x_193 + y194))) fun y196 => mc (lenOk (([(1 : Int)] : (List Int)).length + y196.length)) (([(1 : Int)] : (List Int)) ++ y196)) fun x_197 => mc (lenOk (x_197.length + ([(1 : Int)] : (List Int)).length)) (x_197 ++ ([(1 : Int)] : (List Int)))) fun row199 => mp row199)) fun t200 =>
  (mp t200)))
abbrev sp__law_row (K : PySem.W.Frag) : Sp := Prom (rIm K) (S := Unit) (fun i : Int => [.im (pv K i)]) fun i => m__law_row i
theorem len__law_row : ∀ vs H Q E, sp__law_row K vs H Q E → vs.length = 1 := prom_len (Ret := (rIm K)) (As := fun i : Int => [.im (pv K i)]) (m := fun i => m__law_row i) fun _ => rfl
theorem sc__law_row : FnScope ["m", "row", "turn", "at"] ["m"] (defScope (top 47)) := ⟨rfl, rfl, rfl, by decide +kernel, rfl, by decide +kernel, by decide +kernel⟩
theorem fo__law_row {f : Addr} {fd : FuncData} (F : FnP K "_law_row" (top 47) f fd) (b_len : mg "len" = none) (b_range : mg "range" = none) : FnOk P w K mg base CX0 1 f fd ["m"] (sp__law_row K) := by
  refine F.ok sc__law_row (len__law_row (K := K)) (fun cdv A outer s H vs Q E hr h => ?_)
  have hl : vs.length = 1 := len__law_row (K := K) vs H Q E h
  match vs, hl, h with
  | [v0], _, h => exact ⟨_, PSs.nox ((pss_cons (ps_set (i := 1) sc__law_row.nd rfl (Or.inr rfl) (pe_lst (pa_cons pe_int pa_nil))) (pss_cons (ps_for PassesOwn.never rfl (pi_range1 rfl b_range (pa_cons (L2.pv 0) pa_nil)) (pg_name (i := 2) sc__law_row.nd rfl (Or.inl rfl)) (pss_one (ps_set (i := 1) sc__law_row.nd rfl (Or.inr rfl) (pe_op op_cat (pe_op op_cat (pe_lst (pa_cons pe_int pa_nil)) (pe_lc (own := [("at", 3)]) rfl sc__law_row.nd (pi_range1 rfl b_range (pa_cons (pe_op op_sub (pe_callB call_len_seq rfl b_len bt_len (pa_cons (L2.pv 1) pa_nil)) pe_int) pa_nil)) (blkOk_by (own := [("at", 3)]) (N := ["m", "row", "turn", "at"]) (sc := defScope (top 47)) (by decide +kernel)) (fun _ _ _ _ _ => (pg_name (i := 3) sc__law_row.nd rfl (Or.inl rfl))) (fun _ _ _ _ _ => pts_nil) (fun _ _ _ _ _ => (pe_op op_add (pe_ix ix_list (L2.pv 1) (L2.pv 3) (fun _ _ => rfl)) (pe_ix ix_list (L2.pv 1) (pe_op op_add (L2.pv 3) pe_int) (fun _ _ => rfl)))))) (pe_lst (pa_cons pe_int pa_nil)))))) (pss_one (ps_ret (L2.pv 1)))))), prom_ok (n := 1) (Ret := (rIm K)) (As := fun i : Int => [.im (pv K i)]) (m := fun i => m__law_row i) 3 (fun _ => rfl) rfl (fun m => (show RN (rIm K) _ (fun (s : Unit) => [.im (pv K m), .no, .no, .no]) (m__law_row m) (fun (s : Unit) => [.no, .no, .no, .no]) from (rn_of (rt_seq (rp_asg (Γ := fun (s : Unit) => [.im (pv K m), .no, .no, .no]) (i := 1) (Γ' := fun row185 (s : Unit) => [.im (pv K m), .im (pv K row185), .no, .no]) (em_pure fun _ => (ep_lst (xs := ([(1 : Int)] : (List Int))) (hl := Nat.le_of_ble_eq_true rfl) (ap_cons (ep_int (K := K)) ap_nil))) (fun _ => rfl) fun _ _ => rfl) fun row185 => (rt_seq (rp_for (ΓL := fun (t186 : (List Int)) (s : Unit) => [.im (pv K m), .im (pv K t186), .no, .no]) (Γx := fun (a187 : Int) (t186 : (List Int)) (s : Unit) => [.im (pv K m), .im (pv K t186), .im (pv K a187), .no]) (im_rng1 fun _ => (ap_cons (ep_var rfl) ap_nil)) (fun s => (.cons (.rfl _) (.cons (.rfl _) (.cons (.rfl _) (.cons (.rfl _) .nil))))) (fun a187 t186 s => (gt_name (Γ := [.im (pv K m), .im (pv K t186), .no, .no]) (i := 2) (Γ' := [.im (pv K m), .im (pv K t186), .im (pv K a187), .no]) rfl rfl)) fun a187 t186 => (rp_post (f := fun row199 => row199) (rp_asg (Γ := fun (s : Unit) => [.im (pv K m), .im (pv K t186), .im (pv K a187), .no]) (i := 1) (Γ' := fun row199 (s : Unit) => [.im (pv K m), .im (pv K row199), .im (pv K a187), .no]) (em_oprC (g := fun (u : (List Int)) (v : (List Int)) => (u ++ v)) (c := fun (u : (List Int)) (v : (List Int)) => lenOk (u.length + v.length)) (em_oplC (g := fun (u : (List Int)) (v : (List Int)) => (u ++ v)) (c := fun (u : (List Int)) (v : (List Int)) => lenOk (u.length + v.length)) (fun _ => (ep_lst (xs := ([(1 : Int)] : (List Int))) (hl := Nat.le_of_ble_eq_true rfl) (ap_cons (ep_int (K := K)) ap_nil))) (em_lc (Γx := fun (a188 : Int) (s : Unit) => [.im (pv K m), .im (pv K t186), .im (pv K a187), .im (pv K a188)]) (js := [3]) (im_rng1 fun _ => (ap_cons (ep_op (ep_cb (ap_cons (ep_var rfl) ap_nil) c_lenL) (ep_int (K := K)) o_sub) ap_nil)) (fun _ => rfl) (fun a188 s => (gt_name (Γ := [.im (pv K m), .im (pv K t186), .im (pv K a187), .no]) (i := 3) (Γ' := [.im (pv K m), .im (pv K t186), .im (pv K a187), .im (pv K a188)]) rfl rfl)) rfl (fun a188 => tm_yes) (fun a188 => (em_op (g := fun (u : Int) (v : Int) => (u + v)) (em_ixLp (fun _ => (ep_var rfl)) fun _ => (ep_var rfl)) (em_ixLp (fun _ => (ep_var rfl)) fun _ => (ep_op (ep_var rfl) (ep_int (K := K)) o_add)) fun _ _ => o_add)) fun a188 s => (.cons (.rfl _) (.cons (.rfl _) (.cons (.rfl _) (.cons (.no _) .nil))))) fun _ h => (o_cat h)) (fun _ => (ep_lst (xs := ([(1 : Int)] : (List Int))) (hl := Nat.le_of_ble_eq_true rfl) (ap_cons (ep_int (K := K)) ap_nil))) fun _ h => (o_cat h)) (fun _ => rfl) fun _ _ => rfl) fun row199 s => (.cons (.rfl _) (.cons (.rfl _) (.cons (.no _) (.cons (.rfl _) .nil)))))) fun t200 => (rt_ret (em_pure fun _ => (ep_var rfl)) fun s => (.cons (.no _) (.cons (.no _) (.cons (.rfl _) (.cons (.rfl _) .nil)))))))))) h⟩
theorem ok__law_row {f : Addr} {fd : FuncData} (F : FnP K "_law_row" (top 47) f fd) (hg : mg "_law_row" = some (.ref f)) (b_len : mg "len" = none) (b_range : mg "range" = none) : Cal P w K mg base 1 "_law_row" ["m"] (sp__law_row K) := ⟨f, fd, fo__law_row F b_len b_range, hg, F.kp, F.bindsN fun _ _ _ _ _ _ us hl => match us, hl with | [_], _ => rfl⟩
def m__law_allow (blocks : Int) (d : Int) (m : Int) (k : Int) (q : Int) : Mn Unit Bool :=
  (mb (mb (mu (m__law_row m)) fun x_206 => mb (mb (mb (mu (m__law_power q d)) fun x_201 => mp (x_201 - (1 : Int))) fun x_204 => mb (mp ()) fun z205 => mp (x_204, z205)) fun z207 => mp (x_206, z207)) fun z203 =>
  (mb (mb (mc (b62 ((1 : Int) : Int) && b62 ((k + (1 : Int)) : Int)) (rng ((1 : Int) : Int) (((k + (1 : Int)) : Int) - ((1 : Int) : Int)).toNat)) fun xs => forP xs ((0 : Int), (1 : Int)) fun a209 (t208 : Int × Int) =>
    (mb (mc (mulOk t208.2 z203.2.1) (t208.2 * z203.2.1)) fun ways210 =>
    (mb (mb (mb (mo (atI z203.1 a209)) fun x_213 => mc (mulOk x_213 ways210) (x_213 * ways210)) fun y216 => mp (t208.1 + y216)) fun wishes217 => mp (wishes217, ways210)))) fun t218 =>
  (mb (mb (mc (mulOk d m) (d * m)) fun y220 => mp (decide (y220 < blocks))) fun b => mi b
    (mb (mb (mb (mb (mp q) fun x_225 => mb (mb (mb (mc (mulOk d m) (d * m)) fun y222 => mp ((blocks - (1 : Int)) - y222)) fun x_223 => mb (mp ()) fun z224 => mp (x_223, z224)) fun z226 => mp (x_225, z226)) fun z227 => mu (m__law_power z227.1 z227.2.1)) fun y229 => mc (mulOk ((2 : Int) * blocks) y229) (((2 : Int) * blocks) * y229)) fun y231 => mp (decide (t218.1 ≤ y231)))
    (mb (mb (mb (mb (mp q) fun x_238 => mb (mb (mb (mb (mc (mulOk d m) (d * m)) fun x_232 => mp (x_232 + (1 : Int))) fun x_234 => mp (x_234 - blocks)) fun x_236 => mb (mp ()) fun z237 => mp (x_236, z237)) fun z239 => mp (x_238, z239)) fun z240 => mu (m__law_power z240.1 z240.2.1)) fun y242 => mc (mulOk t218.1 y242) (t218.1 * y242)) fun x_243 => mp (decide (x_243 ≤ ((2 : Int) * blocks)))))))
abbrev sp__law_allow (K : PySem.W.Frag) : Sp := Prom (rIm K) (S := Unit) (fun i : Int × Int × Int × Int × Int => [.im (pv K i.1), .im (pv K i.2.1), .im (pv K i.2.2.1), .im (pv K i.2.2.2.1), .im (pv K i.2.2.2.2)]) fun i => m__law_allow i.1 i.2.1 i.2.2.1 i.2.2.2.1 i.2.2.2.2
theorem len__law_allow : ∀ vs H Q E, sp__law_allow K vs H Q E → vs.length = 5 := prom_len (Ret := (rIm K)) (As := fun i : Int × Int × Int × Int × Int => [.im (pv K i.1), .im (pv K i.2.1), .im (pv K i.2.2.1), .im (pv K i.2.2.2.1), .im (pv K i.2.2.2.2)]) (m := fun i => m__law_allow i.1 i.2.1 i.2.2.1 i.2.2.2.1 i.2.2.2.2) fun _ => rfl
theorem sc__law_allow : FnScope ["blocks", "d", "m", "k", "q", "row", "others", "wishes", "ways", "many"] ["blocks", "d", "m", "k", "q"] (defScope (top 48)) := ⟨rfl, rfl, rfl, by decide +kernel, rfl, by decide +kernel, by decide +kernel⟩
theorem fo__law_allow {f : Addr} {fd : FuncData} (F : FnP K "_law_allow" (top 48) f fd) (b_range : mg "range" = none) (C__law_row : Cal P w K mg base 1 "_law_row" ["m"] (sp__law_row K)) (C__law_power : Cal P w K mg base 1 "_law_power" ["base", "many"] (sp__law_power K)) : FnOk P w K mg base CX0 2 f fd ["blocks", "d", "m", "k", "q"] (sp__law_allow K) := by
  obtain ⟨f__law_row, fd__law_row, G__law_row, g__law_row, kp__law_row, bi__law_row⟩ := C__law_row.ex
  obtain ⟨f__law_power, fd__law_power, G__law_power, g__law_power, kp__law_power, bi__law_power⟩ := C__law_power.ex
  refine F.ok sc__law_allow (len__law_allow (K := K)) (fun cdv A outer s H vs Q E hr h => ?_)
  have hl : vs.length = 5 := len__law_allow (K := K) vs H Q E h
  match vs, hl, h with
  | [v0, v1, v2, v3, v4], _, h => exact ⟨_, PSs.nox ((pss_cons (ps_asg (pe_tup (pa_cons (pe_call G__law_row (hr.mono (Nat.le_of_ble_eq_true rfl)) rfl g__law_row kp__law_row bi__law_row .nil pass0 (pa_cons (L2.pv 2) pa_nil)) (pa_cons (pe_op op_sub (pe_call G__law_power (hr.mono (Nat.le_of_ble_eq_true rfl)) rfl g__law_power kp__law_power bi__law_power .nil pass0 (pa_cons (L2.pv 4) (pa_cons (L2.pv 1) pa_nil))) pe_int) (pa_cons pe_int (pa_cons pe_int pa_nil))))) (pg_tup (n := 4) rfl (pgs_cons (pg_name (i := 5) sc__law_allow.nd rfl (Or.inl rfl)) (pgs_cons (pg_name (i := 6) sc__law_allow.nd rfl (Or.inl rfl)) (pgs_cons (pg_name (i := 7) sc__law_allow.nd rfl (Or.inl rfl)) (pgs_cons (pg_name (i := 8) sc__law_allow.nd rfl (Or.inl rfl)) pgs_nil)))))) (pss_cons (ps_for PassesOwn.never rfl (pi_range2 rfl b_range (pa_cons pe_int (pa_cons (pe_op op_add (L2.pv 3) pe_int) pa_nil))) (pg_name (i := 9) sc__law_allow.nd rfl (Or.inl rfl)) (pss_cons (ps_set (i := 8) sc__law_allow.nd rfl (Or.inl rfl) (pe_op op_mulW (L2.pv 8) (L2.pv 6))) (pss_one (ps_set (i := 7) sc__law_allow.nd rfl (Or.inl rfl) (pe_op op_add (L2.pv 7) (pe_op op_mulW (pe_ix ix_list (L2.pv 5) (L2.pv 9) (fun _ _ => rfl)) (L2.pv 8))))))) (pss_cons (ps_if (pt_cmpR op_gt (L2.pv 0) (pe_op op_mulW (L2.pv 1) (L2.pv 2)) (nomark _)) (pss_one (ps_ret (pe_cmpR op_le (L2.pv 7) (pe_op op_mulW (pe_op op_mul pe_int (L2.pv 0)) (pe_call G__law_power (hr.mono (Nat.le_of_ble_eq_true rfl)) rfl g__law_power kp__law_power bi__law_power .nil pass0 (pa_cons (L2.pv 4) (pa_cons (pe_op op_sub (pe_op op_sub (L2.pv 0) pe_int) (pe_op op_mulW (L2.pv 1) (L2.pv 2))) pa_nil)))) (nomark _)))) pss_nil) (pss_one (ps_ret (pe_cmpR op_le (pe_op op_mulW (L2.pv 7) (pe_call G__law_power (hr.mono (Nat.le_of_ble_eq_true rfl)) rfl g__law_power kp__law_power bi__law_power .nil pass0 (pa_cons (L2.pv 4) (pa_cons (pe_op op_sub (pe_op op_add (pe_op op_mulW (L2.pv 1) (L2.pv 2)) pe_int) (L2.pv 0)) pa_nil)))) (pe_op op_mul pe_int (L2.pv 0)) (nomark _)))))))), prom_ok (n := 5) (Ret := (rIm K)) (As := fun i : Int × Int × Int × Int × Int => [.im (pv K i.1), .im (pv K i.2.1), .im (pv K i.2.2.1), .im (pv K i.2.2.2.1), .im (pv K i.2.2.2.2)]) (m := fun i => m__law_allow i.1 i.2.1 i.2.2.1 i.2.2.2.1 i.2.2.2.2) 5 (fun _ => rfl) rfl (fun (blocks, d, m, k, q) => (show RN (rIm K) _ (fun (s : Unit) => [.im (pv K blocks), .im (pv K d), .im (pv K m), .im (pv K k), .im (pv K q), .no, .no, .no, .no, .no]) (m__law_allow blocks d m k q) (fun (s : Unit) => [.no, .no, .no, .no, .no, .no, .no, .no, .no, .no]) from (rn_of (rt_seq (rp_asgT (Γ' := fun z203 (s : Unit) => [.im (pv K blocks), .im (pv K d), .im (pv K m), .im (pv K k), .im (pv K q), .im (pv K z203.1), .im (pv K z203.2.1), .im (pv K ((0 : Int) : Int)), .im (pv K ((1 : Int) : Int)), .no]) [5, 6, 7, 8] (ao_m (em_of_eo (eo_call0 (i := m) (ps := [pv K m]) (fun _ => (ap_cons (ep_var rfl) ap_nil)) rfl)) (ao_m (em_opr (g := fun (u : Int) (v : Int) => (u - v)) (em_of_eo (eo_call0 (i := (q, d)) (ps := [pv K q, pv K d]) (fun _ => (ap_cons (ep_var rfl) (ap_cons (ep_var rfl) ap_nil))) rfl)) (fun _ => (ep_int (K := K))) fun _ => o_sub) (ao_p (fun _ => (ep_int (K := K))) (ao_p (fun _ => (ep_int (K := K))) ao_nil)))) (fun _ => asg_ok rfl) (fun _ => rfl) (fun _ => rfl) (Nat.le_of_ble_eq_true rfl) fun _ _ => rfl) fun z203 => (rt_seq (rp_for (ΓL := fun (t208 : Int × Int) (s : Unit) => [.im (pv K blocks), .im (pv K d), .im (pv K m), .im (pv K k), .im (pv K q), .im (pv K z203.1), .im (pv K z203.2.1), .im (pv K t208.1), .im (pv K t208.2), .no]) (Γx := fun (a209 : Int) (t208 : Int × Int) (s : Unit) => [.im (pv K blocks), .im (pv K d), .im (pv K m), .im (pv K k), .im (pv K q), .im (pv K z203.1), .im (pv K z203.2.1), .im (pv K t208.1), .im (pv K t208.2), .im (pv K a209)]) (im_rng2 fun _ => (ap_cons (ep_int (K := K)) (ap_cons (ep_op (ep_var rfl) (ep_int (K := K)) o_add) ap_nil))) (fun s => (.cons (.rfl _) (.cons (.rfl _) (.cons (.rfl _) (.cons (.rfl _) (.cons (.rfl _) (.cons (.rfl _) (.cons (.rfl _) (.cons (.rfl _) (.cons (.rfl _) (.cons (.rfl _) .nil))))))))))) (fun a209 t208 s => (gt_name (Γ := [.im (pv K blocks), .im (pv K d), .im (pv K m), .im (pv K k), .im (pv K q), .im (pv K z203.1), .im (pv K z203.2.1), .im (pv K t208.1), .im (pv K t208.2), .no]) (i := 9) (Γ' := [.im (pv K blocks), .im (pv K d), .im (pv K m), .im (pv K k), .im (pv K q), .im (pv K z203.1), .im (pv K z203.2.1), .im (pv K t208.1), .im (pv K t208.2), .im (pv K a209)]) rfl rfl)) fun a209 t208 => (rp_seq (rp_asg (Γ := fun (s : Unit) => [.im (pv K blocks), .im (pv K d), .im (pv K m), .im (pv K k), .im (pv K q), .im (pv K z203.1), .im (pv K z203.2.1), .im (pv K t208.1), .im (pv K t208.2), .im (pv K a209)]) (i := 8) (Γ' := fun ways210 (s : Unit) => [.im (pv K blocks), .im (pv K d), .im (pv K m), .im (pv K k), .im (pv K q), .im (pv K z203.1), .im (pv K z203.2.1), .im (pv K t208.1), .im (pv K ways210), .im (pv K a209)]) (em_opC2 (fun _ => (ep_var rfl)) (fun _ => (ep_var rfl)) fun h => o_mulW h) (fun _ => rfl) fun _ _ => rfl) fun ways210 => (rp_post (f := fun wishes217 => (wishes217, ways210)) (rp_asg (Γ := fun (s : Unit) => [.im (pv K blocks), .im (pv K d), .im (pv K m), .im (pv K k), .im (pv K q), .im (pv K z203.1), .im (pv K z203.2.1), .im (pv K t208.1), .im (pv K ways210), .im (pv K a209)]) (i := 7) (Γ' := fun wishes217 (s : Unit) => [.im (pv K blocks), .im (pv K d), .im (pv K m), .im (pv K k), .im (pv K q), .im (pv K z203.1), .im (pv K z203.2.1), .im (pv K wishes217), .im (pv K ways210), .im (pv K a209)]) (em_opl (g := fun (u : Int) (v : Int) => (u + v)) (fun _ => (ep_var rfl)) (em_oprC (g := fun (u : Int) (v : Int) => (u * v)) (c := fun (u : Int) (v : Int) => mulOk u v) (em_ixLp (fun _ => (ep_var rfl)) fun _ => (ep_var rfl)) (fun _ => (ep_var rfl)) fun _ h => (o_mulW h)) fun _ => o_add) (fun _ => rfl) fun _ _ => rfl) fun wishes217 s => (.cons (.rfl _) (.cons (.rfl _) (.cons (.rfl _) (.cons (.rfl _) (.cons (.rfl _) (.cons (.rfl _) (.cons (.rfl _) (.cons (.rfl _) (.cons (.rfl _) (.cons (.no _) .nil))))))))))))) fun t218 => (rt_ifr (tm_test (em_opl (g := fun (u : Int) (v : Int) => decide (v < u)) (fun _ => (ep_var rfl)) (em_opC2 (fun _ => (ep_var rfl)) (fun _ => (ep_var rfl)) fun h => o_mulW h) fun _ => o_gt)) (rt_ret (em_opl (g := fun (u : Int) (v : Int) => decide (u ≤ v)) (fun _ => (ep_var rfl)) (em_oplC (g := fun (u : Int) (v : Int) => (u * v)) (c := fun (u : Int) (v : Int) => mulOk u v) (fun _ => (ep_op (ep_int (K := K)) (ep_var rfl) (o_mulL rfl))) (em_of_eo (eo_call0M (f := fun (z227 : Int × Int × Unit) => (z227.1, z227.2.1)) (am_cons (em_pure fun _ => (ep_var rfl)) (am_cons (em_opl (g := fun (u : Int) (v : Int) => (u - v)) (fun _ => (ep_op (ep_var rfl) (ep_int (K := K)) o_sub)) (em_opC2 (fun _ => (ep_var rfl)) (fun _ => (ep_var rfl)) fun h => o_mulW h) fun _ => o_sub) am_nil)) fun _ => rfl)) fun _ h => (o_mulW h)) fun _ => o_le) fun s => (.cons (.no _) (.cons (.no _) (.cons (.no _) (.cons (.no _) (.cons (.no _) (.cons (.no _) (.cons (.no _) (.cons (.no _) (.cons (.no _) (.cons (.rfl _) .nil))))))))))) (rt_ret (em_opr (g := fun (u : Int) (v : Int) => decide (u ≤ v)) (em_oplC (g := fun (u : Int) (v : Int) => (u * v)) (c := fun (u : Int) (v : Int) => mulOk u v) (fun _ => (ep_var rfl)) (em_of_eo (eo_call0M (f := fun (z240 : Int × Int × Unit) => (z240.1, z240.2.1)) (am_cons (em_pure fun _ => (ep_var rfl)) (am_cons (em_opr (g := fun (u : Int) (v : Int) => (u - v)) (em_opr (g := fun (u : Int) (v : Int) => (u + v)) (em_opC2 (fun _ => (ep_var rfl)) (fun _ => (ep_var rfl)) fun h => o_mulW h) (fun _ => (ep_int (K := K))) fun _ => o_add) (fun _ => (ep_var rfl)) fun _ => o_sub) am_nil)) fun _ => rfl)) fun _ h => (o_mulW h)) (fun _ => (ep_op (ep_int (K := K)) (ep_var rfl) (o_mulL rfl))) fun _ => o_le) fun s => (.cons (.no _) (.cons (.no _) (.cons (.no _) (.cons (.no _) (.cons (.no _) (.cons (.no _) (.cons (.no _) (.cons (.no _) (.cons (.no _) (.cons (.rfl _) .nil))))))))))))))))) h⟩
theorem ok__law_allow {f : Addr} {fd : FuncData} (F : FnP K "_law_allow" (top 48) f fd) (hg : mg "_law_allow" = some (.ref f)) (b_range : mg "range" = none) (C__law_row : Cal P w K mg base 1 "_law_row" ["m"] (sp__law_row K)) (C__law_power : Cal P w K mg base 1 "_law_power" ["base", "many"] (sp__law_power K)) : Cal P w K mg base 2 "_law_allow" ["blocks", "d", "m", "k", "q"] (sp__law_allow K) := ⟨f, fd, fo__law_allow F b_range C__law_row C__law_power, hg, F.kp, F.bindsN fun _ _ _ _ _ _ us hl => match us, hl with | [_, _, _, _, _], _ => rfl⟩
def m__law_least (n : Int) (f_ : Int) (m : Int) (k : Int) (q : Int) : Mn Unit (Option Int) :=
  (mb (mb (mb (mu (m__law_row m)) fun x_245 => mo (atI x_245 k)) fun x_250 => mb (mb (mp ([] : (List Int))) fun x_248 => mb (mp ()) fun z249 => mp (x_248, z249)) fun z251 => mp (x_250, z251)) fun z247 =>
  (mb (mb (mb (mp (decide (k = m))) fun b259 => mi b259 (mb (mb (mc (mulOk ((4 : Int) * (n - f_)) m) (((4 : Int) * (n - f_)) * m)) fun y257 => mp (decide (y257 < q))) fun b258 => mi b258 (mp (decide ((7 : Int) ≤ q))) (mp false)) (mp false)) fun b => mi b
    (mb (mb (mb (mb (mc (mulOk (n * (2 : Int)) m) ((n * (2 : Int)) * m)) fun x_261 => mp (x_261 + f_)) fun x_263 => mp (x_263 + (1 : Int))) fun x_266 => mc (lenOk z247.2.1.length) (z247.2.1 ++ [x_266])) fun found265 => mp found265)
    (mp z247.2.1)) fun t260 =>
  (mb (mb (mb (mu (m__law_power q ((n - f_) : Int))) fun x_269 => mb (mc (mulOk k z247.1) (k * z247.1)) fun y270 => mp (decide (y270 < x_269))) fun b => mi b
    (mb (mb (mb (mp (decide (k < m))) fun b274 => mi b274 (mb (mc (mulOk (z247.1 - (1 : Int)) q) ((z247.1 - (1 : Int)) * q)) fun x_272 => mb (mc (mulOk ((2 : Int) * (n - f_)) (m + k)) (((2 : Int) * (n - f_)) * (m + k))) fun y273 => mp (decide (y273 ≤ x_272))) (mp false)) fun b => mi b
    (mb (mb (mb (mb (mc (mulOk n (m + k)) (n * (m + k))) fun x_276 => mp (x_276 + f_)) fun x_278 => mp (x_278 + (1 : Int))) fun x_281 => mc (lenOk t260.length) (t260 ++ [x_281])) fun found280 => mp found280)
    (mp t260)) fun t275 =>
    (mb (mb (mc (b62 ((1 : Int) : Int) && b62 ((26 : Int) : Int)) (rng ((1 : Int) : Int) (((26 : Int) : Int) - ((1 : Int) : Int)).toNat)) fun xs => forP xs t275 fun a283 (t282 : (List Int)) =>
    (mb (mb (mb (mb (mb (mb (mc (mulOk (n - f_) (m + k)) ((n - f_) * (m + k))) fun x_284 => mp (x_284 + a283)) fun y287 => mp ((2 : Int) * y287)) fun x_288 => mb (mu (m__law_power q ((a283 - (1 : Int)) : Int))) fun y289 => mc (mulOk x_288 y289) (x_288 * y289)) fun y291 => mp (decide (y291 < z247.1))) fun b => mi b
    (mb (mb (mb (mb (mb (mc (mulOk n (m + k)) (n * (m + k))) fun x_293 => mp (x_293 + a283)) fun x_295 => mp (x_295 + (1 : Int))) fun x_299 => mb (mb (mc (divOk (n - f_)) ((a283 + (n - f_)) / (n - f_))) fun y298 => mc (mulOk f_ y298) (f_ * y298)) fun y300 => mp (x_299 + y300)) fun x_302 => mc (lenOk t282.length) (t282 ++ [x_302])) fun found301 => mp found301)
    (mp t282)) fun t292 => mp t292)) fun t303 => mp t303))
    (mp t260)) fun t271 =>
  (mb (mp (!decide (t271 = ([] : (List Int))))) fun b304 => mi b304 (mb (mu (mc (!t271.isEmpty) (mxL t271))) fun x => mp (some x)) (mp ((none : (Option Int)) : (Option Int)))))))
abbrev sp__law_least (K : PySem.W.Frag) : Sp := Prom (rIm K) (S := Unit) (fun i : Int × Int × Int × Int × Int => [.im (pv K i.1), .im (pv K i.2.1), .im (pv K i.2.2.1), .im (pv K i.2.2.2.1), .im (pv K i.2.2.2.2)]) fun i => m__law_least i.1 i.2.1 i.2.2.1 i.2.2.2.1 i.2.2.2.2
theorem len__law_least : ∀ vs H Q E, sp__law_least K vs H Q E → vs.length = 5 := prom_len (Ret := (rIm K)) (As := fun i : Int × Int × Int × Int × Int => [.im (pv K i.1), .im (pv K i.2.1), .im (pv K i.2.2.1), .im (pv K i.2.2.2.1), .im (pv K i.2.2.2.2)]) (m := fun i => m__law_least i.1 i.2.1 i.2.2.1 i.2.2.2.1 i.2.2.2.2) fun _ => rfl
theorem sc__law_least : FnScope ["n", "f", "m", "k", "q", "d", "lots", "found", "j"] ["n", "f", "m", "k", "q"] (defScope (top 49)) := ⟨rfl, rfl, rfl, by decide +kernel, rfl, by decide +kernel, by decide +kernel⟩
theorem fo__law_least {f : Addr} {fd : FuncData} (F : FnP K "_law_least" (top 49) f fd) (b_max : mg "max" = none) (b_range : mg "range" = none) (C__law_row : Cal P w K mg base 1 "_law_row" ["m"] (sp__law_row K)) (C__law_power : Cal P w K mg base 1 "_law_power" ["base", "many"] (sp__law_power K)) : FnOk P w K mg base CX0 2 f fd ["n", "f", "m", "k", "q"] (sp__law_least K) := by
  obtain ⟨f__law_row, fd__law_row, G__law_row, g__law_row, kp__law_row, bi__law_row⟩ := C__law_row.ex
  obtain ⟨f__law_power, fd__law_power, G__law_power, g__law_power, kp__law_power, bi__law_power⟩ := C__law_power.ex
  refine F.ok sc__law_least (len__law_least (K := K)) (fun cdv A outer s H vs Q E hr h => ?_)
  have hl : vs.length = 5 := len__law_least (K := K) vs H Q E h
  match vs, hl, h with
  | [v0, v1, v2, v3, v4], _, h => exact ⟨_, PSs.nox ((pss_cons (ps_par3 (i := 5) (j := 6) (l := 7) rfl sc__law_least.nd rfl rfl rfl (by decide) (by decide) (by decide) rfl rfl rfl (pa_cons (pe_op op_sub (L2.pv 0) (L2.pv 1)) (pa_cons (pe_ix ix_list (pe_call G__law_row (hr.mono (Nat.le_of_ble_eq_true rfl)) rfl g__law_row kp__law_row bi__law_row .nil pass0 (pa_cons (L2.pv 2) pa_nil)) (L2.pv 3) (fun _ _ => rfl)) (pa_cons (pe_lst pa_nil) pa_nil))) rfl) (pss_cons (ps_if (PW.pt (pw_and (pt_cmpR op_eq (L2.pv 3) (L2.pv 2) (nomark _)) (pw_and (pt_cmpR op_gt (L2.pv 4) (pe_op op_mulW (pe_op op_mul pe_int (L2.pv 5)) (L2.pv 2)) (nomark _)) (pw_and1 (pt_cmpR op_ge (L2.pv 4) pe_int (nomark _)))))) (pss_one (ps_expr (pe_bm PySem.F.plainAttrs_list PySem.F.slot_list_append PySem.F.type_list_append mt_append (L2.pv 7) (pa_cons (pe_op op_add (pe_op op_add (pe_op op_mulW (pe_op op_mul (L2.pv 0) pe_int) (L2.pv 2)) (L2.pv 1)) pe_int) pa_nil)))) pss_nil) (pss_cons (ps_if (pt_cmpR op_gt (pe_call G__law_power (hr.mono (Nat.le_of_ble_eq_true rfl)) rfl g__law_power kp__law_power bi__law_power .nil pass0 (pa_cons (L2.pv 4) (pa_cons (L2.pv 5) pa_nil))) (pe_op op_mulW (L2.pv 3) (L2.pv 6)) (nomark _)) (pss_cons (ps_if (PW.pt (pw_and (pt_cmpR op_lt (L2.pv 3) (L2.pv 2) (nomark _)) (pw_and1 (pt_cmpR op_ge (pe_op op_mulW (pe_op op_sub (L2.pv 6) pe_int) (L2.pv 4)) (pe_op op_mulW (pe_op op_mul pe_int (L2.pv 5)) (pe_op op_add (L2.pv 2) (L2.pv 3))) (nomark _))))) (pss_one (ps_expr (pe_bm PySem.F.plainAttrs_list PySem.F.slot_list_append PySem.F.type_list_append mt_append (L2.pv 7) (pa_cons (pe_op op_add (pe_op op_add (pe_op op_mulW (L2.pv 0) (pe_op op_add (L2.pv 2) (L2.pv 3))) (L2.pv 1)) pe_int) pa_nil)))) pss_nil) (pss_one (ps_for PassesOwn.never rfl (pi_range2 rfl b_range (pa_cons pe_int (pa_cons pe_int pa_nil))) (pg_name (i := 8) sc__law_least.nd rfl (Or.inl rfl)) (pss_one (ps_if (pt_cmpR op_gt (L2.pv 6) (pe_op op_mulW (pe_op op_mul pe_int (pe_op op_add (pe_op op_mulW (L2.pv 5) (pe_op op_add (L2.pv 2) (L2.pv 3))) (L2.pv 8))) (pe_call G__law_power (hr.mono (Nat.le_of_ble_eq_true rfl)) rfl g__law_power kp__law_power bi__law_power .nil pass0 (pa_cons (L2.pv 4) (pa_cons (pe_op op_sub (L2.pv 8) pe_int) pa_nil)))) (nomark _)) (pss_one (ps_expr (pe_bm PySem.F.plainAttrs_list PySem.F.slot_list_append PySem.F.type_list_append mt_append (L2.pv 7) (pa_cons (pe_op op_add (pe_op op_add (pe_op op_add (pe_op op_mulW (L2.pv 0) (pe_op op_add (L2.pv 2) (L2.pv 3))) (L2.pv 8)) pe_int) (pe_op op_mulW (L2.pv 1) (pe_op op_fdivW (pe_op op_add (L2.pv 8) (L2.pv 5)) (L2.pv 5)))) pa_nil)))) pss_nil))))) pss_nil) (pss_one (ps_ret (pe_ifExp (pt_cmpR (op_neD (hu64 hr)) (L2.pv 7) (pe_lst pa_nil) (nomark _)) (pe_callB (cr_max rfl) rfl b_max bt_max (pa_cons (L2.pv 7) pa_nil)) pe_non))))))), prom_ok (n := 5) (Ret := (rIm K)) (As := fun i : Int × Int × Int × Int × Int => [.im (pv K i.1), .im (pv K i.2.1), .im (pv K i.2.2.1), .im (pv K i.2.2.2.1), .im (pv K i.2.2.2.2)]) (m := fun i => m__law_least i.1 i.2.1 i.2.2.1 i.2.2.2.1 i.2.2.2.2) 4 (fun _ => rfl) rfl (fun (n, f_, m, k, q) => (show RN (rIm K) _ (fun (s : Unit) => [.im (pv K n), .im (pv K f_), .im (pv K m), .im (pv K k), .im (pv K q), .no, .no, .no, .no]) (m__law_least n f_ m k q) (fun (s : Unit) => [.no, .no, .no, .no, .no, .no, .no, .no, .no]) from (rn_of (rt_seq (rp_asg3 (Γ' := fun z247 (s : Unit) => [.im (pv K n), .im (pv K f_), .im (pv K m), .im (pv K k), .im (pv K q), .im (pv K ((n - f_) : Int)), .im (pv K z247.1), .ow (ol K z247.2.1), .no]) (ao_p (fun _ => (ep_op (ep_var rfl) (ep_var rfl) o_sub)) (ao_m (em_ixLr (em_of_eo (eo_call0 (i := m) (ps := [pv K m]) (fun _ => (ap_cons (ep_var rfl) ap_nil)) rfl)) fun _ => (ep_var rfl)) (ao_o (eo_lst (xs := ([] : (List Int))) (fun _ => ap_nil)) ao_nil))) (fun _ => asg_ok rfl) (fun _ => rfl) (fun _ => rfl) fun _ _ => rfl) fun z247 => (rt_seq (rp_if (Γ' := fun t260 (s : Unit) => [.im (pv K n), .im (pv K f_), .im (pv K m), .im (pv K k), .im (pv K q), .im (pv K ((n - f_) : Int)), .im (pv K z247.1), .ow (ol K t260), .no]) (tm_and (tm_pure fun _ => (tp_test (ep_op (ep_var rfl) (ep_var rfl) o_eq))) (tm_and (tm_test (em_opl (g := fun (u : Int) (v : Int) => decide (v < u)) (fun _ => (ep_var rfl)) (em_opC2 (fun _ => (ep_op (ep_int (K := K)) (ep_var rfl) (o_mulL rfl))) (fun _ => (ep_var rfl)) fun h => o_mulW h) fun _ => o_gt)) (tm_pure fun _ => (tp_test (ep_op (ep_var rfl) (ep_int (K := K)) o_ge))))) (rp_post (f := fun found265 => found265) (rp_app (Γ' := fun found265 (s : Unit) => [.im (pv K n), .im (pv K f_), .im (pv K m), .im (pv K k), .im (pv K q), .im (pv K ((n - f_) : Int)), .im (pv K z247.1), .ow (ol K found265), .no]) (fun _ => rfl) (em_opr (g := fun (u : Int) (v : Int) => (u + v)) (em_opr (g := fun (u : Int) (v : Int) => (u + v)) (em_opC2 (fun _ => (ep_op (ep_var rfl) (ep_int (K := K)) (o_mulR rfl))) (fun _ => (ep_var rfl)) fun h => o_mulW h) (fun _ => (ep_var rfl)) fun _ => o_add) (fun _ => (ep_int (K := K))) fun _ => o_add) fun _ _ => rfl) fun found265 s => (.cons (.rfl _) (.cons (.rfl _) (.cons (.rfl _) (.cons (.rfl _) (.cons (.rfl _) (.cons (.rfl _) (.cons (.rfl _) (.cons (.rfl _) (.cons (.rfl _) .nil)))))))))) (rp_next (x := z247.2.1) fun s => (.cons (.rfl _) (.cons (.rfl _) (.cons (.rfl _) (.cons (.rfl _) (.cons (.rfl _) (.cons (.rfl _) (.cons (.rfl _) (.cons (.rfl _) (.cons (.rfl _) .nil))))))))))) fun t260 => (rt_seq (rp_if (Γ' := fun t271 (s : Unit) => [.im (pv K n), .im (pv K f_), .im (pv K m), .im (pv K k), .im (pv K q), .im (pv K ((n - f_) : Int)), .im (pv K z247.1), .ow (ol K t271), .no]) (tm_test (em_op (g := fun (u : Int) (v : Int) => decide (v < u)) (em_of_eo (eo_call0 (i := (q, ((n - f_) : Int))) (ps := [pv K q, pv K ((n - f_) : Int)]) (fun _ => (ap_cons (ep_var rfl) (ap_cons (ep_var rfl) ap_nil))) rfl)) (em_opC2 (fun _ => (ep_var rfl)) (fun _ => (ep_var rfl)) fun h => o_mulW h) fun _ _ => o_gt)) (rp_seq (rp_if (Γ' := fun t275 (s : Unit) => [.im (pv K n), .im (pv K f_), .im (pv K m), .im (pv K k), .im (pv K q), .im (pv K ((n - f_) : Int)), .im (pv K z247.1), .ow (ol K t275), .no]) (tm_and (tm_pure fun _ => (tp_test (ep_op (ep_var rfl) (ep_var rfl) o_lt))) (tm_test (em_op (g := fun (u : Int) (v : Int) => decide (v ≤ u)) (em_opC2 (fun _ => (ep_op (ep_var rfl) (ep_int (K := K)) o_sub)) (fun _ => (ep_var rfl)) fun h => o_mulW h) (em_opC2 (fun _ => (ep_op (ep_int (K := K)) (ep_var rfl) (o_mulL rfl))) (fun _ => (ep_op (ep_var rfl) (ep_var rfl) o_add)) fun h => o_mulW h) fun _ _ => o_ge))) (rp_post (f := fun found280 => found280) (rp_app (Γ' := fun found280 (s : Unit) => [.im (pv K n), .im (pv K f_), .im (pv K m), .im (pv K k), .im (pv K q), .im (pv K ((n - f_) : Int)), .im (pv K z247.1), .ow (ol K found280), .no]) (fun _ => rfl) (em_opr (g := fun (u : Int) (v : Int) => (u + v)) (em_opr (g := fun (u : Int) (v : Int) => (u + v)) (em_opC2 (fun _ => (ep_var rfl)) (fun _ => (ep_op (ep_var rfl) (ep_var rfl) o_add)) fun h => o_mulW h) (fun _ => (ep_var rfl)) fun _ => o_add) (fun _ => (ep_int (K := K))) fun _ => o_add) fun _ _ => rfl) fun found280 s => (.cons (.rfl _) (.cons (.rfl _) (.cons (.rfl _) (.cons (.rfl _) (.cons (.rfl _) (.cons (.rfl _) (.cons (.rfl _) (.cons (.rfl _) (.cons (.rfl _) .nil)))))))))) (rp_next (x := t260) fun s => (.cons (.rfl _) (.cons (.rfl _) (.cons (.rfl _) (.cons (.rfl _) (.cons (.rfl _) (.cons (.rfl _) (.cons (.rfl _) (.cons (.rfl _) (.cons (.rfl _) .nil))))))))))) fun t275 => (rp_post (f := fun t303 => t303) (rp_for (ΓL := fun (t282 : (List Int)) (s : Unit) => [.im (pv K n), .im (pv K f_), .im (pv K m), .im (pv K k), .im (pv K q), .im (pv K ((n - f_) : Int)), .im (pv K z247.1), .ow (ol K t282), .no]) (Γx := fun (a283 : Int) (t282 : (List Int)) (s : Unit) => [.im (pv K n), .im (pv K f_), .im (pv K m), .im (pv K k), .im (pv K q), .im (pv K ((n - f_) : Int)), .im (pv K z247.1), .ow (ol K t282), .im (pv K a283)]) (im_rng2 fun _ => (ap_cons (ep_int (K := K)) (ap_cons (ep_int (K := K)) ap_nil))) (fun s => (.cons (.rfl _) (.cons (.rfl _) (.cons (.rfl _) (.cons (.rfl _) (.cons (.rfl _) (.cons (.rfl _) (.cons (.rfl _) (.cons (.rfl _) (.cons (.rfl _) .nil)))))))))) (fun a283 t282 s => (gt_name (Γ := [.im (pv K n), .im (pv K f_), .im (pv K m), .im (pv K k), .im (pv K q), .im (pv K ((n - f_) : Int)), .im (pv K z247.1), .ow (ol K t282), .no]) (i := 8) (Γ' := [.im (pv K n), .im (pv K f_), .im (pv K m), .im (pv K k), .im (pv K q), .im (pv K ((n - f_) : Int)), .im (pv K z247.1), .ow (ol K t282), .im (pv K a283)]) rfl rfl)) fun a283 t282 => (rp_post (f := fun t292 => t292) (rp_if (Γ' := fun t292 (s : Unit) => [.im (pv K n), .im (pv K f_), .im (pv K m), .im (pv K k), .im (pv K q), .im (pv K ((n - f_) : Int)), .im (pv K z247.1), .ow (ol K t292), .im (pv K a283)]) (tm_test (em_opl (g := fun (u : Int) (v : Int) => decide (v < u)) (fun _ => (ep_var rfl)) (em_opC (g := fun (u : Int) (v : Int) => (u * v)) (c := fun (u : Int) (v : Int) => mulOk u v) (em_opl (g := fun (u : Int) (v : Int) => (u * v)) (fun _ => (ep_int (K := K))) (em_opr (g := fun (u : Int) (v : Int) => (u + v)) (em_opC2 (fun _ => (ep_var rfl)) (fun _ => (ep_op (ep_var rfl) (ep_var rfl) o_add)) fun h => o_mulW h) (fun _ => (ep_var rfl)) fun _ => o_add) fun _ => (o_mulL rfl)) (em_of_eo (eo_call0 (i := (q, ((a283 - (1 : Int)) : Int))) (ps := [pv K q, pv K ((a283 - (1 : Int)) : Int)]) (fun _ => (ap_cons (ep_var rfl) (ap_cons (ep_op (ep_var rfl) (ep_int (K := K)) o_sub) ap_nil))) rfl)) fun _ _ h => (o_mulW h)) fun _ => o_gt)) (rp_post (f := fun found301 => found301) (rp_app (Γ' := fun found301 (s : Unit) => [.im (pv K n), .im (pv K f_), .im (pv K m), .im (pv K k), .im (pv K q), .im (pv K ((n - f_) : Int)), .im (pv K z247.1), .ow (ol K found301), .im (pv K a283)]) (fun _ => rfl) (em_op (g := fun (u : Int) (v : Int) => (u + v)) (em_opr (g := fun (u : Int) (v : Int) => (u + v)) (em_opr (g := fun (u : Int) (v : Int) => (u + v)) (em_opC2 (fun _ => (ep_var rfl)) (fun _ => (ep_op (ep_var rfl) (ep_var rfl) o_add)) fun h => o_mulW h) (fun _ => (ep_var rfl)) fun _ => o_add) (fun _ => (ep_int (K := K))) fun _ => o_add) (em_oplC (g := fun (u : Int) (v : Int) => (u * v)) (c := fun (u : Int) (v : Int) => mulOk u v) (fun _ => (ep_var rfl)) (em_opC2 (fun _ => (ep_op (ep_var rfl) (ep_var rfl) o_add)) (fun _ => (ep_var rfl)) fun h => o_divW h) fun _ h => (o_mulW h)) fun _ _ => o_add) fun _ _ => rfl) fun found301 s => (.cons (.rfl _) (.cons (.rfl _) (.cons (.rfl _) (.cons (.rfl _) (.cons (.rfl _) (.cons (.rfl _) (.cons (.rfl _) (.cons (.rfl _) (.cons (.rfl _) .nil)))))))))) (rp_next (x := t282) fun s => (.cons (.rfl _) (.cons (.rfl _) (.cons (.rfl _) (.cons (.rfl _) (.cons (.rfl _) (.cons (.rfl _) (.cons (.rfl _) (.cons (.rfl _) (.cons (.rfl _) .nil))))))))))) fun t292 s => (.cons (.rfl _) (.cons (.rfl _) (.cons (.rfl _) (.cons (.rfl _) (.cons (.rfl _) (.cons (.rfl _) (.cons (.rfl _) (.cons (.rfl _) (.cons (.no _) .nil))))))))))) fun t303 s => (.cons (.rfl _) (.cons (.rfl _) (.cons (.rfl _) (.cons (.rfl _) (.cons (.rfl _) (.cons (.rfl _) (.cons (.rfl _) (.cons (.rfl _) (.cons (.rfl _) .nil))))))))))) (rp_next (x := t260) fun s => (.cons (.rfl _) (.cons (.rfl _) (.cons (.rfl _) (.cons (.rfl _) (.cons (.rfl _) (.cons (.rfl _) (.cons (.rfl _) (.cons (.rfl _) (.cons (.rfl _) .nil))))))))))) fun t271 => (rt_ret (em_if (tm_pure fun _ => (tp_bor (Γ0 := [.im (pv K n), .im (pv K f_), .im (pv K m), .im (pv K k), .im (pv K q), .im (pv K ((n - f_) : Int)), .im (pv K z247.1), .im (pv K t271), .no]) (.cons (.rfl _) (.cons (.rfl _) (.cons (.rfl _) (.cons (.rfl _) (.cons (.rfl _) (.cons (.rfl _) (.cons (.rfl _) (.cons (.fr fr_ol) (.cons (.rfl _) .nil))))))))) rfl (tp_test (ep_op (ep_var rfl) (ep_lst (xs := ([] : (List Int))) (hl := Nat.le_of_ble_eq_true rfl) ap_nil) (o_neDt (Nat.le_of_ble_eq_true rfl)))))) (em_some (fun _ => nn_int) (em_bor (Γ0 := [.im (pv K n), .im (pv K f_), .im (pv K m), .im (pv K k), .im (pv K q), .im (pv K ((n - f_) : Int)), .im (pv K z247.1), .im (pv K t271), .no]) (fun _ => (.cons (.rfl _) (.cons (.rfl _) (.cons (.rfl _) (.cons (.rfl _) (.cons (.rfl _) (.cons (.rfl _) (.cons (.rfl _) (.cons (.fr fr_ol) (.cons (.rfl _) .nil)))))))))) rfl (em_cbC0 (fun _ => (ap_cons (ep_var rfl) ap_nil)) fun h => (c_maxL h)))) (em_pure fun _ => ep_nonO)) fun s => (.cons (.no _) (.cons (.no _) (.cons (.no _) (.cons (.no _) (.cons (.no _) (.cons (.no _) (.cons (.no _) (.cons (.drop _) (.cons (.rfl _) .nil)))))))))))))))) h⟩
theorem ok__law_least {f : Addr} {fd : FuncData} (F : FnP K "_law_least" (top 49) f fd) (hg : mg "_law_least" = some (.ref f)) (b_max : mg "max" = none) (b_range : mg "range" = none) (C__law_row : Cal P w K mg base 1 "_law_row" ["m"] (sp__law_row K)) (C__law_power : Cal P w K mg base 1 "_law_power" ["base", "many"] (sp__law_power K)) : Cal P w K mg base 2 "_law_least" ["n", "f", "m", "k", "q"] (sp__law_least K) := ⟨f, fd, fo__law_least F b_max b_range C__law_row C__law_power, hg, F.kp, F.bindsN fun _ _ _ _ _ _ us hl => match us, hl with | [_, _, _, _, _], _ => rfl⟩
def m__law_prime (number : Int) : Mn Unit Bool :=
  (mb (mp (decide ((1 : Int) < number) : Bool)) fun b310 => mi b310 (mb (mb (mc (b62 ((2 : Int) : Int) && b62 ((if (32 : Int) < number then (32 : Int) else number) : Int)) (rng ((2 : Int) : Int) (((if (32 : Int) < number then (32 : Int) else number) : Int) - ((2 : Int) : Int)).toNat)) fun xs => cmP xs (fun (a305 : Int) => (mb (mc (modOk a305) (number % a305)) fun x_306 => mp (decide (x_306 = (0 : Int))))) fun a305 => (mp a305)) fun x_308 => mp (decide (x_308 = ([] : (List Int))))) (mp false))
abbrev sp__law_prime (K : PySem.W.Frag) : Sp := Prom (rIm K) (S := Unit) (fun i : Int => [.im (pv K i)]) fun i => m__law_prime i
theorem len__law_prime : ∀ vs H Q E, sp__law_prime K vs H Q E → vs.length = 1 := prom_len (Ret := (rIm K)) (As := fun i : Int => [.im (pv K i)]) (m := fun i => m__law_prime i) fun _ => rfl
theorem sc__law_prime : FnScope ["number", "one"] ["number"] (defScope (top 50)) := ⟨rfl, rfl, rfl, by decide +kernel, rfl, by decide +kernel, by decide +kernel⟩
theorem fo__law_prime {f : Addr} {fd : FuncData} (F : FnP K "_law_prime" (top 50) f fd) (b_int : mg "int" = none) (b_min : mg "min" = none) (b_range : mg "range" = none) : FnOk P w K mg base CX0 1 f fd ["number"] (sp__law_prime K) := by
  refine F.ok sc__law_prime (len__law_prime (K := K)) (fun cdv A outer s H vs Q E hr h => ?_)
  have hl : vs.length = 1 := len__law_prime (K := K) vs H Q E h
  match vs, hl, h with
  | [v0], _, h => exact ⟨_, PSs.nox ((pss_one (ps_ret (pe_and (pe_cmpR op_gt (L2.pv 0) pe_int (nomark _)) (pe_one (pe_cmpR (op_eqD (hu64 hr)) (pe_lc (own := [("one", 1)]) rfl sc__law_prime.nd (pi_range2 rfl b_range (pa_cons pe_int (pa_cons (pe_callB (call_min2 rfl) rfl b_min bt_min (pa_cons (L2.pv 0) (pa_cons pe_int pa_nil))) pa_nil))) (blkOk_by (own := [("one", 1)]) (N := ["number", "one"]) (sc := defScope (top 50)) (by decide +kernel)) (fun _ _ _ _ _ => (pg_name (i := 1) sc__law_prime.nd rfl (Or.inl rfl))) (fun _ _ _ _ _ => (pts_one (pt_cmpR op_eq (pe_op op_mod (pe_callTy call_int1 rfl b_int bt_int (pa_cons (L2.pv 0) pa_nil)) (L2.pv 1)) pe_int (nomark _)))) (fun _ _ _ _ _ => (L2.pv 1))) (pe_lst pa_nil) (nomark _))))))), prom_ok (n := 1) (Ret := (rIm K)) (As := fun i : Int => [.im (pv K i)]) (m := fun i => m__law_prime i) 1 (fun _ => rfl) rfl (fun number => (show RN (rIm K) _ (fun (s : Unit) => [.im (pv K number), .no]) (m__law_prime number) (fun (s : Unit) => [.no, .no]) from (rn_of (rt_ret (em_andV (em_pure fun _ => (ep_op (ep_var rfl) (ep_int (K := K)) o_gt)) (em_opr (g := fun (u : (List Int)) (v : (List Int)) => decide (u = v)) (em_lc (Γx := fun (a305 : Int) (s : Unit) => [.im (pv K number), .im (pv K a305)]) (js := [1]) (im_rng2 fun _ => (ap_cons (ep_int (K := K)) (ap_cons (ep_cb (ap_cons (ep_var rfl) (ap_cons (ep_int (K := K)) ap_nil)) c_min2) ap_nil))) (fun _ => rfl) (fun a305 s => (gt_name (Γ := [.im (pv K number), .no]) (i := 1) (Γ' := [.im (pv K number), .im (pv K a305)]) rfl rfl)) rfl (fun a305 => (tm_test (em_opr (g := fun (u : Int) (v : Int) => decide (u = v)) (em_opC2 (fun _ => (ep_cb (ap_cons (ep_var rfl) ap_nil) c_int)) (fun _ => (ep_var rfl)) fun h => o_mod h) (fun _ => (ep_int (K := K))) fun _ => o_eq))) (fun a305 => (em_pure fun _ => (ep_var rfl))) fun a305 s => (.cons (.rfl _) (.cons (.no _) .nil))) (fun _ => (ep_lst (xs := ([] : (List Int))) (hl := Nat.le_of_ble_eq_true rfl) ap_nil)) fun _ => (o_eqDt (Nat.le_of_ble_eq_true rfl)))) fun s => (.cons (.no _) (.cons (.rfl _) .nil)))))) h⟩
theorem ok__law_prime {f : Addr} {fd : FuncData} (F : FnP K "_law_prime" (top 50) f fd) (hg : mg "_law_prime" = some (.ref f)) (b_int : mg "int" = none) (b_min : mg "min" = none) (b_range : mg "range" = none) : Cal P w K mg base 1 "_law_prime" ["number"] (sp__law_prime K) := ⟨f, fd, fo__law_prime F b_int b_min b_range, hg, F.kp, F.bindsN fun _ _ _ _ _ _ us hl => match us, hl with | [_], _ => rfl⟩
def m__law_prime_from (number : Int) : Mn Unit Int :=
  (mb (mb (mc (b62 number && b62 ((if (number + (24 : Int)) < (998 : Int) then (number + (24 : Int)) else (998 : Int)) : Int)) (rng number (((if (number + (24 : Int)) < (998 : Int) then (number + (24 : Int)) else (998 : Int)) : Int) - number).toNat)) fun xs => cmP xs (fun (a311 : Int) => (mu (m__law_prime a311))) fun a311 => (mp a311)) fun found312 =>
  (mb (mp (!decide (found312 = ([] : (List Int))))) fun b315 => mi b315 (mo (atI found312 (0 : Int))) (mp ((997 : Int) : Int))))
abbrev sp__law_prime_from (K : PySem.W.Frag) : Sp := Prom (rIm K) (S := Unit) (fun i : Int => [.im (pv K i)]) fun i => m__law_prime_from i
theorem len__law_prime_from : ∀ vs H Q E, sp__law_prime_from K vs H Q E → vs.length = 1 := prom_len (Ret := (rIm K)) (As := fun i : Int => [.im (pv K i)]) (m := fun i => m__law_prime_from i) fun _ => rfl
theorem sc__law_prime_from : FnScope ["number", "found", "one"] ["number"] (defScope (top 51)) := ⟨rfl, rfl, rfl, by decide +kernel, rfl, by decide +kernel, by decide +kernel⟩
theorem fo__law_prime_from {f : Addr} {fd : FuncData} (F : FnP K "_law_prime_from" (top 51) f fd) (b_min : mg "min" = none) (b_range : mg "range" = none) (C__law_prime : Cal P w K mg base 1 "_law_prime" ["number"] (sp__law_prime K)) : FnOk P w K mg base CX0 2 f fd ["number"] (sp__law_prime_from K) := by
  obtain ⟨f__law_prime, fd__law_prime, G__law_prime, g__law_prime, kp__law_prime, bi__law_prime⟩ := C__law_prime.ex
  refine F.ok sc__law_prime_from (len__law_prime_from (K := K)) (fun cdv A outer s H vs Q E hr h => ?_)
  have hl : vs.length = 1 := len__law_prime_from (K := K) vs H Q E h
  match vs, hl, h with
  | [v0], _, h => exact ⟨_, PSs.nox ((pss_cons (ps_setLc (i := 1) (own := [("one", 2)]) rfl sc__law_prime_from.nd rfl rfl (sw_true rfl rfl rfl (by decide +kernel)) (pi_range2 rfl b_range (pa_cons (L2.pv 0) (pa_cons (pe_callB (call_min2 rfl) rfl b_min bt_min (pa_cons pe_int (pa_cons (pe_op op_add (L2.pv 0) pe_int) pa_nil))) pa_nil))) (blkOk_by (own := [("one", 2)]) (N := ["number", "found", "one"]) (sc := defScope (top 51)) (by decide +kernel)) (fun _ _ _ _ _ => (pg_name (i := 2) sc__law_prime_from.nd rfl (Or.inl rfl))) (fun _ _ _ _ _ => (pts_one (pt_val (pe_call G__law_prime (hr.mono (Nat.le_of_ble_eq_true rfl)) rfl g__law_prime kp__law_prime bi__law_prime .nil pass0 (pa_cons (L2.pv 2) pa_nil))))) (fun _ _ _ _ _ => (L2.pv 2))) (pss_one (ps_ret (pe_ifExp (pt_cmpR (op_neD (hu64 hr)) (L2.pv 1) (pe_lst pa_nil) (nomark _)) (pe_ix ix_list (L2.pv 1) pe_int (fun _ _ => rfl)) pe_int))))), prom_ok (n := 1) (Ret := (rIm K)) (As := fun i : Int => [.im (pv K i)]) (m := fun i => m__law_prime_from i) 2 (fun _ => rfl) rfl (fun number => (show RN (rIm K) _ (fun (s : Unit) => [.im (pv K number), .no, .no]) (m__law_prime_from number) (fun (s : Unit) => [.no, .no, .no]) from (rn_of (rt_seq (rp_asg (Γ := fun (s : Unit) => [.im (pv K number), .no, .no]) (i := 1) (Γ' := fun found312 (s : Unit) => [.im (pv K number), .im (pv K found312), .no]) (em_lc (Γx := fun (a311 : Int) (s : Unit) => [.im (pv K number), .no, .im (pv K a311)]) (js := [2]) (im_rng2 fun _ => (ap_cons (ep_var rfl) (ap_cons (ep_cb (ap_cons (ep_int (K := K)) (ap_cons (ep_op (ep_var rfl) (ep_int (K := K)) o_add) ap_nil)) c_min2) ap_nil))) (fun _ => rfl) (fun a311 s => (gt_name (Γ := [.im (pv K number), .no, .no]) (i := 2) (Γ' := [.im (pv K number), .no, .im (pv K a311)]) rfl rfl)) rfl (fun a311 => (tm_B (em_of_eo (eo_call0 (i := a311) (ps := [pv K a311]) (fun _ => (ap_cons (ep_var rfl) ap_nil)) rfl)))) (fun a311 => (em_pure fun _ => (ep_var rfl))) fun a311 s => (.cons (.rfl _) (.cons (.rfl _) (.cons (.no _) .nil)))) (fun _ => rfl) fun _ _ => rfl) fun found312 => (rt_ret (em_if (tm_pure fun _ => (tp_test (ep_op (ep_var rfl) (ep_lst (xs := ([] : (List Int))) (hl := Nat.le_of_ble_eq_true rfl) ap_nil) (o_neDt (Nat.le_of_ble_eq_true rfl))))) (em_ixLp (fun _ => (ep_var rfl)) fun _ => (ep_int (K := K))) (em_pure fun _ => (ep_int (K := K)))) fun s => (.cons (.no _) (.cons (.no _) (.cons (.rfl _) .nil)))))))) h⟩
theorem ok__law_prime_from {f : Addr} {fd : FuncData} (F : FnP K "_law_prime_from" (top 51) f fd) (hg : mg "_law_prime_from" = some (.ref f)) (b_min : mg "min" = none) (b_range : mg "range" = none) (C__law_prime : Cal P w K mg base 1 "_law_prime" ["number"] (sp__law_prime K)) : Cal P w K mg base 2 "_law_prime_from" ["number"] (sp__law_prime_from K) := ⟨f, fd, fo__law_prime_from F b_min b_range C__law_prime, hg, F.kp, F.bindsN fun _ _ _ _ _ _ us hl => match us, hl with | [_], _ => rfl⟩
def m__law_symbols (n : Int) (f_ : Int) (lots : Int) (q : Int) : Mn Unit (Option Int) :=
  (mb (mp (decide (lots < q))) fun b => mi b
    (mp ((cond (decide (lots = (1 : Int))) (some (0 : Int)) (some (1 : Int))) : (Option Int)))
    (mb (mb (mc (b62 ((if (q - (24 : Int)) > (2 : Int) then (q - (24 : Int)) else (2 : Int)) : Int) && b62 q) (rng ((if (q - (24 : Int)) > (2 : Int) then (q - (24 : Int)) else (2 : Int)) : Int) (q - ((if (q - (24 : Int)) > (2 : Int) then (q - (24 : Int)) else (2 : Int)) : Int)).toNat)) fun xs => cmP xs (fun (a316 : Int) => (mu (m__law_prime a316))) fun a316 => (mp a316)) fun below317 =>
  (mb (mb (mc (b62 ((2 : Int) : Int) && b62 ((16 : Int) : Int)) (rng ((2 : Int) : Int) (((16 : Int) : Int) - ((2 : Int) : Int)).toNat)) fun xs => forC (β := Empty) xs () fun a319 (t318 : Unit) =>
    (mb (mb (mp (!decide (below317 = ([] : (List Int))))) fun b329 => mi b329 (mb (mb (mb (mo (atI below317 (((below317.length : Nat) : Int) - (1 : Int)))) fun x_324 => mb (mb (mp a319) fun x_322 => mb (mp ()) fun z323 => mp (x_322, z323)) fun z325 => mp (x_324, z325)) fun z326 => mu (m__law_power z326.1 z326.2.1)) fun x_327 => mp (decide (lots ≤ x_327))) (mp false)) fun b => mi b
      (mb (mb (mb (mo (atI below317 (((below317.length : Nat) : Int) - (1 : Int)))) fun x_336 => mb (mb (mb (mc (divOk (n - f_)) (((a319 + n) - f_) / (n - f_))) fun y333 => mc (mulOk f_ y333) (f_ * y333)) fun y335 => mp ((a319 + (1 : Int)) + y335)) fun y337 => mp (decide (y337 ≤ x_336))) fun b338 => mi b338 (mp ((some a319) : (Option Int))) (mp ((none : (Option Int)) : (Option Int)))) fun x => mp (.rt x))
      (mp (.nx ())))) (ctk (fun t339 => (mp ((none : (Option Int)) : (Option Int)))) fun _ => mbad))))
abbrev sp__law_symbols (K : PySem.W.Frag) : Sp := Prom (rIm K) (S := Unit) (fun i : Int × Int × Int × Int => [.im (pv K i.1), .im (pv K i.2.1), .im (pv K i.2.2.1), .im (pv K i.2.2.2)]) fun i => m__law_symbols i.1 i.2.1 i.2.2.1 i.2.2.2
theorem len__law_symbols : ∀ vs H Q E, sp__law_symbols K vs H Q E → vs.length = 4 := prom_len (Ret := (rIm K)) (As := fun i : Int × Int × Int × Int => [.im (pv K i.1), .im (pv K i.2.1), .im (pv K i.2.2.1), .im (pv K i.2.2.2)]) (m := fun i => m__law_symbols i.1 i.2.1 i.2.2.1 i.2.2.2) fun _ => rfl
theorem sc__law_symbols : FnScope ["n", "f", "lots", "q", "below", "j", "one"] ["n", "f", "lots", "q"] (defScope (top 52)) := ⟨rfl, rfl, rfl, by decide +kernel, rfl, by decide +kernel, by decide +kernel⟩
theorem fo__law_symbols {f : Addr} {fd : FuncData} (F : FnP K "_law_symbols" (top 52) f fd) (b_len : mg "len" = none) (b_max : mg "max" = none) (b_range : mg "range" = none) (C__law_prime : Cal P w K mg base 1 "_law_prime" ["number"] (sp__law_prime K)) (C__law_power : Cal P w K mg base 1 "_law_power" ["base", "many"] (sp__law_power K)) : FnOk P w K mg base CX0 2 f fd ["n", "f", "lots", "q"] (sp__law_symbols K) := by
  obtain ⟨f__law_prime, fd__law_prime, G__law_prime, g__law_prime, kp__law_prime, bi__law_prime⟩ := C__law_prime.ex
  obtain ⟨f__law_power, fd__law_power, G__law_power, g__law_power, kp__law_power, bi__law_power⟩ := C__law_power.ex
  refine F.ok sc__law_symbols (len__law_symbols (K := K)) (fun cdv A outer s H vs Q E hr h => ?_)
  have hl : vs.length = 4 := len__law_symbols (K := K) vs H Q E h
  match vs, hl, h with
  | [v0, v1, v2, v3], _, h => exact ⟨_, PSs.nox ((pss_cons (ps_if (pt_cmpR op_lt (L2.pv 2) (L2.pv 3) (nomark _)) (pss_one (ps_ret (pe_ifExp (pt_cmpR op_eq (L2.pv 2) pe_int (nomark _)) pe_int pe_int))) pss_nil) (pss_cons (ps_setLc (i := 4) (own := [("one", 6)]) rfl sc__law_symbols.nd rfl rfl (sw_true rfl rfl rfl (by decide +kernel)) (pi_range2 rfl b_range (pa_cons (pe_callB (call_max2 rfl) rfl b_max bt_max (pa_cons pe_int (pa_cons (pe_op op_sub (L2.pv 3) pe_int) pa_nil))) (pa_cons (L2.pv 3) pa_nil))) (blkOk_by (own := [("one", 6)]) (N := ["n", "f", "lots", "q", "below", "j", "one"]) (sc := defScope (top 52)) (by decide +kernel)) (fun _ _ _ _ _ => (pg_name (i := 6) sc__law_symbols.nd rfl (Or.inl rfl))) (fun _ _ _ _ _ => (pts_one (pt_val (pe_call G__law_prime (hr.mono (Nat.le_of_ble_eq_true rfl)) rfl g__law_prime kp__law_prime bi__law_prime .nil pass0 (pa_cons (L2.pv 6) pa_nil))))) (fun _ _ _ _ _ => (L2.pv 6))) (pss_cons (ps_for PassesOwn.never rfl (pi_range2 rfl b_range (pa_cons pe_int (pa_cons pe_int pa_nil))) (pg_name (i := 5) sc__law_symbols.nd rfl (Or.inl rfl)) (pss_one (ps_if (PW.pt (pw_and (pt_cmpR (op_neD (hu64 hr)) (L2.pv 4) (pe_lst pa_nil) (nomark _)) (pw_and1 (pt_cmpR op_ge (pe_call G__law_power (hr.mono (Nat.le_of_ble_eq_true rfl)) rfl g__law_power kp__law_power bi__law_power .nil pass0 (pa_cons (pe_ix ix_list (L2.pv 4) (pe_op op_sub (pe_callB call_len_seq rfl b_len bt_len (pa_cons (L2.pv 4) pa_nil)) pe_int) (fun _ _ => rfl)) (pa_cons (L2.pv 5) pa_nil))) (L2.pv 2) (nomark _))))) (pss_one (ps_ret (pe_ifExp (pt_cmpR op_ge (pe_ix ix_list (L2.pv 4) (pe_op op_sub (pe_callB call_len_seq rfl b_len bt_len (pa_cons (L2.pv 4) pa_nil)) pe_int) (fun _ _ => rfl)) (pe_op op_add (pe_op op_add (L2.pv 5) pe_int) (pe_op op_mulW (L2.pv 1) (pe_op op_fdivW (pe_op op_sub (pe_op op_add (L2.pv 5) (L2.pv 0)) (L2.pv 1)) (pe_op op_sub (L2.pv 0) (L2.pv 1))))) (nomark _)) (L2.pv 5) pe_non))) pss_nil))) (pss_one (ps_ret pe_non)))))), prom_ok (n := 4) (Ret := (rIm K)) (As := fun i : Int × Int × Int × Int => [.im (pv K i.1), .im (pv K i.2.1), .im (pv K i.2.2.1), .im (pv K i.2.2.2)]) (m := fun i => m__law_symbols i.1 i.2.1 i.2.2.1 i.2.2.2) 3 (fun _ => rfl) rfl (fun (n, f_, lots, q) => (show RN (rIm K) _ (fun (s : Unit) => [.im (pv K n), .im (pv K f_), .im (pv K lots), .im (pv K q), .no, .no, .no]) (m__law_symbols n f_ lots q) (fun (s : Unit) => [.no, .no, .no, .no, .no, .no, .no]) from (rn_of (rt_ifr (tm_pure fun _ => (tp_test (ep_op (ep_var rfl) (ep_var rfl) o_lt))) (rt_ret (em_pure fun _ => (ep_if (tp_test (ep_op (ep_var rfl) (ep_int (K := K)) o_eq)) (fun _ => (ep_some nn_int (ep_int (K := K)))) fun _ => (ep_some nn_int (ep_int (K := K))))) fun s => (.cons (.no _) (.cons (.no _) (.cons (.no _) (.cons (.no _) (.cons (.rfl _) (.cons (.rfl _) (.cons (.rfl _) .nil)))))))) (rt_seq (rp_asg (Γ := fun (s : Unit) => [.im (pv K n), .im (pv K f_), .im (pv K lots), .im (pv K q), .no, .no, .no]) (i := 4) (Γ' := fun below317 (s : Unit) => [.im (pv K n), .im (pv K f_), .im (pv K lots), .im (pv K q), .im (pv K below317), .no, .no]) (em_lc (Γx := fun (a316 : Int) (s : Unit) => [.im (pv K n), .im (pv K f_), .im (pv K lots), .im (pv K q), .no, .no, .im (pv K a316)]) (js := [6]) (im_rng2 fun _ => (ap_cons (ep_cb (ap_cons (ep_int (K := K)) (ap_cons (ep_op (ep_var rfl) (ep_int (K := K)) o_sub) ap_nil)) c_max2) (ap_cons (ep_var rfl) ap_nil))) (fun _ => rfl) (fun a316 s => (gt_name (Γ := [.im (pv K n), .im (pv K f_), .im (pv K lots), .im (pv K q), .no, .no, .no]) (i := 6) (Γ' := [.im (pv K n), .im (pv K f_), .im (pv K lots), .im (pv K q), .no, .no, .im (pv K a316)]) rfl rfl)) rfl (fun a316 => (tm_B (em_of_eo (eo_call0 (i := a316) (ps := [pv K a316]) (fun _ => (ap_cons (ep_var rfl) ap_nil)) rfl)))) (fun a316 => (em_pure fun _ => (ep_var rfl))) fun a316 s => (.cons (.rfl _) (.cons (.rfl _) (.cons (.rfl _) (.cons (.rfl _) (.cons (.rfl _) (.cons (.rfl _) (.cons (.no _) .nil)))))))) (fun _ => rfl) fun _ _ => rfl) fun below317 => (rt_seqC (rc_for (β := Empty) (Γb := fun b _ => nomatch b) (Γr := (fun (s : Unit) => [.no, .no, .no, .no, .no, .no, .no])) (ΓL := fun (t318 : Unit) (s : Unit) => [.im (pv K n), .im (pv K f_), .im (pv K lots), .im (pv K q), .im (pv K below317), .no, .no]) (Γx := fun (a319 : Int) (t318 : Unit) (s : Unit) => [.im (pv K n), .im (pv K f_), .im (pv K lots), .im (pv K q), .im (pv K below317), .im (pv K a319), .no]) (im_rng2 fun _ => (ap_cons (ep_int (K := K)) (ap_cons (ep_int (K := K)) ap_nil))) (fun s => (.cons (.rfl _) (.cons (.rfl _) (.cons (.rfl _) (.cons (.rfl _) (.cons (.rfl _) (.cons (.rfl _) (.cons (.rfl _) .nil)))))))) (fun a319 t318 s => (gt_name (Γ := [.im (pv K n), .im (pv K f_), .im (pv K lots), .im (pv K q), .im (pv K below317), .no, .no]) (i := 5) (Γ' := [.im (pv K n), .im (pv K f_), .im (pv K lots), .im (pv K q), .im (pv K below317), .im (pv K a319), .no]) rfl rfl)) fun a319 t318 => (rc_if (tm_and (tm_pure fun _ => (tp_test (ep_op (ep_var rfl) (ep_lst (xs := ([] : (List Int))) (hl := Nat.le_of_ble_eq_true rfl) ap_nil) (o_neDt (Nat.le_of_ble_eq_true rfl))))) (tm_test (em_opr (g := fun (u : Int) (v : Int) => decide (v ≤ u)) (em_of_eo (eo_call0M (f := fun (z326 : Int × Int × Unit) => (z326.1, z326.2.1)) (am_cons (em_ixLp (fun _ => (ep_var rfl)) fun _ => (ep_op (ep_cb (ap_cons (ep_var rfl) ap_nil) c_lenL) (ep_int (K := K)) o_sub)) (am_cons (em_pure fun _ => (ep_var rfl)) am_nil)) fun _ => rfl)) (fun _ => (ep_var rfl)) fun _ => o_ge))) (rc_of_x (rx_ret (rt_ret (em_if (tm_test (em_op (g := fun (u : Int) (v : Int) => decide (v ≤ u)) (em_ixLp (fun _ => (ep_var rfl)) fun _ => (ep_op (ep_cb (ap_cons (ep_var rfl) ap_nil) c_lenL) (ep_int (K := K)) o_sub)) (em_opl (g := fun (u : Int) (v : Int) => (u + v)) (fun _ => (ep_op (ep_var rfl) (ep_int (K := K)) o_add)) (em_oplC (g := fun (u : Int) (v : Int) => (u * v)) (c := fun (u : Int) (v : Int) => mulOk u v) (fun _ => (ep_var rfl)) (em_opC2 (fun _ => (ep_op (ep_op (ep_var rfl) (ep_var rfl) o_add) (ep_var rfl) o_sub)) (fun _ => (ep_op (ep_var rfl) (ep_var rfl) o_sub)) fun h => o_divW h) fun _ h => (o_mulW h)) fun _ => o_add) fun _ _ => o_ge)) (em_pure fun _ => (ep_some nn_int (ep_var rfl))) (em_pure fun _ => ep_nonO)) fun s => (.cons (.no _) (.cons (.no _) (.cons (.no _) (.cons (.no _) (.cons (.no _) (.cons (.no _) (.cons (.rfl _) .nil)))))))))) (rc_of_p (rp_next (x := ()) fun s => (.cons (.rfl _) (.cons (.rfl _) (.cons (.rfl _) (.cons (.rfl _) (.cons (.rfl _) (.cons (.no _) (.cons (.rfl _) .nil))))))))))) fun t339 => (rt_ret (em_pure fun _ => ep_nonO) fun s => (.cons (.no _) (.cons (.no _) (.cons (.no _) (.cons (.no _) (.cons (.no _) (.cons (.rfl _) (.cons (.rfl _) .nil)))))))))))))) h⟩
theorem ok__law_symbols {f : Addr} {fd : FuncData} (F : FnP K "_law_symbols" (top 52) f fd) (hg : mg "_law_symbols" = some (.ref f)) (b_len : mg "len" = none) (b_max : mg "max" = none) (b_range : mg "range" = none) (C__law_prime : Cal P w K mg base 1 "_law_prime" ["number"] (sp__law_prime K)) (C__law_power : Cal P w K mg base 1 "_law_power" ["base", "many"] (sp__law_power K)) : Cal P w K mg base 2 "_law_symbols" ["n", "f", "lots", "q"] (sp__law_symbols K) := ⟨f, fd, fo__law_symbols F b_len b_max b_range C__law_prime C__law_power, hg, F.kp, F.bindsN fun _ _ _ _ _ _ us hl => match us, hl with | [_, _, _, _], _ => rfl⟩
def m__law_world : Mn Box (List Int) :=
  (mb (mb (m__law_take ((8 : Int) : Int)) fun x_350 => mb (mb (mb (m__law_take ((12 : Int) : Int)) fun y343 => mp ((1 : Int) + y343)) fun x_348 => mb (mb (m__law_take ((4 : Int) : Int)) fun x_346 => mb (mp ()) fun z347 => mp (x_346, z347)) fun z349 => mp (x_348, z349)) fun z351 => mp (x_350, z351)) fun z345 =>
  (mb (m__law_take (((13 : Int) - z345.2.1) : Int)) fun f_353 =>
  (mb (mp (decide (z345.1 < (2 : Int)))) fun b => mi b
    (mb (mb (m__law_take ((6 : Int) : Int)) fun y356 => mp ((1 : Int) + y356)) fun m357 =>
  (mb (mb (mb (mb (mb (mp ((2 : Int) : Int)) fun x_381 => mb (mb (mp ((z345.2.1 + f_353) : Int)) fun x_379 => mb (mb (mb (mc (mulOk ((4 : Int) * z345.2.1) m357) (((4 : Int) * z345.2.1) * m357)) fun x_375 => mb (mb (mb (mb (mp ((1 : Int) : Int)) fun x_370 => mb (mb (mb (m__law_take ((200 : Int) : Int)) fun y360 => mp ((1 : Int) + y360)) fun x_368 => mb (mb (mp ((7 : Int) : Int)) fun x_366 => mb (mb (mb (m__law_take ((9 : Int) : Int)) fun y363 => mp ((0 : Int) - y363)) fun x_364 => mb (mp ()) fun z365 => mp (x_364, z365)) fun z367 => mp (x_366, z367)) fun z369 => mp (x_368, z369)) fun z371 => mp (x_370, z371)) fun z372 => mp ([z372.1, z372.2.1, z372.2.2.1, z372.2.2.2.1] : (List Int))) fun x_373 => mo (atI x_373 z345.2.2.1)) fun y376 => mp (x_375 + y376)) fun x_377 => mb (mp ()) fun z378 => mp (x_377, z378)) fun z380 => mp (x_379, z380)) fun z382 => mp (x_381, z382)) fun z383 => mp (mx3 z383.1 z383.2.1 z383.2.2.1)) fun x_384 => mb (mp ()) fun z385 => mp (x_384, z385)) fun z386 => mu (m__law_prime_from z386.1)) fun q387 =>
  (mp (([(z345.2.1 + f_353), f_353, m357, m357, q387, (0 : Int)] : (List Int)) : (List Int)))))
    (mb (mp (decide (z345.1 < (5 : Int)))) fun b => mi b
    (mb (mb (m__law_take ((12 : Int) : Int)) fun i390 => mo (atI (([((24 : Int), (2 : Int)), ((20 : Int), (2 : Int)), ((18 : Int), (3 : Int)), ((17 : Int), (3 : Int)), ((13 : Int), (4 : Int)), ((12 : Int), (5 : Int)), ((10 : Int), (5 : Int)), ((11 : Int), (4 : Int)), ((12 : Int), (4 : Int)), ((9 : Int), (4 : Int)), ((24 : Int), (22 : Int)), ((24 : Int), (1 : Int))] : (List (Int × Int))) : (List (Int × Int))) i390)) fun z391 =>
  (mb (mb (mu (m__law_row z391.1)) fun x_392 => mo (atI x_392 z391.2)) fun lots394 =>
  (mb (mb (mb (mb (mp z345.2.1) fun x_404 => mb (mb (mb (m__law_take ((4 : Int) : Int)) fun y397 => mp ((1 : Int) + y397)) fun x_402 => mb (mb (mp ((2 : Int) : Int)) fun x_400 => mb (mb (mp ((3 : Int) : Int)) fun x_398 => mb (mp ()) fun z399 => mp (x_398, z399)) fun z401 => mp (x_400, z401)) fun z403 => mp (x_402, z403)) fun z405 => mp (x_404, z405)) fun z406 => mp ([z406.1, z406.2.1, z406.2.2.1, z406.2.2.2.1] : (List Int))) fun x_407 => mo (atI x_407 z345.2.2.1)) fun d409 =>
  (mb (mb (mb (mb (mb (mp ((13 : Int) : Int)) fun x_415 => mb (mb (mb (m__law_take (((997 : Int) - lots394) : Int)) fun y412 => mp ((lots394 + (1 : Int)) + y412)) fun x_413 => mb (mp ()) fun z414 => mp (x_413, z414)) fun z416 => mp (x_415, z416)) fun z417 => mp (if z417.2.1 > z417.1 then z417.2.1 else z417.1)) fun x_418 => mb (mp ()) fun z419 => mp (x_418, z419)) fun z420 => mu (m__law_prime_from z420.1)) fun q421 =>
  (mp (([(if (d409 + f_353) < (12 : Int) then (d409 + f_353) else (12 : Int)), ((if (d409 + f_353) < (12 : Int) then (d409 + f_353) else (12 : Int)) - d409), z391.1, z391.2, q421, (1 : Int)] : (List Int)) : (List Int)))))))
    (mb (mp (decide (z345.1 < (7 : Int)))) fun b => mi b
    (mb (mo (atI (([(T4.mk (24 : Int) (5 : Int) (223 : Int) (1 : Int)), (T4.mk (24 : Int) (6 : Int) (373 : Int) (3 : Int)), (T4.mk (24 : Int) (7 : Int) (599 : Int) (7 : Int)), (T4.mk (24 : Int) (6 : Int) (373 : Int) (3 : Int))] : (List (T4 Int Int Int Int))) : (List (T4 Int Int Int Int))) z345.2.2.1)) fun z424 =>
  (mb (mb (m__law_take z424.d) fun y427 => mp ((3 : Int) + y427)) fun d428 =>
  (mb (m__law_take (((13 : Int) - d428) : Int)) fun f_430 =>
  (mp (([(d428 + f_430), f_430, z424.a, z424.b, z424.c, (2 : Int)] : (List Int)) : (List Int))))))
    (mb (mb (m__law_take ((24 : Int) : Int)) fun y433 => mp ((1 : Int) + y433)) fun m434 =>
  (mb (mb (mb (m__law_take m434) fun y437 => mp ((1 : Int) + y437)) fun x_439 => mb (mp ()) fun z440 => mp (x_439, z440)) fun z438 =>
  (mb (mb (mp (([(2 : Int), (3 : Int), (5 : Int), (7 : Int), (11 : Int), (13 : Int), (17 : Int), (29 : Int), (61 : Int), (101 : Int), (499 : Int), (997 : Int)] : (List Int)) : (List Int))) fun xs => cmP xs (fun (a441 : Int) => (mp (decide ((z345.2.1 + (if (3 : Int) < f_353 then (3 : Int) else f_353)) ≤ a441)))) fun a441 => (mp a441)) fun some_442 =>
  (mb (mb (m__law_take (((some_442.length : Nat) : Int) : Int)) fun i445 => mo (atI some_442 i445)) fun q446 =>
  (mb (mb (mb (mp ((z345.2.1 + (if (3 : Int) < f_353 then (3 : Int) else f_353)) : Int)) fun x_455 => mb (mb (mp ((if (3 : Int) < f_353 then (3 : Int) else f_353) : Int)) fun x_453 => mb (mb (mb (mu (m__law_row m434)) fun x_447 => mo (atI x_447 z438.1)) fun x_451 => mb (mb (mp q446) fun x_449 => mb (mp ()) fun z450 => mp (x_449, z450)) fun z452 => mp (x_451, z452)) fun z454 => mp (x_453, z454)) fun z456 => mp (x_455, z456)) fun z457 => mu (m__law_symbols z457.1 z457.2.1 z457.2.2.1 z457.2.2.2.1)) fun j458 =>
  (mb (mp j458.isNone) fun b472 => mi b472 (mp (([(z345.2.1 + (if (3 : Int) < f_353 then (3 : Int) else f_353)), (if (3 : Int) < f_353 then (3 : Int) else f_353), m434, m434, q446, (0 : Int)] : (List Int)) : (List Int))) (mb (mb (mp ((z345.2.1 + (if (3 : Int) < f_353 then (3 : Int) else f_353)) : Int)) fun x_469 => mb (mb (mp ((if (3 : Int) < f_353 then (3 : Int) else f_353) : Int)) fun x_467 => mb (mb (mp m434) fun x_465 => mb (mb (mp z438.1) fun x_463 => mb (mb (mp q446) fun x_461 => mb (mb (mo j458) fun x_459 => mb (mp ()) fun z460 => mp (x_459, z460)) fun z462 => mp (x_461, z462)) fun z464 => mp (x_463, z464)) fun z466 => mp (x_465, z466)) fun z468 => mp (x_467, z468)) fun z470 => mp (x_469, z470)) fun z471 => mp ([z471.1, z471.2.1, z471.2.2.1, z471.2.2.2.1, z471.2.2.2.2.1, z471.2.2.2.2.2.1] : (List Int))))))))))))))
abbrev sp__law_world (K : PySem.W.Frag) : Sp := Prom (rIm K) (S := Box) (fun i : Unit => [.ow boxP]) fun i => m__law_world
theorem len__law_world : ∀ vs H Q E, sp__law_world K vs H Q E → vs.length = 1 := prom_len (Ret := (rIm K)) (As := fun i : Unit => [.ow boxP]) (m := fun i => m__law_world) fun _ => rfl
theorem sc__law_world : FnScope ["box", "way", "d", "more", "f", "m", "q", "k", "lots", "most", "n", "some", "j", "one"] ["box"] (defScope (top 53)) := ⟨rfl, rfl, rfl, by decide +kernel, rfl, by decide +kernel, by decide +kernel⟩
theorem fo__law_world {f : Addr} {fd : FuncData} (F : FnP K "_law_world" (top 53) f fd) (b_len : mg "len" = none) (b_max : mg "max" = none) (b_min : mg "min" = none) (C__law_take : Cal P w K mg base 1 "_law_take" ["box", "many"] (sp__law_take K)) (C__law_prime_from : Cal P w K mg base 2 "_law_prime_from" ["number"] (sp__law_prime_from K)) (C__law_row : Cal P w K mg base 1 "_law_row" ["m"] (sp__law_row K)) (C__law_symbols : Cal P w K mg base 2 "_law_symbols" ["n", "f", "lots", "q"] (sp__law_symbols K)) : FnOk P w K mg base CX0 3 f fd ["box"] (sp__law_world K) := by
  obtain ⟨f__law_take, fd__law_take, G__law_take, g__law_take, kp__law_take, bi__law_take⟩ := C__law_take.ex
  obtain ⟨f__law_prime_from, fd__law_prime_from, G__law_prime_from, g__law_prime_from, kp__law_prime_from, bi__law_prime_from⟩ := C__law_prime_from.ex
  obtain ⟨f__law_row, fd__law_row, G__law_row, g__law_row, kp__law_row, bi__law_row⟩ := C__law_row.ex
  obtain ⟨f__law_symbols, fd__law_symbols, G__law_symbols, g__law_symbols, kp__law_symbols, bi__law_symbols⟩ := C__law_symbols.ex
  refine F.ok sc__law_world (len__law_world (K := K)) (fun cdv A outer s H vs Q E hr h => ?_)
  have hl : vs.length = 1 := len__law_world (K := K) vs H Q E h
  match vs, hl, h with
  | [v0], _, h => exact ⟨_, PSs.nox ((pss_cons (ps_par3 (i := 1) (j := 2) (l := 3) rfl sc__law_world.nd rfl rfl rfl (by decide) (by decide) (by decide) rfl rfl rfl (pa_cons (pe_call G__law_take (hr.mono (Nat.le_of_ble_eq_true rfl)) rfl g__law_take kp__law_take bi__law_take .nil pass0 (pa_cons (L2.pv 0) (pa_cons pe_int pa_nil))) (pa_cons (pe_op op_add pe_int (pe_call G__law_take (hr.mono (Nat.le_of_ble_eq_true rfl)) rfl g__law_take kp__law_take bi__law_take .nil pass0 (pa_cons (L2.pv 0) (pa_cons pe_int pa_nil)))) (pa_cons (pe_call G__law_take (hr.mono (Nat.le_of_ble_eq_true rfl)) rfl g__law_take kp__law_take bi__law_take .nil pass0 (pa_cons (L2.pv 0) (pa_cons pe_int pa_nil))) pa_nil))) rfl) (pss_cons (ps_set (i := 4) sc__law_world.nd rfl (Or.inl rfl) (pe_call G__law_take (hr.mono (Nat.le_of_ble_eq_true rfl)) rfl g__law_take kp__law_take bi__law_take .nil pass0 (pa_cons (L2.pv 0) (pa_cons (pe_op op_sub pe_int (L2.pv 2)) pa_nil)))) (pss_cons (ps_if (pt_cmpR op_lt (L2.pv 1) pe_int (nomark _)) (pss_cons (ps_set (i := 5) sc__law_world.nd rfl (Or.inl rfl) (pe_op op_add pe_int (pe_call G__law_take (hr.mono (Nat.le_of_ble_eq_true rfl)) rfl g__law_take kp__law_take bi__law_take .nil pass0 (pa_cons (L2.pv 0) (pa_cons pe_int pa_nil))))) (pss_cons (ps_set (i := 6) sc__law_world.nd rfl (Or.inl rfl) (pe_call G__law_prime_from (hr.mono (Nat.le_of_ble_eq_true rfl)) rfl g__law_prime_from kp__law_prime_from bi__law_prime_from .nil pass0 (pa_cons (pe_callB (call_max3Nu rfl) rfl b_max bt_max (pa_cons pe_int (pa_cons (pe_op op_add (L2.pv 2) (L2.pv 4)) (pa_cons (pe_op op_add (pe_op op_mulW (pe_op op_mul pe_int (L2.pv 2)) (L2.pv 5)) (pe_ix ix_list (pe_lst (pa_cons pe_int (pa_cons (pe_op op_add pe_int (pe_call G__law_take (hr.mono (Nat.le_of_ble_eq_true rfl)) rfl g__law_take kp__law_take bi__law_take .nil pass0 (pa_cons (L2.pv 0) (pa_cons pe_int pa_nil)))) (pa_cons pe_int (pa_cons (pe_op op_sub pe_int (pe_call G__law_take (hr.mono (Nat.le_of_ble_eq_true rfl)) rfl g__law_take kp__law_take bi__law_take .nil pass0 (pa_cons (L2.pv 0) (pa_cons pe_int pa_nil)))) pa_nil))))) (L2.pv 3) (fun _ _ => rfl))) pa_nil)))) pa_nil))) (pss_one (ps_ret (pe_lst (pa_cons (pe_op op_add (L2.pv 2) (L2.pv 4)) (pa_cons (L2.pv 4) (pa_cons (L2.pv 5) (pa_cons (L2.pv 5) (pa_cons (L2.pv 6) (pa_cons pe_int pa_nil))))))))))) pss_nil) (pss_cons (ps_if (pt_cmpR op_lt (L2.pv 1) pe_int (nomark _)) (pss_cons (ps_asg (pe_ix ix_list (pe_lst (pa_cons (pe_tup (pa_cons pe_int (pa_cons pe_int pa_nil))) (pa_cons (pe_tup (pa_cons pe_int (pa_cons pe_int pa_nil))) (pa_cons (pe_tup (pa_cons pe_int (pa_cons pe_int pa_nil))) (pa_cons (pe_tup (pa_cons pe_int (pa_cons pe_int pa_nil))) (pa_cons (pe_tup (pa_cons pe_int (pa_cons pe_int pa_nil))) (pa_cons (pe_tup (pa_cons pe_int (pa_cons pe_int pa_nil))) (pa_cons (pe_tup (pa_cons pe_int (pa_cons pe_int pa_nil))) (pa_cons (pe_tup (pa_cons pe_int (pa_cons pe_int pa_nil))) (pa_cons (pe_tup (pa_cons pe_int (pa_cons pe_int pa_nil))) (pa_cons (pe_tup (pa_cons pe_int (pa_cons pe_int pa_nil))) (pa_cons (pe_tup (pa_cons pe_int (pa_cons pe_int pa_nil))) (pa_cons (pe_tup (pa_cons pe_int (pa_cons pe_int pa_nil))) pa_nil))))))))))))) (pe_call G__law_take (hr.mono (Nat.le_of_ble_eq_true rfl)) rfl g__law_take kp__law_take bi__law_take .nil pass0 (pa_cons (L2.pv 0) (pa_cons pe_int pa_nil))) (fun _ _ => rfl)) (pg_tup (n := 2) rfl (pgs_cons (pg_name (i := 5) sc__law_world.nd rfl (Or.inl rfl)) (pgs_cons (pg_name (i := 7) sc__law_world.nd rfl (Or.inl rfl)) pgs_nil)))) (pss_cons (ps_set (i := 8) sc__law_world.nd rfl (Or.inl rfl) (pe_ix ix_list (pe_call G__law_row (hr.mono (Nat.le_of_ble_eq_true rfl)) rfl g__law_row kp__law_row bi__law_row .nil pass0 (pa_cons (L2.pv 5) pa_nil)) (L2.pv 7) (fun _ _ => rfl))) (pss_cons (ps_set (i := 2) sc__law_world.nd rfl (Or.inl rfl) (pe_ix ix_list (pe_lst (pa_cons (L2.pv 2) (pa_cons (pe_op op_add pe_int (pe_call G__law_take (hr.mono (Nat.le_of_ble_eq_true rfl)) rfl g__law_take kp__law_take bi__law_take .nil pass0 (pa_cons (L2.pv 0) (pa_cons pe_int pa_nil)))) (pa_cons pe_int (pa_cons pe_int pa_nil))))) (L2.pv 3) (fun _ _ => rfl))) (pss_cons (ps_set (i := 6) sc__law_world.nd rfl (Or.inl rfl) (pe_call G__law_prime_from (hr.mono (Nat.le_of_ble_eq_true rfl)) rfl g__law_prime_from kp__law_prime_from bi__law_prime_from .nil pass0 (pa_cons (pe_callB (call_max2 rfl) rfl b_max bt_max (pa_cons pe_int (pa_cons (pe_op op_add (pe_op op_add (L2.pv 8) pe_int) (pe_call G__law_take (hr.mono (Nat.le_of_ble_eq_true rfl)) rfl g__law_take kp__law_take bi__law_take .nil pass0 (pa_cons (L2.pv 0) (pa_cons (pe_op op_sub pe_int (L2.pv 8)) pa_nil)))) pa_nil))) pa_nil))) (pss_one (ps_ret (pe_lst (pa_cons (pe_callB (call_min2 rfl) rfl b_min bt_min (pa_cons pe_int (pa_cons (pe_op op_add (L2.pv 2) (L2.pv 4)) pa_nil))) (pa_cons (pe_op op_sub (pe_callB (call_min2 rfl) rfl b_min bt_min (pa_cons pe_int (pa_cons (pe_op op_add (L2.pv 2) (L2.pv 4)) pa_nil))) (L2.pv 2)) (pa_cons (L2.pv 5) (pa_cons (L2.pv 7) (pa_cons (L2.pv 6) (pa_cons pe_int pa_nil))))))))))))) pss_nil) (pss_cons (ps_if (pt_cmpR op_lt (L2.pv 1) pe_int (nomark _)) (pss_cons (ps_asg (pe_ix ix_list (pe_lst (pa_cons (pe_tup (pa_cons pe_int (pa_cons pe_int (pa_cons pe_int (pa_cons pe_int pa_nil))))) (pa_cons (pe_tup (pa_cons pe_int (pa_cons pe_int (pa_cons pe_int (pa_cons pe_int pa_nil))))) (pa_cons (pe_tup (pa_cons pe_int (pa_cons pe_int (pa_cons pe_int (pa_cons pe_int pa_nil))))) (pa_cons (pe_tup (pa_cons pe_int (pa_cons pe_int (pa_cons pe_int (pa_cons pe_int pa_nil))))) pa_nil))))) (L2.pv 3) (fun _ _ => rfl)) (pg_tup (n := 4) rfl (pgs_cons (pg_name (i := 5) sc__law_world.nd rfl (Or.inl rfl)) (pgs_cons (pg_name (i := 7) sc__law_world.nd rfl (Or.inl rfl)) (pgs_cons (pg_name (i := 6) sc__law_world.nd rfl (Or.inl rfl)) (pgs_cons (pg_name (i := 9) sc__law_world.nd rfl (Or.inl rfl)) pgs_nil)))))) (pss_cons (ps_set (i := 2) sc__law_world.nd rfl (Or.inl rfl) (pe_op op_add pe_int (pe_call G__law_take (hr.mono (Nat.le_of_ble_eq_true rfl)) rfl g__law_take kp__law_take bi__law_take .nil pass0 (pa_cons (L2.pv 0) (pa_cons (L2.pv 9) pa_nil))))) (pss_cons (ps_set (i := 4) sc__law_world.nd rfl (Or.inl rfl) (pe_call G__law_take (hr.mono (Nat.le_of_ble_eq_true rfl)) rfl g__law_take kp__law_take bi__law_take .nil pass0 (pa_cons (L2.pv 0) (pa_cons (pe_op op_sub pe_int (L2.pv 2)) pa_nil)))) (pss_one (ps_ret (pe_lst (pa_cons (pe_op op_add (L2.pv 2) (L2.pv 4)) (pa_cons (L2.pv 4) (pa_cons (L2.pv 5) (pa_cons (L2.pv 7) (pa_cons (L2.pv 6) (pa_cons pe_int pa_nil)))))))))))) pss_nil) (pss_cons (ps_set (i := 5) sc__law_world.nd rfl (Or.inl rfl) (pe_op op_add pe_int (pe_call G__law_take (hr.mono (Nat.le_of_ble_eq_true rfl)) rfl g__law_take kp__law_take bi__law_take .nil pass0 (pa_cons (L2.pv 0) (pa_cons pe_int pa_nil))))) (pss_cons (ps_asg (pe_tup (pa_cons (pe_op op_add pe_int (pe_call G__law_take (hr.mono (Nat.le_of_ble_eq_true rfl)) rfl g__law_take kp__law_take bi__law_take .nil pass0 (pa_cons (L2.pv 0) (pa_cons (L2.pv 5) pa_nil)))) (pa_cons (pe_op op_add (L2.pv 2) (pe_callB (call_min2 rfl) rfl b_min bt_min (pa_cons (L2.pv 4) (pa_cons pe_int pa_nil)))) (pa_cons (pe_callB (call_min2 rfl) rfl b_min bt_min (pa_cons (L2.pv 4) (pa_cons pe_int pa_nil))) pa_nil)))) (pg_tup (n := 3) rfl (pgs_cons (pg_name (i := 7) sc__law_world.nd rfl (Or.inl rfl)) (pgs_cons (pg_name (i := 10) sc__law_world.nd rfl (Or.inr rfl)) (pgs_cons (pg_name (i := 4) sc__law_world.nd rfl (Or.inl rfl)) pgs_nil))))) (pss_cons (ps_setLc (i := 11) (own := [("one", 13)]) rfl sc__law_world.nd rfl rfl (sw_true rfl rfl rfl (by decide +kernel)) (pi_list (pe_lst (pa_cons pe_int (pa_cons pe_int (pa_cons pe_int (pa_cons pe_int (pa_cons pe_int (pa_cons pe_int (pa_cons pe_int (pa_cons pe_int (pa_cons pe_int (pa_cons pe_int (pa_cons pe_int (pa_cons pe_int pa_nil)))))))))))))) (blkOk_by (own := [("one", 13)]) (N := ["box", "way", "d", "more", "f", "m", "q", "k", "lots", "most", "n", "some", "j", "one"]) (sc := defScope (top 53)) (by decide +kernel)) (fun _ _ _ _ _ => (pg_name (i := 13) sc__law_world.nd rfl (Or.inl rfl))) (fun _ _ _ _ _ => (pts_one (pt_cmpR op_ge (L2.pv 13) (L2.pv 10) (nomark _)))) (fun _ _ _ _ _ => (L2.pv 13))) (pss_cons (ps_set (i := 6) sc__law_world.nd rfl (Or.inl rfl) (pe_ix ix_list (L2.pv 11) (pe_call G__law_take (hr.mono (Nat.le_of_ble_eq_true rfl)) rfl g__law_take kp__law_take bi__law_take .nil pass0 (pa_cons (L2.pv 0) (pa_cons (pe_callB call_len_seq rfl b_len bt_len (pa_cons (L2.pv 11) pa_nil)) pa_nil))) (fun _ _ => rfl))) (pss_cons (ps_set (i := 12) sc__law_world.nd rfl (Or.inl rfl) (pe_call G__law_symbols (hr.mono (Nat.le_of_ble_eq_true rfl)) rfl g__law_symbols kp__law_symbols bi__law_symbols .nil pass0 (pa_cons (L2.pv 10) (pa_cons (L2.pv 4) (pa_cons (pe_ix ix_list (pe_call G__law_row (hr.mono (Nat.le_of_ble_eq_true rfl)) rfl g__law_row kp__law_row bi__law_row .nil pass0 (pa_cons (L2.pv 5) pa_nil)) (L2.pv 7) (fun _ _ => rfl)) (pa_cons (L2.pv 6) pa_nil)))))) (pss_one (ps_ret (pe_ifExp (pt_cmpR op_isN (L2.pv 12) pe_non (nomark _)) (pe_lst (pa_cons (L2.pv 10) (pa_cons (L2.pv 4) (pa_cons (L2.pv 5) (pa_cons (L2.pv 5) (pa_cons (L2.pv 6) (pa_cons pe_int pa_nil))))))) (pe_lst (pa_cons (L2.pv 10) (pa_cons (L2.pv 4) (pa_cons (L2.pv 5) (pa_cons (L2.pv 7) (pa_cons (L2.pv 6) (pa_cons (L2.pv 12) pa_nil))))))))))))))))))))), prom_ok (n := 1) (Ret := (rIm K)) (As := fun i : Unit => [.ow boxP]) (m := fun i => m__law_world) 13 (fun _ => rfl) rfl (fun _ => (show RN (rIm K) _ (fun (s : Box) => [.ow ((boxP s).at v0), .no, .no, .no, .no, .no, .no, .no, .no, .no, .no, .no, .no, .no]) (m__law_world) (fun (s : Box) => [.ow ((boxP s).at v0), .no, .no, .no, .no, .no, .no, .no, .no, .no, .no, .no, .no, .no]) from (rn_of (rt_seq (rp_asg3 (Γ' := fun z345 (s : Box) => [.ow ((boxP s).at v0), .im (pv K z345.1), .im (pv K z345.2.1), .im (pv K z345.2.2.1), .no, .no, .no, .no, .no, .no, .no, .no, .no, .no]) (ao_m (em_of_eo (eo_call1i (f := fun (z340 : Unit) => ((8 : Int) : Int)) (ak_sl (te := tC .non) (fun _ => rfl) (ak_p (fun _ => (ep_int (K := K))) ak_nil)) (fun z340 => ⟨rfl, [pv K ((8 : Int) : Int)], rfl⟩) cv_at (fun _ => rfl) (fun _ _ => rfl) fun _ _ => rfl)) (ao_m (em_opl (g := fun (u : Int) (v : Int) => (u + v)) (fun _ => (ep_int (K := K))) (em_of_eo (eo_call1i (f := fun (z341 : Unit) => ((12 : Int) : Int)) (ak_sl (te := tC .non) (fun _ => rfl) (ak_p (fun _ => (ep_int (K := K))) ak_nil)) (fun z341 => ⟨rfl, [pv K ((12 : Int) : Int)], rfl⟩) cv_at (fun _ => rfl) (fun _ _ => rfl) fun _ _ => rfl)) fun _ => o_add) (ao_m (em_of_eo (eo_call1i (f := fun (z344 : Unit) => ((4 : Int) : Int)) (ak_sl (te := tC .non) (fun _ => rfl) (ak_p (fun _ => (ep_int (K := K))) ak_nil)) (fun z344 => ⟨rfl, [pv K ((4 : Int) : Int)], rfl⟩) cv_at (fun _ => rfl) (fun _ _ => rfl) fun _ _ => rfl)) ao_nil))) (fun _ => asg_ok rfl) (fun _ => rfl) (fun _ => rfl) fun _ _ => rfl) fun z345 => (rt_seq (rp_asg (Γ := fun (s : Box) => [.ow ((boxP s).at v0), .im (pv K z345.1), .im (pv K z345.2.1), .im (pv K z345.2.2.1), .no, .no, .no, .no, .no, .no, .no, .no, .no, .no]) (i := 4) (Γ' := fun f_353 (s : Box) => [.ow ((boxP s).at v0), .im (pv K z345.1), .im (pv K z345.2.1), .im (pv K z345.2.2.1), .im (pv K f_353), .no, .no, .no, .no, .no, .no, .no, .no, .no]) (em_of_eo (eo_call1i (f := fun (z352 : Unit) => (((13 : Int) - z345.2.1) : Int)) (ak_sl (te := tC .non) (fun _ => rfl) (ak_p (fun _ => (ep_op (ep_int (K := K)) (ep_var rfl) o_sub)) ak_nil)) (fun z352 => ⟨rfl, [pv K (((13 : Int) - z345.2.1) : Int)], rfl⟩) cv_at (fun _ => rfl) (fun _ _ => rfl) fun _ _ => rfl)) (fun _ => rfl) fun _ _ => rfl) fun f_353 => (rt_ifr (tm_pure fun _ => (tp_test (ep_op (ep_var rfl) (ep_int (K := K)) o_lt))) (rt_seq (rp_asg (Γ := fun (s : Box) => [.ow ((boxP s).at v0), .im (pv K z345.1), .im (pv K z345.2.1), .im (pv K z345.2.2.1), .im (pv K f_353), .no, .no, .no, .no, .no, .no, .no, .no, .no]) (i := 5) (Γ' := fun m357 (s : Box) => [.ow ((boxP s).at v0), .im (pv K z345.1), .im (pv K z345.2.1), .im (pv K z345.2.2.1), .im (pv K f_353), .im (pv K m357), .no, .no, .no, .no, .no, .no, .no, .no]) (em_opl (g := fun (u : Int) (v : Int) => (u + v)) (fun _ => (ep_int (K := K))) (em_of_eo (eo_call1i (f := fun (z354 : Unit) => ((6 : Int) : Int)) (ak_sl (te := tC .non) (fun _ => rfl) (ak_p (fun _ => (ep_int (K := K))) ak_nil)) (fun z354 => ⟨rfl, [pv K ((6 : Int) : Int)], rfl⟩) cv_at (fun _ => rfl) (fun _ _ => rfl) fun _ _ => rfl)) fun _ => o_add) (fun _ => rfl) fun _ _ => rfl) fun m357 => (rt_seq (rp_asg (Γ := fun (s : Box) => [.ow ((boxP s).at v0), .im (pv K z345.1), .im (pv K z345.2.1), .im (pv K z345.2.2.1), .im (pv K f_353), .im (pv K m357), .no, .no, .no, .no, .no, .no, .no, .no]) (i := 6) (Γ' := fun q387 (s : Box) => [.ow ((boxP s).at v0), .im (pv K z345.1), .im (pv K z345.2.1), .im (pv K z345.2.2.1), .im (pv K f_353), .im (pv K m357), .im (pv K q387), .no, .no, .no, .no, .no, .no, .no]) (em_of_eo (eo_call0M (f := fun (z386 : Int × Unit) => z386.1) (am_cons (em_cb (f := fun (z383 : Int × Int × Int × Unit) => (mx3 z383.1 z383.2.1 z383.2.2.1)) (am_cons (em_pure fun _ => (ep_int (K := K))) (am_cons (em_pure fun _ => (ep_op (ep_var rfl) (ep_var rfl) o_add)) (am_cons (em_op (g := fun (u : Int) (v : Int) => (u + v)) (em_opC2 (fun _ => (ep_op (ep_int (K := K)) (ep_var rfl) (o_mulL rfl))) (fun _ => (ep_var rfl)) fun h => o_mulW h) (em_ixLr (em_lst (f := fun (z372 : Int × Int × Int × Int × Unit) => ([z372.1, z372.2.1, z372.2.2.1, z372.2.2.2.1] : (List Int))) (hl := fun _ => Nat.le_of_ble_eq_true rfl) (am_cons (em_pure fun _ => (ep_int (K := K))) (am_cons (em_opl (g := fun (u : Int) (v : Int) => (u + v)) (fun _ => (ep_int (K := K))) (em_of_eo (eo_call1i (f := fun (z358 : Unit) => ((200 : Int) : Int)) (ak_sl (te := tC .non) (fun _ => rfl) (ak_p (fun _ => (ep_int (K := K))) ak_nil)) (fun z358 => ⟨rfl, [pv K ((200 : Int) : Int)], rfl⟩) cv_at (fun _ => rfl) (fun _ _ => rfl) fun _ _ => rfl)) fun _ => o_add) (am_cons (em_pure fun _ => (ep_int (K := K))) (am_cons (em_opl (g := fun (u : Int) (v : Int) => (u - v)) (fun _ => (ep_int (K := K))) (em_of_eo (eo_call1i (f := fun (z361 : Unit) => ((9 : Int) : Int)) (ak_sl (te := tC .non) (fun _ => rfl) (ak_p (fun _ => (ep_int (K := K))) ak_nil)) (fun z361 => ⟨rfl, [pv K ((9 : Int) : Int)], rfl⟩) cv_at (fun _ => rfl) (fun _ _ => rfl) fun _ _ => rfl)) fun _ => o_sub) am_nil))))) fun _ => (ep_var rfl)) fun _ _ => o_add) am_nil))) fun _ => c_max3) am_nil) fun _ => rfl)) (fun _ => rfl) fun _ _ => rfl) fun q387 => (rt_ret (em_pure fun _ => (ep_lst (xs := ([(z345.2.1 + f_353), f_353, m357, m357, q387, (0 : Int)] : (List Int))) (hl := Nat.le_of_ble_eq_true rfl) (ap_cons (ep_op (ep_var rfl) (ep_var rfl) o_add) (ap_cons (ep_var rfl) (ap_cons (ep_var rfl) (ap_cons (ep_var rfl) (ap_cons (ep_var rfl) (ap_cons (ep_int (K := K)) ap_nil)))))))) fun s => (.cons (.rfl _) (.cons (.no _) (.cons (.no _) (.cons (.no _) (.cons (.no _) (.cons (.no _) (.cons (.no _) (.cons (.rfl _) (.cons (.rfl _) (.cons (.rfl _) (.cons (.rfl _) (.cons (.rfl _) (.cons (.rfl _) (.cons (.rfl _) .nil))))))))))))))))) (rt_ifr (tm_pure fun _ => (tp_test (ep_op (ep_var rfl) (ep_int (K := K)) o_lt))) (rt_seq (rp_tup (Γ := fun (s : Box) => [.ow ((boxP s).at v0), .im (pv K z345.1), .im (pv K z345.2.1), .im (pv K z345.2.2.1), .im (pv K f_353), .no, .no, .no, .no, .no, .no, .no, .no, .no]) (Γ' := fun (z391 : (Int × Int)) (s : Box) => [.ow ((boxP s).at v0), .im (pv K z345.1), .im (pv K z345.2.1), .im (pv K z345.2.2.1), .im (pv K f_353), .im (pv K z391.1), .no, .im (pv K z391.2), .no, .no, .no, .no, .no, .no]) (em_ixLl (fun _ => (ep_lst (xs := ([((24 : Int), (2 : Int)), ((20 : Int), (2 : Int)), ((18 : Int), (3 : Int)), ((17 : Int), (3 : Int)), ((13 : Int), (4 : Int)), ((12 : Int), (5 : Int)), ((10 : Int), (5 : Int)), ((11 : Int), (4 : Int)), ((12 : Int), (4 : Int)), ((9 : Int), (4 : Int)), ((24 : Int), (22 : Int)), ((24 : Int), (1 : Int))] : (List (Int × Int)))) (hl := Nat.le_of_ble_eq_true rfl) (ap_cons (ep_tup (ap_cons (ep_int (K := K)) (ap_cons (ep_int (K := K)) ap_nil)) tup2) (ap_cons (ep_tup (ap_cons (ep_int (K := K)) (ap_cons (ep_int (K := K)) ap_nil)) tup2) (ap_cons (ep_tup (ap_cons (ep_int (K := K)) (ap_cons (ep_int (K := K)) ap_nil)) tup2) (ap_cons (ep_tup (ap_cons (ep_int (K := K)) (ap_cons (ep_int (K := K)) ap_nil)) tup2) (ap_cons (ep_tup (ap_cons (ep_int (K := K)) (ap_cons (ep_int (K := K)) ap_nil)) tup2) (ap_cons (ep_tup (ap_cons (ep_int (K := K)) (ap_cons (ep_int (K := K)) ap_nil)) tup2) (ap_cons (ep_tup (ap_cons (ep_int (K := K)) (ap_cons (ep_int (K := K)) ap_nil)) tup2) (ap_cons (ep_tup (ap_cons (ep_int (K := K)) (ap_cons (ep_int (K := K)) ap_nil)) tup2) (ap_cons (ep_tup (ap_cons (ep_int (K := K)) (ap_cons (ep_int (K := K)) ap_nil)) tup2) (ap_cons (ep_tup (ap_cons (ep_int (K := K)) (ap_cons (ep_int (K := K)) ap_nil)) tup2) (ap_cons (ep_tup (ap_cons (ep_int (K := K)) (ap_cons (ep_int (K := K)) ap_nil)) tup2) (ap_cons (ep_tup (ap_cons (ep_int (K := K)) (ap_cons (ep_int (K := K)) ap_nil)) tup2) ap_nil)))))))))))))) (em_of_eo (eo_call1i (f := fun (z388 : Unit) => ((12 : Int) : Int)) (ak_sl (te := tC .non) (fun _ => rfl) (ak_p (fun _ => (ep_int (K := K))) ak_nil)) (fun z388 => ⟨rfl, [pv K ((12 : Int) : Int)], rfl⟩) cv_at (fun _ => rfl) (fun _ _ => rfl) fun _ _ => rfl))) fun z391 s => (gt_2 (gt_name (Γ := [.ow ((boxP s).at v0), .im (pv K z345.1), .im (pv K z345.2.1), .im (pv K z345.2.2.1), .im (pv K f_353), .no, .no, .no, .no, .no, .no, .no, .no, .no]) (i := 5) (Γ' := [.ow ((boxP s).at v0), .im (pv K z345.1), .im (pv K z345.2.1), .im (pv K z345.2.2.1), .im (pv K f_353), .im (pv K z391.1), .no, .no, .no, .no, .no, .no, .no, .no]) rfl rfl) (gt_name (Γ := [.ow ((boxP s).at v0), .im (pv K z345.1), .im (pv K z345.2.1), .im (pv K z345.2.2.1), .im (pv K f_353), .im (pv K z391.1), .no, .no, .no, .no, .no, .no, .no, .no]) (i := 7) (Γ' := [.ow ((boxP s).at v0), .im (pv K z345.1), .im (pv K z345.2.1), .im (pv K z345.2.2.1), .im (pv K f_353), .im (pv K z391.1), .no, .im (pv K z391.2), .no, .no, .no, .no, .no, .no]) rfl rfl))) fun z391 => (rt_seq (rp_asg (Γ := fun (s : Box) => [.ow ((boxP s).at v0), .im (pv K z345.1), .im (pv K z345.2.1), .im (pv K z345.2.2.1), .im (pv K f_353), .im (pv K z391.1), .no, .im (pv K z391.2), .no, .no, .no, .no, .no, .no]) (i := 8) (Γ' := fun lots394 (s : Box) => [.ow ((boxP s).at v0), .im (pv K z345.1), .im (pv K z345.2.1), .im (pv K z345.2.2.1), .im (pv K f_353), .im (pv K z391.1), .no, .im (pv K z391.2), .im (pv K lots394), .no, .no, .no, .no, .no]) (em_ixLr (em_of_eo (eo_call0 (i := z391.1) (ps := [pv K z391.1]) (fun _ => (ap_cons (ep_var rfl) ap_nil)) rfl)) fun _ => (ep_var rfl)) (fun _ => rfl) fun _ _ => rfl) fun lots394 => (rt_seq (rp_asg (Γ := fun (s : Box) => [.ow ((boxP s).at v0), .im (pv K z345.1), .im (pv K z345.2.1), .im (pv K z345.2.2.1), .im (pv K f_353), .im (pv K z391.1), .no, .im (pv K z391.2), .im (pv K lots394), .no, .no, .no, .no, .no]) (i := 2) (Γ' := fun d409 (s : Box) => [.ow ((boxP s).at v0), .im (pv K z345.1), .im (pv K d409), .im (pv K z345.2.2.1), .im (pv K f_353), .im (pv K z391.1), .no, .im (pv K z391.2), .im (pv K lots394), .no, .no, .no, .no, .no]) (em_ixLr (em_lst (f := fun (z406 : Int × Int × Int × Int × Unit) => ([z406.1, z406.2.1, z406.2.2.1, z406.2.2.2.1] : (List Int))) (hl := fun _ => Nat.le_of_ble_eq_true rfl) (am_cons (em_pure fun _ => (ep_var rfl)) (am_cons (em_opl (g := fun (u : Int) (v : Int) => (u + v)) (fun _ => (ep_int (K := K))) (em_of_eo (eo_call1i (f := fun (z395 : Unit) => ((4 : Int) : Int)) (ak_sl (te := tC .non) (fun _ => rfl) (ak_p (fun _ => (ep_int (K := K))) ak_nil)) (fun z395 => ⟨rfl, [pv K ((4 : Int) : Int)], rfl⟩) cv_at (fun _ => rfl) (fun _ _ => rfl) fun _ _ => rfl)) fun _ => o_add) (am_cons (em_pure fun _ => (ep_int (K := K))) (am_cons (em_pure fun _ => (ep_int (K := K))) am_nil))))) fun _ => (ep_var rfl)) (fun _ => rfl) fun _ _ => rfl) fun d409 => (rt_seq (rp_asg (Γ := fun (s : Box) => [.ow ((boxP s).at v0), .im (pv K z345.1), .im (pv K d409), .im (pv K z345.2.2.1), .im (pv K f_353), .im (pv K z391.1), .no, .im (pv K z391.2), .im (pv K lots394), .no, .no, .no, .no, .no]) (i := 6) (Γ' := fun q421 (s : Box) => [.ow ((boxP s).at v0), .im (pv K z345.1), .im (pv K d409), .im (pv K z345.2.2.1), .im (pv K f_353), .im (pv K z391.1), .im (pv K q421), .im (pv K z391.2), .im (pv K lots394), .no, .no, .no, .no, .no]) (em_of_eo (eo_call0M (f := fun (z420 : Int × Unit) => z420.1) (am_cons (em_cb (f := fun (z417 : Int × Int × Unit) => (if z417.2.1 > z417.1 then z417.2.1 else z417.1)) (am_cons (em_pure fun _ => (ep_int (K := K))) (am_cons (em_opl (g := fun (u : Int) (v : Int) => (u + v)) (fun _ => (ep_op (ep_var rfl) (ep_int (K := K)) o_add)) (em_of_eo (eo_call1i (f := fun (z410 : Unit) => (((997 : Int) - lots394) : Int)) (ak_sl (te := tC .non) (fun _ => rfl) (ak_p (fun _ => (ep_op (ep_int (K := K)) (ep_var rfl) o_sub)) ak_nil)) (fun z410 => ⟨rfl, [pv K (((997 : Int) - lots394) : Int)], rfl⟩) cv_at (fun _ => rfl) (fun _ _ => rfl) fun _ _ => rfl)) fun _ => o_add) am_nil)) fun _ => c_max2) am_nil) fun _ => rfl)) (fun _ => rfl) fun _ _ => rfl) fun q421 => (rt_ret (em_pure fun _ => (ep_lst (xs := ([(if (d409 + f_353) < (12 : Int) then (d409 + f_353) else (12 : Int)), ((if (d409 + f_353) < (12 : Int) then (d409 + f_353) else (12 : Int)) - d409), z391.1, z391.2, q421, (1 : Int)] : (List Int))) (hl := Nat.le_of_ble_eq_true rfl) (ap_cons (ep_cb (ap_cons (ep_int (K := K)) (ap_cons (ep_op (ep_var rfl) (ep_var rfl) o_add) ap_nil)) c_min2) (ap_cons (ep_op (ep_cb (ap_cons (ep_int (K := K)) (ap_cons (ep_op (ep_var rfl) (ep_var rfl) o_add) ap_nil)) c_min2) (ep_var rfl) o_sub) (ap_cons (ep_var rfl) (ap_cons (ep_var rfl) (ap_cons (ep_var rfl) (ap_cons (ep_int (K := K)) ap_nil)))))))) fun s => (.cons (.rfl _) (.cons (.no _) (.cons (.no _) (.cons (.no _) (.cons (.no _) (.cons (.no _) (.cons (.no _) (.cons (.no _) (.cons (.no _) (.cons (.rfl _) (.cons (.rfl _) (.cons (.rfl _) (.cons (.rfl _) (.cons (.rfl _) .nil))))))))))))))))))) (rt_ifr (tm_pure fun _ => (tp_test (ep_op (ep_var rfl) (ep_int (K := K)) o_lt))) (rt_seq (rp_tup (Γ := fun (s : Box) => [.ow ((boxP s).at v0), .im (pv K z345.1), .im (pv K z345.2.1), .im (pv K z345.2.2.1), .im (pv K f_353), .no, .no, .no, .no, .no, .no, .no, .no, .no]) (Γ' := fun (z424 : (T4 Int Int Int Int)) (s : Box) => [.ow ((boxP s).at v0), .im (pv K z345.1), .im (pv K z345.2.1), .im (pv K z345.2.2.1), .im (pv K f_353), .im (pv K z424.a), .im (pv K z424.c), .im (pv K z424.b), .no, .im (pv K z424.d), .no, .no, .no, .no]) (em_ixLp (fun _ => (ep_lst (xs := ([(T4.mk (24 : Int) (5 : Int) (223 : Int) (1 : Int)), (T4.mk (24 : Int) (6 : Int) (373 : Int) (3 : Int)), (T4.mk (24 : Int) (7 : Int) (599 : Int) (7 : Int)), (T4.mk (24 : Int) (6 : Int) (373 : Int) (3 : Int))] : (List (T4 Int Int Int Int)))) (hl := Nat.le_of_ble_eq_true rfl) (ap_cons (ep_tup (ap_cons (ep_int (K := K)) (ap_cons (ep_int (K := K)) (ap_cons (ep_int (K := K)) (ap_cons (ep_int (K := K)) ap_nil)))) tup4) (ap_cons (ep_tup (ap_cons (ep_int (K := K)) (ap_cons (ep_int (K := K)) (ap_cons (ep_int (K := K)) (ap_cons (ep_int (K := K)) ap_nil)))) tup4) (ap_cons (ep_tup (ap_cons (ep_int (K := K)) (ap_cons (ep_int (K := K)) (ap_cons (ep_int (K := K)) (ap_cons (ep_int (K := K)) ap_nil)))) tup4) (ap_cons (ep_tup (ap_cons (ep_int (K := K)) (ap_cons (ep_int (K := K)) (ap_cons (ep_int (K := K)) (ap_cons (ep_int (K := K)) ap_nil)))) tup4) ap_nil)))))) fun _ => (ep_var rfl)) fun z424 s => (gt_4 (gt_name (Γ := [.ow ((boxP s).at v0), .im (pv K z345.1), .im (pv K z345.2.1), .im (pv K z345.2.2.1), .im (pv K f_353), .no, .no, .no, .no, .no, .no, .no, .no, .no]) (i := 5) (Γ' := [.ow ((boxP s).at v0), .im (pv K z345.1), .im (pv K z345.2.1), .im (pv K z345.2.2.1), .im (pv K f_353), .im (pv K z424.a), .no, .no, .no, .no, .no, .no, .no, .no]) rfl rfl) (gt_name (Γ := [.ow ((boxP s).at v0), .im (pv K z345.1), .im (pv K z345.2.1), .im (pv K z345.2.2.1), .im (pv K f_353), .im (pv K z424.a), .no, .no, .no, .no, .no, .no, .no, .no]) (i := 7) (Γ' := [.ow ((boxP s).at v0), .im (pv K z345.1), .im (pv K z345.2.1), .im (pv K z345.2.2.1), .im (pv K f_353), .im (pv K z424.a), .no, .im (pv K z424.b), .no, .no, .no, .no, .no, .no]) rfl rfl) (gt_name (Γ := [.ow ((boxP s).at v0), .im (pv K z345.1), .im (pv K z345.2.1), .im (pv K z345.2.2.1), .im (pv K f_353), .im (pv K z424.a), .no, .im (pv K z424.b), .no, .no, .no, .no, .no, .no]) (i := 6) (Γ' := [.ow ((boxP s).at v0), .im (pv K z345.1), .im (pv K z345.2.1), .im (pv K z345.2.2.1), .im (pv K f_353), .im (pv K z424.a), .im (pv K z424.c), .im (pv K z424.b), .no, .no, .no, .no, .no, .no]) rfl rfl) (gt_name (Γ := [.ow ((boxP s).at v0), .im (pv K z345.1), .im (pv K z345.2.1), .im (pv K z345.2.2.1), .im (pv K f_353), .im (pv K z424.a), .im (pv K z424.c), .im (pv K z424.b), .no, .no, .no, .no, .no, .no]) (i := 9) (Γ' := [.ow ((boxP s).at v0), .im (pv K z345.1), .im (pv K z345.2.1), .im (pv K z345.2.2.1), .im (pv K f_353), .im (pv K z424.a), .im (pv K z424.c), .im (pv K z424.b), .no, .im (pv K z424.d), .no, .no, .no, .no]) rfl rfl))) fun z424 => (rt_seq (rp_asg (Γ := fun (s : Box) => [.ow ((boxP s).at v0), .im (pv K z345.1), .im (pv K z345.2.1), .im (pv K z345.2.2.1), .im (pv K f_353), .im (pv K z424.a), .im (pv K z424.c), .im (pv K z424.b), .no, .im (pv K z424.d), .no, .no, .no, .no]) (i := 2) (Γ' := fun d428 (s : Box) => [.ow ((boxP s).at v0), .im (pv K z345.1), .im (pv K d428), .im (pv K z345.2.2.1), .im (pv K f_353), .im (pv K z424.a), .im (pv K z424.c), .im (pv K z424.b), .no, .im (pv K z424.d), .no, .no, .no, .no]) (em_opl (g := fun (u : Int) (v : Int) => (u + v)) (fun _ => (ep_int (K := K))) (em_of_eo (eo_call1i (f := fun (z425 : Unit) => z424.d) (ak_sl (te := tC .non) (fun _ => rfl) (ak_p (fun _ => (ep_var rfl)) ak_nil)) (fun z425 => ⟨rfl, [pv K z424.d], rfl⟩) cv_at (fun _ => rfl) (fun _ _ => rfl) fun _ _ => rfl)) fun _ => o_add) (fun _ => rfl) fun _ _ => rfl) fun d428 => (rt_seq (rp_asg (Γ := fun (s : Box) => [.ow ((boxP s).at v0), .im (pv K z345.1), .im (pv K d428), .im (pv K z345.2.2.1), .im (pv K f_353), .im (pv K z424.a), .im (pv K z424.c), .im (pv K z424.b), .no, .im (pv K z424.d), .no, .no, .no, .no]) (i := 4) (Γ' := fun f_430 (s : Box) => [.ow ((boxP s).at v0), .im (pv K z345.1), .im (pv K d428), .im (pv K z345.2.2.1), .im (pv K f_430), .im (pv K z424.a), .im (pv K z424.c), .im (pv K z424.b), .no, .im (pv K z424.d), .no, .no, .no, .no]) (em_of_eo (eo_call1i (f := fun (z429 : Unit) => (((13 : Int) - d428) : Int)) (ak_sl (te := tC .non) (fun _ => rfl) (ak_p (fun _ => (ep_op (ep_int (K := K)) (ep_var rfl) o_sub)) ak_nil)) (fun z429 => ⟨rfl, [pv K (((13 : Int) - d428) : Int)], rfl⟩) cv_at (fun _ => rfl) (fun _ _ => rfl) fun _ _ => rfl)) (fun _ => rfl) fun _ _ => rfl) fun f_430 => (rt_ret (em_pure fun _ => (ep_lst (xs := ([(d428 + f_430), f_430, z424.a, z424.b, z424.c, (2 : Int)] : (List Int))) (hl := Nat.le_of_ble_eq_true rfl) (ap_cons (ep_op (ep_var rfl) (ep_var rfl) o_add) (ap_cons (ep_var rfl) (ap_cons (ep_var rfl) (ap_cons (ep_var rfl) (ap_cons (ep_var rfl) (ap_cons (ep_int (K := K)) ap_nil)))))))) fun s => (.cons (.rfl _) (.cons (.no _) (.cons (.no _) (.cons (.no _) (.cons (.no _) (.cons (.no _) (.cons (.no _) (.cons (.no _) (.cons (.rfl _) (.cons (.no _) (.cons (.rfl _) (.cons (.rfl _) (.cons (.rfl _) (.cons (.rfl _) .nil)))))))))))))))))) (rt_seq (rp_asg (Γ := fun (s : Box) => [.ow ((boxP s).at v0), .im (pv K z345.1), .im (pv K z345.2.1), .im (pv K z345.2.2.1), .im (pv K f_353), .no, .no, .no, .no, .no, .no, .no, .no, .no]) (i := 5) (Γ' := fun m434 (s : Box) => [.ow ((boxP s).at v0), .im (pv K z345.1), .im (pv K z345.2.1), .im (pv K z345.2.2.1), .im (pv K f_353), .im (pv K m434), .no, .no, .no, .no, .no, .no, .no, .no]) (em_opl (g := fun (u : Int) (v : Int) => (u + v)) (fun _ => (ep_int (K := K))) (em_of_eo (eo_call1i (f := fun (z431 : Unit) => ((24 : Int) : Int)) (ak_sl (te := tC .non) (fun _ => rfl) (ak_p (fun _ => (ep_int (K := K))) ak_nil)) (fun z431 => ⟨rfl, [pv K ((24 : Int) : Int)], rfl⟩) cv_at (fun _ => rfl) (fun _ _ => rfl) fun _ _ => rfl)) fun _ => o_add) (fun _ => rfl) fun _ _ => rfl) fun m434 => (rt_seq (rp_asgT (Γ' := fun z438 (s : Box) => [.ow ((boxP s).at v0), .im (pv K z345.1), .im (pv K z345.2.1), .im (pv K z345.2.2.1), .im (pv K ((if (3 : Int) < f_353 then (3 : Int) else f_353) : Int)), .im (pv K m434), .no, .im (pv K z438.1), .no, .no, .im (pv K ((z345.2.1 + (if (3 : Int) < f_353 then (3 : Int) else f_353)) : Int)), .no, .no, .no]) [7, 10, 4] (ao_m (em_opl (g := fun (u : Int) (v : Int) => (u + v)) (fun _ => (ep_int (K := K))) (em_of_eo (eo_call1i (f := fun (z435 : Unit) => m434) (ak_sl (te := tC .non) (fun _ => rfl) (ak_p (fun _ => (ep_var rfl)) ak_nil)) (fun z435 => ⟨rfl, [pv K m434], rfl⟩) cv_at (fun _ => rfl) (fun _ _ => rfl) fun _ _ => rfl)) fun _ => o_add) (ao_p (fun _ => (ep_op (ep_var rfl) (ep_cb (ap_cons (ep_var rfl) (ap_cons (ep_int (K := K)) ap_nil)) c_min2) o_add)) (ao_p (fun _ => (ep_cb (ap_cons (ep_var rfl) (ap_cons (ep_int (K := K)) ap_nil)) c_min2)) ao_nil))) (fun _ => asg_ok rfl) (fun _ => rfl) (fun _ => rfl) (Nat.le_of_ble_eq_true rfl) fun _ _ => rfl) fun z438 => (rt_seq (rp_asg (Γ := fun (s : Box) => [.ow ((boxP s).at v0), .im (pv K z345.1), .im (pv K z345.2.1), .im (pv K z345.2.2.1), .im (pv K ((if (3 : Int) < f_353 then (3 : Int) else f_353) : Int)), .im (pv K m434), .no, .im (pv K z438.1), .no, .no, .im (pv K ((z345.2.1 + (if (3 : Int) < f_353 then (3 : Int) else f_353)) : Int)), .no, .no, .no]) (i := 11) (Γ' := fun some_442 (s : Box) => [.ow ((boxP s).at v0), .im (pv K z345.1), .im (pv K z345.2.1), .im (pv K z345.2.2.1), .im (pv K ((if (3 : Int) < f_353 then (3 : Int) else f_353) : Int)), .im (pv K m434), .no, .im (pv K z438.1), .no, .no, .im (pv K ((z345.2.1 + (if (3 : Int) < f_353 then (3 : Int) else f_353)) : Int)), .im (pv K some_442), .no, .no]) (em_lc (Γx := fun (a441 : Int) (s : Box) => [.ow ((boxP s).at v0), .im (pv K z345.1), .im (pv K z345.2.1), .im (pv K z345.2.2.1), .im (pv K ((if (3 : Int) < f_353 then (3 : Int) else f_353) : Int)), .im (pv K m434), .no, .im (pv K z438.1), .no, .no, .im (pv K ((z345.2.1 + (if (3 : Int) < f_353 then (3 : Int) else f_353)) : Int)), .no, .no, .im (pv K a441)]) (js := [13]) (im_list fun _ => (ep_lst (xs := ([(2 : Int), (3 : Int), (5 : Int), (7 : Int), (11 : Int), (13 : Int), (17 : Int), (29 : Int), (61 : Int), (101 : Int), (499 : Int), (997 : Int)] : (List Int))) (hl := Nat.le_of_ble_eq_true rfl) (ap_cons (ep_int (K := K)) (ap_cons (ep_int (K := K)) (ap_cons (ep_int (K := K)) (ap_cons (ep_int (K := K)) (ap_cons (ep_int (K := K)) (ap_cons (ep_int (K := K)) (ap_cons (ep_int (K := K)) (ap_cons (ep_int (K := K)) (ap_cons (ep_int (K := K)) (ap_cons (ep_int (K := K)) (ap_cons (ep_int (K := K)) (ap_cons (ep_int (K := K)) ap_nil)))))))))))))) (fun _ => rfl) (fun a441 s => (gt_name (Γ := [.ow ((boxP s).at v0), .im (pv K z345.1), .im (pv K z345.2.1), .im (pv K z345.2.2.1), .im (pv K ((if (3 : Int) < f_353 then (3 : Int) else f_353) : Int)), .im (pv K m434), .no, .im (pv K z438.1), .no, .no, .im (pv K ((z345.2.1 + (if (3 : Int) < f_353 then (3 : Int) else f_353)) : Int)), .no, .no, .no]) (i := 13) (Γ' := [.ow ((boxP s).at v0), .im (pv K z345.1), .im (pv K z345.2.1), .im (pv K z345.2.2.1), .im (pv K ((if (3 : Int) < f_353 then (3 : Int) else f_353) : Int)), .im (pv K m434), .no, .im (pv K z438.1), .no, .no, .im (pv K ((z345.2.1 + (if (3 : Int) < f_353 then (3 : Int) else f_353)) : Int)), .no, .no, .im (pv K a441)]) rfl rfl)) rfl (fun a441 => (tm_pure fun _ => (tp_test (ep_op (ep_var rfl) (ep_var rfl) o_ge)))) (fun a441 => (em_pure fun _ => (ep_var rfl))) fun a441 s => (.cons (.rfl _) (.cons (.rfl _) (.cons (.rfl _) (.cons (.rfl _) (.cons (.rfl _) (.cons (.rfl _) (.cons (.rfl _) (.cons (.rfl _) (.cons (.rfl _) (.cons (.rfl _) (.cons (.rfl _) (.cons (.rfl _) (.cons (.rfl _) (.cons (.no _) .nil))))))))))))))) (fun _ => rfl) fun _ _ => rfl) fun some_442 => (rt_seq (rp_asg (Γ := fun (s : Box) => [.ow ((boxP s).at v0), .im (pv K z345.1), .im (pv K z345.2.1), .im (pv K z345.2.2.1), .im (pv K ((if (3 : Int) < f_353 then (3 : Int) else f_353) : Int)), .im (pv K m434), .no, .im (pv K z438.1), .no, .no, .im (pv K ((z345.2.1 + (if (3 : Int) < f_353 then (3 : Int) else f_353)) : Int)), .im (pv K some_442), .no, .no]) (i := 6) (Γ' := fun q446 (s : Box) => [.ow ((boxP s).at v0), .im (pv K z345.1), .im (pv K z345.2.1), .im (pv K z345.2.2.1), .im (pv K ((if (3 : Int) < f_353 then (3 : Int) else f_353) : Int)), .im (pv K m434), .im (pv K q446), .im (pv K z438.1), .no, .no, .im (pv K ((z345.2.1 + (if (3 : Int) < f_353 then (3 : Int) else f_353)) : Int)), .im (pv K some_442), .no, .no]) (em_ixLl (fun _ => (ep_var rfl)) (em_of_eo (eo_call1i (f := fun (z443 : Unit) => (((some_442.length : Nat) : Int) : Int)) (ak_sl (te := tC .non) (fun _ => rfl) (ak_p (fun _ => (ep_cb (ap_cons (ep_var rfl) ap_nil) c_lenL)) ak_nil)) (fun z443 => ⟨rfl, [pv K (((some_442.length : Nat) : Int) : Int)], rfl⟩) cv_at (fun _ => rfl) (fun _ _ => rfl) fun _ _ => rfl))) (fun _ => rfl) fun _ _ => rfl) fun q446 => (rt_seq (rp_asg (Γ := fun (s : Box) => [.ow ((boxP s).at v0), .im (pv K z345.1), .im (pv K z345.2.1), .im (pv K z345.2.2.1), .im (pv K ((if (3 : Int) < f_353 then (3 : Int) else f_353) : Int)), .im (pv K m434), .im (pv K q446), .im (pv K z438.1), .no, .no, .im (pv K ((z345.2.1 + (if (3 : Int) < f_353 then (3 : Int) else f_353)) : Int)), .im (pv K some_442), .no, .no]) (i := 12) (Γ' := fun j458 (s : Box) => [.ow ((boxP s).at v0), .im (pv K z345.1), .im (pv K z345.2.1), .im (pv K z345.2.2.1), .im (pv K ((if (3 : Int) < f_353 then (3 : Int) else f_353) : Int)), .im (pv K m434), .im (pv K q446), .im (pv K z438.1), .no, .no, .im (pv K ((z345.2.1 + (if (3 : Int) < f_353 then (3 : Int) else f_353)) : Int)), .im (pv K some_442), .im (pv K j458), .no]) (em_of_eo (eo_call0M (f := fun (z457 : Int × Int × Int × Int × Unit) => (z457.1, z457.2.1, z457.2.2.1, z457.2.2.2.1)) (am_cons (em_pure fun _ => (ep_var rfl)) (am_cons (em_pure fun _ => (ep_var rfl)) (am_cons (em_ixLr (em_of_eo (eo_call0 (i := m434) (ps := [pv K m434]) (fun _ => (ap_cons (ep_var rfl) ap_nil)) rfl)) fun _ => (ep_var rfl)) (am_cons (em_pure fun _ => (ep_var rfl)) am_nil)))) fun _ => rfl)) (fun _ => rfl) fun _ _ => rfl) fun j458 => (rt_ret (em_if (tm_pure fun _ => (tp_test (ep_op (ep_var rfl) (ep_non (K := K)) o_isNopt))) (em_pure fun _ => (ep_lst (xs := ([(z345.2.1 + (if (3 : Int) < f_353 then (3 : Int) else f_353)), (if (3 : Int) < f_353 then (3 : Int) else f_353), m434, m434, q446, (0 : Int)] : (List Int))) (hl := Nat.le_of_ble_eq_true rfl) (ap_cons (ep_var rfl) (ap_cons (ep_var rfl) (ap_cons (ep_var rfl) (ap_cons (ep_var rfl) (ap_cons (ep_var rfl) (ap_cons (ep_int (K := K)) ap_nil)))))))) (em_lst (f := fun (z471 : Int × Int × Int × Int × Int × Int × Unit) => ([z471.1, z471.2.1, z471.2.2.1, z471.2.2.2.1, z471.2.2.2.2.1, z471.2.2.2.2.2.1] : (List Int))) (hl := fun _ => Nat.le_of_ble_eq_true rfl) (am_cons (em_pure fun _ => (ep_var rfl)) (am_cons (em_pure fun _ => (ep_var rfl)) (am_cons (em_pure fun _ => (ep_var rfl)) (am_cons (em_pure fun _ => (ep_var rfl)) (am_cons (em_pure fun _ => (ep_var rfl)) (am_cons (em_unopt fun _ => (ep_var rfl)) am_nil)))))))) fun s => (.cons (.rfl _) (.cons (.no _) (.cons (.no _) (.cons (.no _) (.cons (.no _) (.cons (.no _) (.cons (.no _) (.cons (.no _) (.cons (.rfl _) (.cons (.rfl _) (.cons (.no _) (.cons (.no _) (.cons (.no _) (.cons (.rfl _) .nil)))))))))))))))))))))))))))) h⟩
theorem ok__law_world {f : Addr} {fd : FuncData} (F : FnP K "_law_world" (top 53) f fd) (hg : mg "_law_world" = some (.ref f)) (b_len : mg "len" = none) (b_max : mg "max" = none) (b_min : mg "min" = none) (C__law_take : Cal P w K mg base 1 "_law_take" ["box", "many"] (sp__law_take K)) (C__law_prime_from : Cal P w K mg base 2 "_law_prime_from" ["number"] (sp__law_prime_from K)) (C__law_row : Cal P w K mg base 1 "_law_row" ["m"] (sp__law_row K)) (C__law_symbols : Cal P w K mg base 2 "_law_symbols" ["n", "f", "lots", "q"] (sp__law_symbols K)) : Cal P w K mg base 3 "_law_world" ["box"] (sp__law_world K) := ⟨f, fd, fo__law_world F b_len b_max b_min C__law_take C__law_prime_from C__law_row C__law_symbols, hg, F.kp, F.bindsN fun _ _ _ _ _ _ us hl => match us, hl with | [_], _ => rfl⟩
def m__law_allowed (way : Int) (blocks : Int) (w_ : (List Int)) : Mn Unit Bool :=
  (mb (mp (decide (way = (0 : Int)))) fun b => mi b
    (mb (mb (mp blocks) fun x_493 => mb (mb (mb (mo (atI w_ (0 : Int))) fun x_477 => mb (mo (atI w_ (1 : Int))) fun y478 => mp (x_477 - y478)) fun x_491 => mb (mb (mo (atI w_ (2 : Int))) fun x_489 => mb (mb (mo (atI w_ (3 : Int))) fun x_487 => mb (mb (mo (atI w_ (4 : Int))) fun x_485 => mb (mp ()) fun z486 => mp (x_485, z486)) fun z488 => mp (x_487, z488)) fun z490 => mp (x_489, z490)) fun z492 => mp (x_491, z492)) fun z494 => mp (x_493, z494)) fun z495 => mu (m_lines_allow z495.1 z495.2.1 z495.2.2.1 z495.2.2.2.1 z495.2.2.2.2.1))
    (mb (mb (mo (atI w_ (2 : Int))) fun x_516 => mb (mb (mo (atI w_ (4 : Int))) fun x_514 => mb (mb (mb (mo (atI w_ (0 : Int))) fun x_504 => mb (mo (atI w_ (1 : Int))) fun y505 => mp (x_504 - y505)) fun x_512 => mb (mb (mo (atI w_ (3 : Int))) fun x_510 => mb (mb (mp blocks) fun x_508 => mb (mp ()) fun z509 => mp (x_508, z509)) fun z511 => mp (x_510, z511)) fun z513 => mp (x_512, z513)) fun z515 => mp (x_514, z515)) fun z517 => mp (x_516, z517)) fun z518 => mu (m_lines_allow z518.2.2.2.2.1 z518.2.2.1 z518.1 z518.2.2.2.1 z518.2.1)))
abbrev sp__law_allowed (K : PySem.W.Frag) : Sp := Prom (rIm K) (S := Unit) (fun i : Int × Int × (List Int) => [.im (pv K i.1), .im (pv K i.2.1), .im (pv K i.2.2)]) fun i => m__law_allowed i.1 i.2.1 i.2.2
theorem len__law_allowed : ∀ vs H Q E, sp__law_allowed K vs H Q E → vs.length = 3 := prom_len (Ret := (rIm K)) (As := fun i : Int × Int × (List Int) => [.im (pv K i.1), .im (pv K i.2.1), .im (pv K i.2.2)]) (m := fun i => m__law_allowed i.1 i.2.1 i.2.2) fun _ => rfl
theorem sc__law_allowed : FnScope ["way", "blocks", "w"] ["way", "blocks", "w"] (defScope (top 54)) := ⟨rfl, rfl, rfl, by decide +kernel, rfl, by decide +kernel, by decide +kernel⟩
theorem fo__law_allowed {f : Addr} {fd : FuncData} (F : FnP K "_law_allowed" (top 54) f fd) (C_lines_allow : Cal P w K mg base 5 "lines_allow" ["blocks", "need", "records", "changes", "contents"] (sp_lines_allow K)) (D_lines_allow__records_contents_need_changes_blocks : CalK P w K mg base 5 "lines_allow" ["blocks", "need", "records", "changes", "contents"] (sp_lines_allow K) ["records", "contents", "need", "changes", "blocks"] gl_lines_allow__records_contents_need_changes_blocks gv_lines_allow__records_contents_need_changes_blocks) : FnOk P w K mg base CX0 6 f fd ["way", "blocks", "w"] (sp__law_allowed K) := by
  obtain ⟨f_lines_allow, fd_lines_allow, G_lines_allow, g_lines_allow, kp_lines_allow, bi_lines_allow⟩ := C_lines_allow.ex
  obtain ⟨f_lines_allow__records_contents_need_changes_blocks, fd_lines_allow__records_contents_need_changes_blocks, G_lines_allow__records_contents_need_changes_blocks, g_lines_allow__records_contents_need_changes_blocks, kp_lines_allow__records_contents_need_changes_blocks, bi_lines_allow__records_contents_need_changes_blocks⟩ := D_lines_allow__records_contents_need_changes_blocks.ex
  refine F.ok sc__law_allowed (len__law_allowed (K := K)) (fun cdv A outer s H vs Q E hr h => ?_)
  have hl : vs.length = 3 := len__law_allowed (K := K) vs H Q E h
  match vs, hl, h with
  | [v0, v1, v2], _, h => exact ⟨_, PSs.nox ((pss_cons (ps_if (pt_cmpR op_eq (L2.pv 0) pe_int (nomark _)) (pss_one (ps_ret (pe_call G_lines_allow (hr.mono (Nat.le_of_ble_eq_true rfl)) rfl g_lines_allow kp_lines_allow bi_lines_allow .nil pass0 (pa_cons (L2.pv 1) (pa_cons (pe_op op_sub (pe_ix ix_list (L2.pv 2) pe_int (fun _ _ => rfl)) (pe_ix ix_list (L2.pv 2) pe_int (fun _ _ => rfl))) (pa_cons (pe_ix ix_list (L2.pv 2) pe_int (fun _ _ => rfl)) (pa_cons (pe_ix ix_list (L2.pv 2) pe_int (fun _ _ => rfl)) (pa_cons (pe_ix ix_list (L2.pv 2) pe_int (fun _ _ => rfl)) pa_nil)))))))) pss_nil) (pss_one (ps_ret (pe_callK0 G_lines_allow__records_contents_need_changes_blocks (hr.mono (Nat.le_of_ble_eq_true rfl)) rfl g_lines_allow__records_contents_need_changes_blocks kp_lines_allow__records_contents_need_changes_blocks bi_lines_allow__records_contents_need_changes_blocks pass0 (pk_cons (pe_ix ix_list (L2.pv 2) pe_int (fun _ _ => rfl)) (pk_cons (pe_ix ix_list (L2.pv 2) pe_int (fun _ _ => rfl)) (pk_cons (pe_op op_sub (pe_ix ix_list (L2.pv 2) pe_int (fun _ _ => rfl)) (pe_ix ix_list (L2.pv 2) pe_int (fun _ _ => rfl))) (pk_cons (pe_ix ix_list (L2.pv 2) pe_int (fun _ _ => rfl)) (pk_cons (L2.pv 1) pk_nil)))))))))), prom_ok (n := 3) (Ret := (rIm K)) (As := fun i : Int × Int × (List Int) => [.im (pv K i.1), .im (pv K i.2.1), .im (pv K i.2.2)]) (m := fun i => m__law_allowed i.1 i.2.1 i.2.2) 0 (fun _ => rfl) rfl (fun (way, blocks, w_) => (show RN (rIm K) _ (fun (s : Unit) => [.im (pv K way), .im (pv K blocks), .im (pv K w_)]) (m__law_allowed way blocks w_) (fun (s : Unit) => [.no, .no, .no]) from (rn_of (rt_ifr (tm_pure fun _ => (tp_test (ep_op (ep_var rfl) (ep_int (K := K)) o_eq))) (rt_ret (em_of_eo (eo_call0M (f := fun (z495 : Int × Int × Int × Int × Int × Unit) => (z495.1, z495.2.1, z495.2.2.1, z495.2.2.2.1, z495.2.2.2.2.1)) (am_cons (em_pure fun _ => (ep_var rfl)) (am_cons (em_op (g := fun (u : Int) (v : Int) => (u - v)) (em_ixLp (fun _ => (ep_var rfl)) fun _ => (ep_int (K := K))) (em_ixLp (fun _ => (ep_var rfl)) fun _ => (ep_int (K := K))) fun _ _ => o_sub) (am_cons (em_ixLp (fun _ => (ep_var rfl)) fun _ => (ep_int (K := K))) (am_cons (em_ixLp (fun _ => (ep_var rfl)) fun _ => (ep_int (K := K))) (am_cons (em_ixLp (fun _ => (ep_var rfl)) fun _ => (ep_int (K := K))) am_nil))))) fun _ => rfl)) fun s => (.cons (.no _) (.cons (.no _) (.cons (.no _) .nil)))) (rt_ret (em_of_eo (eo_callKM (f := fun (z518 : Int × Int × Int × Int × Int × Unit) => (z518.2.2.2.2.1, z518.2.2.1, z518.1, z518.2.2.2.1, z518.2.1)) (qsf := fun (z518 : Int × Int × Int × Int × Int × Unit) => [pv K z518.2.2.2.2.1, pv K z518.2.2.1, pv K z518.1, pv K z518.2.2.2.1, pv K z518.2.1]) (am_cons (em_ixLp (fun _ => (ep_var rfl)) fun _ => (ep_int (K := K))) (am_cons (em_ixLp (fun _ => (ep_var rfl)) fun _ => (ep_int (K := K))) (am_cons (em_op (g := fun (u : Int) (v : Int) => (u - v)) (em_ixLp (fun _ => (ep_var rfl)) fun _ => (ep_int (K := K))) (em_ixLp (fun _ => (ep_var rfl)) fun _ => (ep_int (K := K))) fun _ _ => o_sub) (am_cons (em_ixLp (fun _ => (ep_var rfl)) fun _ => (ep_int (K := K))) (am_cons (em_pure fun _ => (ep_var rfl)) am_nil))))) (by intro z518 I vs h; obtain ⟨_, _, rfl, r0, h⟩ := all2_c h; obtain ⟨_, _, rfl, r1, h⟩ := all2_c h; obtain ⟨_, _, rfl, r2, h⟩ := all2_c h; obtain ⟨_, _, rfl, r3, h⟩ := all2_c h; obtain ⟨_, _, rfl, r4, h⟩ := all2_c h; cases all2_n h; exact (.cons r4 (.cons r2 (.cons r0 (.cons r3 (.cons r1 .nil)))))) fun _ => rfl)) fun s => (.cons (.no _) (.cons (.no _) (.cons (.no _) .nil)))))))) h⟩
theorem ok__law_allowed {f : Addr} {fd : FuncData} (F : FnP K "_law_allowed" (top 54) f fd) (hg : mg "_law_allowed" = some (.ref f)) (C_lines_allow : Cal P w K mg base 5 "lines_allow" ["blocks", "need", "records", "changes", "contents"] (sp_lines_allow K)) (D_lines_allow__records_contents_need_changes_blocks : CalK P w K mg base 5 "lines_allow" ["blocks", "need", "records", "changes", "contents"] (sp_lines_allow K) ["records", "contents", "need", "changes", "blocks"] gl_lines_allow__records_contents_need_changes_blocks gv_lines_allow__records_contents_need_changes_blocks) : Cal P w K mg base 6 "_law_allowed" ["way", "blocks", "w"] (sp__law_allowed K) := ⟨f, fd, fo__law_allowed F C_lines_allow D_lines_allow__records_contents_need_changes_blocks, hg, F.kp, F.bindsN fun _ _ _ _ _ _ us hl => match us, hl with | [_, _, _], _ => rfl⟩
def m__law_numbers (way : Int) (w_ : (List Int)) : Mn Unit (L3 Int (Option Int) Bool) :=
  (mb (mb (mp ((cutL w_ none (some (5 : Int))) : (List Int))) fun w_519 => mc (decide (w_519.length = 5)) w_519) fun w_519 =>
  (mb (mp (decide (way = (0 : Int)))) fun b => mi b
    (mb (mb (mu (m_enough ((w_519.getD 0 0) : Int) ((w_519.getD 1 0) : Int) ((w_519.getD 2 0) : Int) ((w_519.getD 3 0) : Int) ((w_519.getD 4 0) : Int))) fun x_524 => mb (mb (mu (m_least_told ((w_519.getD 0 0) : Int) ((w_519.getD 1 0) : Int) ((w_519.getD 2 0) : Int) ((w_519.getD 3 0) : Int) ((w_519.getD 4 0) : Int))) fun x_522 => mb (mb (mu (m_is_exact ((w_519.getD 0 0) : Int) ((w_519.getD 1 0) : Int) ((w_519.getD 2 0) : Int) ((w_519.getD 3 0) : Int) ((w_519.getD 4 0) : Int))) fun x_520 => mb (mp ()) fun z521 => mp (x_520, z521)) fun z523 => mp (x_522, z523)) fun z525 => mp (x_524, z525)) fun z526 => mp (L3.mk z526.1 z526.2.1 z526.2.2.1))
    (mb (mu (m_is_exact ((w_519.getD 0 0) : Int) ((w_519.getD 1 0) : Int) ((w_519.getD 2 0) : Int) ((w_519.getD 3 0) : Int) ((w_519.getD 4 0) : Int))) fun exact527 =>
  (mb (mu (m_least_told ((w_519.getD 0 0) : Int) ((w_519.getD 1 0) : Int) ((w_519.getD 2 0) : Int) ((w_519.getD 3 0) : Int) ((w_519.getD 4 0) : Int))) fun least528 =>
  (mb (mb (mu (m_enough ((w_519.getD 0 0) : Int) ((w_519.getD 1 0) : Int) ((w_519.getD 2 0) : Int) ((w_519.getD 3 0) : Int) ((w_519.getD 4 0) : Int))) fun x_533 => mb (mb (mp least528) fun x_531 => mb (mb (mp exact527) fun x_529 => mb (mp ()) fun z530 => mp (x_529, z530)) fun z532 => mp (x_531, z532)) fun z534 => mp (x_533, z534)) fun z535 => mp (L3.mk z535.1 z535.2.1 z535.2.2.1))))))
abbrev sp__law_numbers (K : PySem.W.Frag) : Sp := Prom (rIm K) (S := Unit) (fun i : Int × (List Int) => [.im (pv K i.1), .im (pv K i.2)]) fun i => m__law_numbers i.1 i.2
theorem len__law_numbers : ∀ vs H Q E, sp__law_numbers K vs H Q E → vs.length = 2 := prom_len (Ret := (rIm K)) (As := fun i : Int × (List Int) => [.im (pv K i.1), .im (pv K i.2)]) (m := fun i => m__law_numbers i.1 i.2) fun _ => rfl
theorem sc__law_numbers : FnScope ["way", "w", "n", "f", "m", "k", "q", "exact", "least"] ["way", "w"] (defScope (top 55)) := ⟨rfl, rfl, rfl, by decide +kernel, rfl, by decide +kernel, by decide +kernel⟩
theorem fo__law_numbers {f : Addr} {fd : FuncData} (F : FnP K "_law_numbers" (top 55) f fd) (C_enough : Cal P w K mg base 8 "enough" ["disks", "lost", "records", "changes", "contents"] (sp_enough K)) (D_enough__records_contents_lost_changes_disks : CalK P w K mg base 8 "enough" ["disks", "lost", "records", "changes", "contents"] (sp_enough K) ["records", "contents", "lost", "changes", "disks"] gl_enough__records_contents_lost_changes_disks gv_enough__records_contents_lost_changes_disks) (C_least_told : Cal P w K mg base 4 "least_told" ["disks", "lost", "records", "changes", "contents"] (sp_least_told K)) (D_least_told__lost_contents_changes_disks_records : CalK P w K mg base 4 "least_told" ["disks", "lost", "records", "changes", "contents"] (sp_least_told K) ["lost", "contents", "changes", "disks", "records"] gl_least_told__lost_contents_changes_disks_records gv_least_told__lost_contents_changes_disks_records) (C_is_exact : Cal P w K mg base 9 "is_exact" ["disks", "lost", "records", "changes", "contents"] (sp_is_exact K)) (D_is_exact__contents_changes_records_lost_disks : CalK P w K mg base 9 "is_exact" ["disks", "lost", "records", "changes", "contents"] (sp_is_exact K) ["contents", "changes", "records", "lost", "disks"] gl_is_exact__contents_changes_records_lost_disks gv_is_exact__contents_changes_records_lost_disks) : FnOk P w K mg base CX0 10 f fd ["way", "w"] (sp__law_numbers K) := by
  obtain ⟨f_enough, fd_enough, G_enough, g_enough, kp_enough, bi_enough⟩ := C_enough.ex
  obtain ⟨f_enough__records_contents_lost_changes_disks, fd_enough__records_contents_lost_changes_disks, G_enough__records_contents_lost_changes_disks, g_enough__records_contents_lost_changes_disks, kp_enough__records_contents_lost_changes_disks, bi_enough__records_contents_lost_changes_disks⟩ := D_enough__records_contents_lost_changes_disks.ex
  obtain ⟨f_least_told, fd_least_told, G_least_told, g_least_told, kp_least_told, bi_least_told⟩ := C_least_told.ex
  obtain ⟨f_least_told__lost_contents_changes_disks_records, fd_least_told__lost_contents_changes_disks_records, G_least_told__lost_contents_changes_disks_records, g_least_told__lost_contents_changes_disks_records, kp_least_told__lost_contents_changes_disks_records, bi_least_told__lost_contents_changes_disks_records⟩ := D_least_told__lost_contents_changes_disks_records.ex
  obtain ⟨f_is_exact, fd_is_exact, G_is_exact, g_is_exact, kp_is_exact, bi_is_exact⟩ := C_is_exact.ex
  obtain ⟨f_is_exact__contents_changes_records_lost_disks, fd_is_exact__contents_changes_records_lost_disks, G_is_exact__contents_changes_records_lost_disks, g_is_exact__contents_changes_records_lost_disks, kp_is_exact__contents_changes_records_lost_disks, bi_is_exact__contents_changes_records_lost_disks⟩ := D_is_exact__contents_changes_records_lost_disks.ex
  refine F.ok sc__law_numbers (len__law_numbers (K := K)) (fun cdv A outer s H vs Q E hr h => ?_)
  have hl : vs.length = 2 := len__law_numbers (K := K) vs H Q E h
  match vs, hl, h with
  | [v0, v1], _, h => exact ⟨_, PSs.nox ((pss_cons (ps_asg (pe_slice sl_list (L2.pv 1) po_none (po_some pe_int)) (pg_lst (n := 5) rfl (pgs_cons (pg_name (i := 2) sc__law_numbers.nd rfl (Or.inl rfl)) (pgs_cons (pg_name (i := 3) sc__law_numbers.nd rfl (Or.inl rfl)) (pgs_cons (pg_name (i := 4) sc__law_numbers.nd rfl (Or.inl rfl)) (pgs_cons (pg_name (i := 5) sc__law_numbers.nd rfl (Or.inl rfl)) (pgs_cons (pg_name (i := 6) sc__law_numbers.nd rfl (Or.inl rfl)) pgs_nil))))))) (pss_cons (ps_if (pt_cmpR op_eq (L2.pv 0) pe_int (nomark _)) (pss_one (ps_ret (pe_lst (pa_cons (pe_call G_enough (hr.mono (Nat.le_of_ble_eq_true rfl)) rfl g_enough kp_enough bi_enough .nil pass0 (pa_cons (L2.pv 2) (pa_cons (L2.pv 3) (pa_cons (L2.pv 4) (pa_cons (L2.pv 5) (pa_cons (L2.pv 6) pa_nil)))))) (pa_cons (pe_call G_least_told (hr.mono (Nat.le_of_ble_eq_true rfl)) rfl g_least_told kp_least_told bi_least_told .nil pass0 (pa_cons (L2.pv 2) (pa_cons (L2.pv 3) (pa_cons (L2.pv 4) (pa_cons (L2.pv 5) (pa_cons (L2.pv 6) pa_nil)))))) (pa_cons (pe_call G_is_exact (hr.mono (Nat.le_of_ble_eq_true rfl)) rfl g_is_exact kp_is_exact bi_is_exact .nil pass0 (pa_cons (L2.pv 2) (pa_cons (L2.pv 3) (pa_cons (L2.pv 4) (pa_cons (L2.pv 5) (pa_cons (L2.pv 6) pa_nil)))))) pa_nil)))))) pss_nil) (pss_cons (ps_set (i := 7) sc__law_numbers.nd rfl (Or.inl rfl) (pe_callK0 G_is_exact__contents_changes_records_lost_disks (hr.mono (Nat.le_of_ble_eq_true rfl)) rfl g_is_exact__contents_changes_records_lost_disks kp_is_exact__contents_changes_records_lost_disks bi_is_exact__contents_changes_records_lost_disks pass0 (pk_cons (L2.pv 6) (pk_cons (L2.pv 5) (pk_cons (L2.pv 4) (pk_cons (L2.pv 3) (pk_cons (L2.pv 2) pk_nil))))))) (pss_cons (ps_set (i := 8) sc__law_numbers.nd rfl (Or.inl rfl) (pe_callK0 G_least_told__lost_contents_changes_disks_records (hr.mono (Nat.le_of_ble_eq_true rfl)) rfl g_least_told__lost_contents_changes_disks_records kp_least_told__lost_contents_changes_disks_records bi_least_told__lost_contents_changes_disks_records pass0 (pk_cons (L2.pv 3) (pk_cons (L2.pv 6) (pk_cons (L2.pv 5) (pk_cons (L2.pv 2) (pk_cons (L2.pv 4) pk_nil))))))) (pss_one (ps_ret (pe_lst (pa_cons (pe_callK0 G_enough__records_contents_lost_changes_disks (hr.mono (Nat.le_of_ble_eq_true rfl)) rfl g_enough__records_contents_lost_changes_disks kp_enough__records_contents_lost_changes_disks bi_enough__records_contents_lost_changes_disks pass0 (pk_cons (L2.pv 4) (pk_cons (L2.pv 6) (pk_cons (L2.pv 3) (pk_cons (L2.pv 5) (pk_cons (L2.pv 2) pk_nil)))))) (pa_cons (L2.pv 8) (pa_cons (L2.pv 7) pa_nil))))))))))), prom_ok (n := 2) (Ret := (rIm K)) (As := fun i : Int × (List Int) => [.im (pv K i.1), .im (pv K i.2)]) (m := fun i => m__law_numbers i.1 i.2) 7 (fun _ => rfl) rfl (fun (way, w_) => (show RN (rIm K) _ (fun (s : Unit) => [.im (pv K way), .im (pv K w_), .no, .no, .no, .no, .no, .no, .no]) (m__law_numbers way w_) (fun (s : Unit) => [.no, .no, .no, .no, .no, .no, .no, .no, .no]) from (rn_of (rt_seq (rp_unpL (Γ := fun (s : Unit) => [.im (pv K way), .im (pv K w_), .no, .no, .no, .no, .no, .no, .no]) (Γ' := fun w_519 (s : Unit) => [.im (pv K way), .im (pv K w_), .im (pv K ((w_519.getD 0 0) : Int)), .im (pv K ((w_519.getD 1 0) : Int)), .im (pv K ((w_519.getD 2 0) : Int)), .im (pv K ((w_519.getD 3 0) : Int)), .im (pv K ((w_519.getD 4 0) : Int)), .no, .no]) (n := 5) [2, 3, 4, 5, 6] (em_pure fun _ => (ep_sl (ep_var rfl) po_no (po_i (ep_int (K := K))))) (fun _ => asg_ok rfl) fun _ _ => rfl) fun w_519 => (rt_ifr (tm_pure fun _ => (tp_test (ep_op (ep_var rfl) (ep_int (K := K)) o_eq))) (rt_ret (em_l3 (f := fun (z526 : Int × (Option Int) × Bool × Unit) => L3.mk z526.1 z526.2.1 z526.2.2.1) (am_cons (em_of_eo (eo_call0 (i := (((w_519.getD 0 0) : Int), ((w_519.getD 1 0) : Int), ((w_519.getD 2 0) : Int), ((w_519.getD 3 0) : Int), ((w_519.getD 4 0) : Int))) (ps := [pv K ((w_519.getD 0 0) : Int), pv K ((w_519.getD 1 0) : Int), pv K ((w_519.getD 2 0) : Int), pv K ((w_519.getD 3 0) : Int), pv K ((w_519.getD 4 0) : Int)]) (fun _ => (ap_cons (ep_var rfl) (ap_cons (ep_var rfl) (ap_cons (ep_var rfl) (ap_cons (ep_var rfl) (ap_cons (ep_var rfl) ap_nil)))))) rfl)) (am_cons (em_of_eo (eo_call0 (i := (((w_519.getD 0 0) : Int), ((w_519.getD 1 0) : Int), ((w_519.getD 2 0) : Int), ((w_519.getD 3 0) : Int), ((w_519.getD 4 0) : Int))) (ps := [pv K ((w_519.getD 0 0) : Int), pv K ((w_519.getD 1 0) : Int), pv K ((w_519.getD 2 0) : Int), pv K ((w_519.getD 3 0) : Int), pv K ((w_519.getD 4 0) : Int)]) (fun _ => (ap_cons (ep_var rfl) (ap_cons (ep_var rfl) (ap_cons (ep_var rfl) (ap_cons (ep_var rfl) (ap_cons (ep_var rfl) ap_nil)))))) rfl)) (am_cons (em_of_eo (eo_call0 (i := (((w_519.getD 0 0) : Int), ((w_519.getD 1 0) : Int), ((w_519.getD 2 0) : Int), ((w_519.getD 3 0) : Int), ((w_519.getD 4 0) : Int))) (ps := [pv K ((w_519.getD 0 0) : Int), pv K ((w_519.getD 1 0) : Int), pv K ((w_519.getD 2 0) : Int), pv K ((w_519.getD 3 0) : Int), pv K ((w_519.getD 4 0) : Int)]) (fun _ => (ap_cons (ep_var rfl) (ap_cons (ep_var rfl) (ap_cons (ep_var rfl) (ap_cons (ep_var rfl) (ap_cons (ep_var rfl) ap_nil)))))) rfl)) am_nil)))) fun s => (.cons (.no _) (.cons (.no _) (.cons (.no _) (.cons (.no _) (.cons (.no _) (.cons (.no _) (.cons (.no _) (.cons (.rfl _) (.cons (.rfl _) .nil)))))))))) (rt_seq (rp_asg (Γ := fun (s : Unit) => [.im (pv K way), .im (pv K w_), .im (pv K ((w_519.getD 0 0) : Int)), .im (pv K ((w_519.getD 1 0) : Int)), .im (pv K ((w_519.getD 2 0) : Int)), .im (pv K ((w_519.getD 3 0) : Int)), .im (pv K ((w_519.getD 4 0) : Int)), .no, .no]) (i := 7) (Γ' := fun exact527 (s : Unit) => [.im (pv K way), .im (pv K w_), .im (pv K ((w_519.getD 0 0) : Int)), .im (pv K ((w_519.getD 1 0) : Int)), .im (pv K ((w_519.getD 2 0) : Int)), .im (pv K ((w_519.getD 3 0) : Int)), .im (pv K ((w_519.getD 4 0) : Int)), .im (pv K exact527), .no]) (em_of_eo (eo_callK (i := (((w_519.getD 0 0) : Int), ((w_519.getD 1 0) : Int), ((w_519.getD 2 0) : Int), ((w_519.getD 3 0) : Int), ((w_519.getD 4 0) : Int))) (qs := [pv K ((w_519.getD 0 0) : Int), pv K ((w_519.getD 1 0) : Int), pv K ((w_519.getD 2 0) : Int), pv K ((w_519.getD 3 0) : Int), pv K ((w_519.getD 4 0) : Int)]) (fun _ => (ap_cons (ep_var rfl) (ap_cons (ep_var rfl) (ap_cons (ep_var rfl) (ap_cons (ep_var rfl) (ap_cons (ep_var rfl) ap_nil)))))) (by intro I vs h; obtain ⟨_, _, rfl, r0, h⟩ := all2_c h; obtain ⟨_, _, rfl, r1, h⟩ := all2_c h; obtain ⟨_, _, rfl, r2, h⟩ := all2_c h; obtain ⟨_, _, rfl, r3, h⟩ := all2_c h; obtain ⟨_, _, rfl, r4, h⟩ := all2_c h; cases all2_n h; exact (.cons r4 (.cons r3 (.cons r2 (.cons r1 (.cons r0 .nil)))))) rfl)) (fun _ => rfl) fun _ _ => rfl) fun exact527 => (rt_seq (rp_asg (Γ := fun (s : Unit) => [.im (pv K way), .im (pv K w_), .im (pv K ((w_519.getD 0 0) : Int)), .im (pv K ((w_519.getD 1 0) : Int)), .im (pv K ((w_519.getD 2 0) : Int)), .im (pv K ((w_519.getD 3 0) : Int)), .im (pv K ((w_519.getD 4 0) : Int)), .im (pv K exact527), .no]) (i := 8) (Γ' := fun least528 (s : Unit) => [.im (pv K way), .im (pv K w_), .im (pv K ((w_519.getD 0 0) : Int)), .im (pv K ((w_519.getD 1 0) : Int)), .im (pv K ((w_519.getD 2 0) : Int)), .im (pv K ((w_519.getD 3 0) : Int)), .im (pv K ((w_519.getD 4 0) : Int)), .im (pv K exact527), .im (pv K least528)]) (em_of_eo (eo_callK (i := (((w_519.getD 0 0) : Int), ((w_519.getD 1 0) : Int), ((w_519.getD 2 0) : Int), ((w_519.getD 3 0) : Int), ((w_519.getD 4 0) : Int))) (qs := [pv K ((w_519.getD 0 0) : Int), pv K ((w_519.getD 1 0) : Int), pv K ((w_519.getD 2 0) : Int), pv K ((w_519.getD 3 0) : Int), pv K ((w_519.getD 4 0) : Int)]) (fun _ => (ap_cons (ep_var rfl) (ap_cons (ep_var rfl) (ap_cons (ep_var rfl) (ap_cons (ep_var rfl) (ap_cons (ep_var rfl) ap_nil)))))) (by intro I vs h; obtain ⟨_, _, rfl, r0, h⟩ := all2_c h; obtain ⟨_, _, rfl, r1, h⟩ := all2_c h; obtain ⟨_, _, rfl, r2, h⟩ := all2_c h; obtain ⟨_, _, rfl, r3, h⟩ := all2_c h; obtain ⟨_, _, rfl, r4, h⟩ := all2_c h; cases all2_n h; exact (.cons r3 (.cons r0 (.cons r4 (.cons r2 (.cons r1 .nil)))))) rfl)) (fun _ => rfl) fun _ _ => rfl) fun least528 => (rt_ret (em_l3 (f := fun (z535 : Int × (Option Int) × Bool × Unit) => L3.mk z535.1 z535.2.1 z535.2.2.1) (am_cons (em_of_eo (eo_callK (i := (((w_519.getD 0 0) : Int), ((w_519.getD 1 0) : Int), ((w_519.getD 2 0) : Int), ((w_519.getD 3 0) : Int), ((w_519.getD 4 0) : Int))) (qs := [pv K ((w_519.getD 0 0) : Int), pv K ((w_519.getD 1 0) : Int), pv K ((w_519.getD 2 0) : Int), pv K ((w_519.getD 3 0) : Int), pv K ((w_519.getD 4 0) : Int)]) (fun _ => (ap_cons (ep_var rfl) (ap_cons (ep_var rfl) (ap_cons (ep_var rfl) (ap_cons (ep_var rfl) (ap_cons (ep_var rfl) ap_nil)))))) (by intro I vs h; obtain ⟨_, _, rfl, r0, h⟩ := all2_c h; obtain ⟨_, _, rfl, r1, h⟩ := all2_c h; obtain ⟨_, _, rfl, r2, h⟩ := all2_c h; obtain ⟨_, _, rfl, r3, h⟩ := all2_c h; obtain ⟨_, _, rfl, r4, h⟩ := all2_c h; cases all2_n h; exact (.cons r4 (.cons r2 (.cons r0 (.cons r3 (.cons r1 .nil)))))) rfl)) (am_cons (em_pure fun _ => (ep_var rfl)) (am_cons (em_pure fun _ => (ep_var rfl)) am_nil)))) fun s => (.cons (.no _) (.cons (.no _) (.cons (.no _) (.cons (.no _) (.cons (.no _) (.cons (.no _) (.cons (.no _) (.cons (.no _) (.cons (.no _) .nil))))))))))))))))) h⟩
theorem ok__law_numbers {f : Addr} {fd : FuncData} (F : FnP K "_law_numbers" (top 55) f fd) (hg : mg "_law_numbers" = some (.ref f)) (C_enough : Cal P w K mg base 8 "enough" ["disks", "lost", "records", "changes", "contents"] (sp_enough K)) (D_enough__records_contents_lost_changes_disks : CalK P w K mg base 8 "enough" ["disks", "lost", "records", "changes", "contents"] (sp_enough K) ["records", "contents", "lost", "changes", "disks"] gl_enough__records_contents_lost_changes_disks gv_enough__records_contents_lost_changes_disks) (C_least_told : Cal P w K mg base 4 "least_told" ["disks", "lost", "records", "changes", "contents"] (sp_least_told K)) (D_least_told__lost_contents_changes_disks_records : CalK P w K mg base 4 "least_told" ["disks", "lost", "records", "changes", "contents"] (sp_least_told K) ["lost", "contents", "changes", "disks", "records"] gl_least_told__lost_contents_changes_disks_records gv_least_told__lost_contents_changes_disks_records) (C_is_exact : Cal P w K mg base 9 "is_exact" ["disks", "lost", "records", "changes", "contents"] (sp_is_exact K)) (D_is_exact__contents_changes_records_lost_disks : CalK P w K mg base 9 "is_exact" ["disks", "lost", "records", "changes", "contents"] (sp_is_exact K) ["contents", "changes", "records", "lost", "disks"] gl_is_exact__contents_changes_records_lost_disks gv_is_exact__contents_changes_records_lost_disks) : Cal P w K mg base 10 "_law_numbers" ["way", "w"] (sp__law_numbers K) := ⟨f, fd, fo__law_numbers F C_enough D_enough__records_contents_lost_changes_disks C_least_told D_least_told__lost_contents_changes_disks_records C_is_exact D_is_exact__contents_changes_records_lost_disks, hg, F.kp, F.bindsN fun _ _ _ _ _ _ us hl => match us, hl with | [_, _], _ => rfl⟩
def m__law_right (w_ : (List Int)) (made : C_Array) : Mn Box Bool :=
  (mb (mb (mp w_) fun w_536 => mc (decide (w_536.length = 6)) w_536) fun w_536 =>
  (mb (mb (mb (mb (mc (divOk ((w_536.getD 0 0) - (w_536.getD 1 0))) ((((w_536.getD 5 0) + (w_536.getD 0 0)) - (w_536.getD 1 0)) / ((w_536.getD 0 0) - (w_536.getD 1 0)))) fun y538 => mc (mulOk (w_536.getD 1 0) y538) ((w_536.getD 1 0) * y538)) fun y540 => mp (((w_536.getD 5 0) + (1 : Int)) + y540)) fun x_542 => mb (mp ()) fun z543 => mp (x_542, z543)) fun z541 =>
  (mb (mb (mb (mc (b62 ((w_536.getD 0 0) : Int)) (rng 0 ((w_536.getD 0 0) : Int).toNat)) fun xs => cmP xs (fun (a544 : Int) => (mp true)) fun a544 => (mb (mb (mb (mp a544) fun x_549 => mb (mb (mp z541.1) fun x_547 => mb (mb (mp ((w_536.getD 0 0) : Int)) fun x_545 => mb (mp ()) fun z546 => mp (x_545, z546)) fun z548 => mp (x_547, z548)) fun z550 => mp (x_549, z550)) fun z551 => mc (rgCok z551.1 z551.2.1 z551.2.2.1) ((rgN z551.1 z551.2.1 z551.2.2.1 : Nat) : Int)) fun y553 => mp (((w_536.getD 2 0) + (w_536.getD 3 0)) + y553))) fun x_557 => mb (mb (mu (m__law_least ((w_536.getD 0 0) : Int) ((w_536.getD 1 0) : Int) ((w_536.getD 2 0) : Int) ((w_536.getD 3 0) : Int) ((w_536.getD 4 0) : Int))) fun x_555 => mb (mp ()) fun z556 => mp (x_555, z556)) fun z558 => mp (x_557, z558)) fun z554 =>
  (mb (mc (rgOk 0 (w_536.getD 0 0)) (rng 0 (w_536.getD 0 0).toNat)) fun order559 =>
  (mb (mb (mb (m__law_take ((2 : Int) : Int)) fun x_564 => mp (decide (x_564 = (0 : Int)))) fun b => mi b
    (mb (mp order559.reverse) fun order567 => mp order567)
    (mp order559)) fun t566 =>
  (mb (mb (mp t566) fun xs => forC (β := Empty) xs () fun a569 (t568 : Unit) =>
    (mb (mb (mu (m_blocks_on made a569)) fun x_572 => mb (mo (atI z554.1 a569)) fun y573 => mp (!decide (x_572 = y573))) fun b => mi b
      (mb (mp false) fun x => mp (.rt x))
      (mp (.nx ())))) (ctk (fun t574 => (mb (mp ((z554.1).sum : Int)) fun whole575 =>
  (mb (mb (mb (mb (mb (mb (mb (m__law_take ((2 : Int) : Int)) fun x_579 => mb (mb (mp w_) fun x_577 => mb (mp ()) fun z578 => mp (x_577, z578)) fun z580 => mp (x_579, z580)) fun z581 => mu (m__law_numbers z581.1 z581.2.1)) fun x_582 => mb (mp ()) fun z583 => mp (x_582, z583)) fun z584 => mc (rprDok z584.1) (rprD z584.1)) fun x_595 => mb (mb (mb (mb (mb (mp whole575) fun x_589 => mb (mb (mp z554.2.1) fun x_587 => mb (mb (mp (decide (z554.2.1 = (some whole575)) : Bool)) fun x_585 => mb (mp ()) fun z586 => mp (x_585, z586)) fun z588 => mp (x_587, z588)) fun z590 => mp (x_589, z590)) fun z591 => mp (L3.mk z591.1 z591.2.1 z591.2.2.1)) fun x_592 => mb (mp ()) fun z593 => mp (x_592, z593)) fun z594 => mc (rprDok z594.1) (rprD z594.1)) fun y596 => mp (!decide (x_595 = y596))) fun b599 => mi b599 (mp true) (mb (mu (m_all_blocks made)) fun x_597 => mp (!decide (x_597 = whole575)))) fun b => mi b
    (mp false)
    (mb (mp (((cutL (srt z554.1) none (some ((w_536.getD 0 0) - (w_536.getD 1 0))))).sum : Int)) fun fewest600 =>
  (mb (mb (mb (mb (mb (mc (mulOk ((w_536.getD 0 0) - (w_536.getD 1 0)) ((w_536.getD 2 0) + (w_536.getD 3 0))) (((w_536.getD 0 0) - (w_536.getD 1 0)) * ((w_536.getD 2 0) + (w_536.getD 3 0)))) fun x_601 => mp (x_601 + (w_536.getD 5 0))) fun x_603 => mp (x_603 + (1 : Int))) fun y606 => mp (!decide (fewest600 = y606))) fun b617 => mi b617 (mp true) (mb (mb (mb (m__law_take ((2 : Int) : Int)) fun x_612 => mb (mb (mp fewest600) fun x_610 => mb (mb (mp w_) fun x_608 => mb (mp ()) fun z609 => mp (x_608, z609)) fun z611 => mp (x_610, z611)) fun z613 => mp (x_612, z613)) fun z614 => mu (m__law_allowed z614.1 z614.2.1 z614.2.2.1)) fun x_615 => mp (!decide (x_615 = true)))) fun b => mi b
    (mp false)
    (mb (mb (mp (decide (z554.2.1 = (some whole575)))) fun b618 => mi b618 (mp false) (mu (m__law_allow ((fewest600 - (1 : Int)) : Int) (((w_536.getD 0 0) - (w_536.getD 1 0)) : Int) ((w_536.getD 2 0) : Int) ((w_536.getD 3 0) : Int) ((w_536.getD 4 0) : Int)))) fun due619 =>
  (mb (mb (mb (mb (mb (m__law_take ((2 : Int) : Int)) fun x_625 => mb (mb (mp ((fewest600 - (1 : Int)) : Int)) fun x_623 => mb (mb (mp w_) fun x_621 => mb (mp ()) fun z622 => mp (x_621, z622)) fun z624 => mp (x_623, z624)) fun z626 => mp (x_625, z626)) fun z627 => mu (m__law_allowed z627.1 z627.2.1 z627.2.2.1)) fun x_628 => mb (mp ()) fun z629 => mp (x_628, z629)) fun z630 => mc (rprDok z630.1) (rprD z630.1)) fun x_631 => mb (mc (rprDok due619) (rprD due619)) fun y632 => mp (decide (x_631 = y632))))))))) fun _ => mbad)))))))
abbrev sp__law_right (K : PySem.W.Frag) : Sp := Prom (rIm K) (S := Box) (fun i : (List Int) × C_Array => [.ow boxP, .im (pv K i.1), .im (pv K i.2)]) fun i => m__law_right i.1 i.2
theorem len__law_right : ∀ vs H Q E, sp__law_right K vs H Q E → vs.length = 3 := prom_len (Ret := (rIm K)) (As := fun i : (List Int) × C_Array => [.ow boxP, .im (pv K i.1), .im (pv K i.2)]) (m := fun i => m__law_right i.1 i.2) fun _ => rfl
theorem sc__law_right : FnScope ["box", "w", "made", "n", "f", "m", "k", "q", "j", "d", "heads", "at", "sizes", "least", "order", "whole", "fewest", "due"] ["box", "w", "made"] (defScope (top 56)) := ⟨rfl, rfl, rfl, by decide +kernel, rfl, by decide +kernel, by decide +kernel⟩
theorem fo__law_right {f : Addr} {fd : FuncData} (F : FnP K "_law_right" (top 56) f fd) (b_len : mg "len" = none) (b_list : mg "list" = none) (b_range : mg "range" = none) (b_repr : mg "repr" = none) (b_sorted : mg "sorted" = none) (b_sum : mg "sum" = none) (C__law_least : Cal P w K mg base 2 "_law_least" ["n", "f", "m", "k", "q"] (sp__law_least K)) (C__law_take : Cal P w K mg base 1 "_law_take" ["box", "many"] (sp__law_take K)) (C_blocks_on : Cal P w K mg base 6 "blocks_on" ["array", "disk"] (sp_blocks_on K)) (C__law_numbers : Cal P w K mg base 10 "_law_numbers" ["way", "w"] (sp__law_numbers K)) (C_all_blocks : Cal P w K mg base 7 "all_blocks" ["array"] (sp_all_blocks K)) (C__law_allowed : Cal P w K mg base 6 "_law_allowed" ["way", "blocks", "w"] (sp__law_allowed K)) (C__law_allow : Cal P w K mg base 2 "_law_allow" ["blocks", "d", "m", "k", "q"] (sp__law_allow K)) : FnG P w K mg base CX0 11 f fd ["box", "w", "made"] (sp__law_right K) := by
  obtain ⟨f__law_least, fd__law_least, G__law_least, g__law_least, kp__law_least, bi__law_least⟩ := C__law_least.ex
  obtain ⟨f__law_take, fd__law_take, G__law_take, g__law_take, kp__law_take, bi__law_take⟩ := C__law_take.ex
  obtain ⟨f_blocks_on, fd_blocks_on, G_blocks_on, g_blocks_on, kp_blocks_on, bi_blocks_on⟩ := C_blocks_on.ex
  obtain ⟨f__law_numbers, fd__law_numbers, G__law_numbers, g__law_numbers, kp__law_numbers, bi__law_numbers⟩ := C__law_numbers.ex
  obtain ⟨f_all_blocks, fd_all_blocks, G_all_blocks, g_all_blocks, kp_all_blocks, bi_all_blocks⟩ := C_all_blocks.ex
  obtain ⟨f__law_allowed, fd__law_allowed, G__law_allowed, g__law_allowed, kp__law_allowed, bi__law_allowed⟩ := C__law_allowed.ex
  obtain ⟨f__law_allow, fd__law_allow, G__law_allow, g__law_allow, kp__law_allow, bi__law_allow⟩ := C__law_allow.ex
  refine okG F sc__law_right (len__law_right (K := K)) (fun cdv A outer s H vs Q E hgd hr h => ?_)
  have hl : vs.length = 3 := len__law_right (K := K) vs H Q E h
  match vs, hl, h with
  | [v0, v1, v2], _, h => exact ⟨_, PSs.nox ((pss_cons (ps_asg (L2.pv 1) (pg_lst (n := 6) rfl (pgs_cons (pg_name (i := 3) sc__law_right.nd rfl (Or.inr rfl)) (pgs_cons (pg_name (i := 4) sc__law_right.nd rfl (Or.inl rfl)) (pgs_cons (pg_name (i := 5) sc__law_right.nd rfl (Or.inr rfl)) (pgs_cons (pg_name (i := 6) sc__law_right.nd rfl (Or.inr rfl)) (pgs_cons (pg_name (i := 7) sc__law_right.nd rfl (Or.inl rfl)) (pgs_cons (pg_name (i := 8) sc__law_right.nd rfl (Or.inl rfl)) pgs_nil)))))))) (pss_cons (ps_asg (pe_tup (pa_cons (pe_op op_sub (L2.pv 3) (L2.pv 4)) (pa_cons (pe_op op_add (pe_op op_add (L2.pv 8) pe_int) (pe_op op_mulW (L2.pv 4) (pe_op op_fdivW (pe_op op_sub (pe_op op_add (L2.pv 8) (L2.pv 3)) (L2.pv 4)) (pe_op op_sub (L2.pv 3) (L2.pv 4))))) pa_nil))) (pg_tup (n := 2) rfl (pgs_cons (pg_name (i := 9) sc__law_right.nd rfl (Or.inl rfl)) (pgs_cons (pg_name (i := 10) sc__law_right.nd rfl (Or.inr rfl)) pgs_nil)))) (pss_cons (ps_par (i := 12) (j := 13) rfl sc__law_right.nd rfl rfl (by decide) rfl rfl (pa_cons (pe_lc (own := [("at", 11)]) rfl sc__law_right.nd (pi_range1 rfl b_range (pa_cons (L2.pv 3) pa_nil)) (blkOk_by (own := [("at", 11)]) (N := ["box", "w", "made", "n", "f", "m", "k", "q", "j", "d", "heads", "at", "sizes", "least", "order", "whole", "fewest", "due"]) (sc := defScope (top 56)) (by decide +kernel)) (fun _ _ _ _ _ => (pg_name (i := 11) sc__law_right.nd rfl (Or.inl rfl))) (fun _ _ _ _ _ => pts_nil) (fun _ _ _ _ _ => (pe_op op_add (pe_op op_add (L2.pv 5) (L2.pv 6)) (pe_lenRg3 rfl b_len (prg_3 rfl b_range (pa_cons (L2.pv 11) (pa_cons (L2.pv 10) (pa_cons (L2.pv 3) pa_nil)))))))) (pa_cons (pe_call G__law_least (hr.mono (Nat.le_of_ble_eq_true rfl)) rfl g__law_least kp__law_least bi__law_least .nil pass0 (pa_cons (L2.pv 3) (pa_cons (L2.pv 4) (pa_cons (L2.pv 5) (pa_cons (L2.pv 6) (pa_cons (L2.pv 7) pa_nil)))))) pa_nil)) rfl) (pss_cons (ps_set (i := 14) sc__law_right.nd rfl (Or.inl rfl) (pe_listRg rfl rfl b_list (prg_1 rfl b_range (L2.pv 3)))) (pss_cons (ps_if (pt_cmpR op_eq (pe_call G__law_take (hr.mono (Nat.le_of_ble_eq_true rfl)) rfl g__law_take kp__law_take bi__law_take .nil pass0 (pa_cons (L2.pv 0) (pa_cons pe_int pa_nil))) pe_int (nomark _)) (pss_one (ps_expr (pe_bm0 PySem.F.plainAttrs_list PySem.F.slot_list_reverse PySem.F.type_list_reverse mt_reverse (L2.pv 14)))) pss_nil) (pss_cons (ps_for PassesOwn.never rfl (pi_list (L2.pv 14)) (pg_name (i := 11) sc__law_right.nd rfl (Or.inl rfl)) (pss_one (ps_if (pt_cmpR op_ne (pe_call G_blocks_on (hr.mono (Nat.le_of_ble_eq_true rfl)) rfl g_blocks_on kp_blocks_on bi_blocks_on .nil pass0 (pa_cons (L2.pv 2) (pa_cons (L2.pv 11) pa_nil))) (pe_ix ix_list (L2.pv 12) (L2.pv 11) (fun _ _ => rfl)) (nomark _)) (pss_one (ps_ret pe_bl)) pss_nil))) (pss_cons (ps_set (i := 15) sc__law_right.nd rfl (Or.inl rfl) (pe_callB (cr_sum rfl) rfl b_sum bt_sum (pa_cons (L2.pv 12) pa_nil))) (pss_cons (ps_if (PW.pt (pw_or (pt_cmpR op_ne (pe_callB (cr_reprD hgd (hu66 hr)) rfl b_repr bt_repr (pa_cons (pe_call G__law_numbers (hr.mono (Nat.le_of_ble_eq_true rfl)) rfl g__law_numbers kp__law_numbers bi__law_numbers .nil pass0 (pa_cons (pe_call G__law_take (hr.mono (Nat.le_of_ble_eq_true rfl)) rfl g__law_take kp__law_take bi__law_take .nil pass0 (pa_cons (L2.pv 0) (pa_cons pe_int pa_nil))) (pa_cons (L2.pv 1) pa_nil))) pa_nil)) (pe_callB (cr_reprD hgd (hu66 hr)) rfl b_repr bt_repr (pa_cons (pe_lst (pa_cons (L2.pv 15) (pa_cons (L2.pv 13) (pa_cons (pe_cmpR op_eq (L2.pv 13) (L2.pv 15) (nomark _)) pa_nil)))) pa_nil)) (nomark _)) (pw_or1 (pt_cmpR op_ne (pe_call G_all_blocks (hr.mono (Nat.le_of_ble_eq_true rfl)) rfl g_all_blocks kp_all_blocks bi_all_blocks .nil pass0 (pa_cons (L2.pv 2) pa_nil)) (L2.pv 15) (nomark _))))) (pss_one (ps_ret pe_bl)) pss_nil) (pss_cons (ps_set (i := 16) sc__law_right.nd rfl (Or.inl rfl) (pe_callB (cr_sum rfl) rfl b_sum bt_sum (pa_cons (pe_slice sl_list (pe_callB cr_sortedI rfl b_sorted bt_sorted (pa_cons (L2.pv 12) pa_nil)) po_none (po_some (L2.pv 9))) pa_nil))) (pss_cons (ps_if (PW.pt (pw_or (pt_cmpR op_ne (L2.pv 16) (pe_op op_add (pe_op op_add (pe_op op_mulW (L2.pv 9) (pe_op op_add (L2.pv 5) (L2.pv 6))) (L2.pv 8)) pe_int) (nomark _)) (pw_or1 (pt_cmpR op_notBl (pe_call G__law_allowed (hr.mono (Nat.le_of_ble_eq_true rfl)) rfl g__law_allowed kp__law_allowed bi__law_allowed .nil pass0 (pa_cons (pe_call G__law_take (hr.mono (Nat.le_of_ble_eq_true rfl)) rfl g__law_take kp__law_take bi__law_take .nil pass0 (pa_cons (L2.pv 0) (pa_cons pe_int pa_nil))) (pa_cons (L2.pv 16) (pa_cons (L2.pv 1) pa_nil)))) pe_bl (nomark _))))) (pss_one (ps_ret pe_bl)) pss_nil) (pss_cons (ps_set (i := 17) sc__law_right.nd rfl (Or.inl rfl) (pe_ifExp (pt_cmpR op_eq (L2.pv 13) (L2.pv 15) (nomark _)) pe_bl (pe_call G__law_allow (hr.mono (Nat.le_of_ble_eq_true rfl)) rfl g__law_allow kp__law_allow bi__law_allow .nil pass0 (pa_cons (pe_op op_sub (L2.pv 16) pe_int) (pa_cons (L2.pv 9) (pa_cons (L2.pv 5) (pa_cons (L2.pv 6) (pa_cons (L2.pv 7) pa_nil)))))))) (pss_one (ps_ret (pe_cmpR op_eq (pe_callB (cr_reprD hgd (hu66 hr)) rfl b_repr bt_repr (pa_cons (pe_call G__law_allowed (hr.mono (Nat.le_of_ble_eq_true rfl)) rfl g__law_allowed kp__law_allowed bi__law_allowed .nil pass0 (pa_cons (pe_call G__law_take (hr.mono (Nat.le_of_ble_eq_true rfl)) rfl g__law_take kp__law_take bi__law_take .nil pass0 (pa_cons (L2.pv 0) (pa_cons pe_int pa_nil))) (pa_cons (pe_op op_sub (L2.pv 16) pe_int) (pa_cons (L2.pv 1) pa_nil)))) pa_nil)) (pe_callB (cr_reprD hgd (hu66 hr)) rfl b_repr bt_repr (pa_cons (L2.pv 17) pa_nil)) (nomark _)))))))))))))))), prom_ok (n := 3) (Ret := (rIm K)) (As := fun i : (List Int) × C_Array => [.ow boxP, .im (pv K i.1), .im (pv K i.2)]) (m := fun i => m__law_right i.1 i.2) 15 (fun _ => rfl) rfl (fun (w_, made) => (show RN (rIm K) _ (fun (s : Box) => [.ow ((boxP s).at v0), .im (pv K w_), .im (pv K made), .no, .no, .no, .no, .no, .no, .no, .no, .no, .no, .no, .no, .no, .no, .no]) (m__law_right w_ made) (fun (s : Box) => [.ow ((boxP s).at v0), .no, .no, .no, .no, .no, .no, .no, .no, .no, .no, .no, .no, .no, .no, .no, .no, .no]) from (rn_of (rt_seq (rp_unpL (Γ := fun (s : Box) => [.ow ((boxP s).at v0), .im (pv K w_), .im (pv K made), .no, .no, .no, .no, .no, .no, .no, .no, .no, .no, .no, .no, .no, .no, .no]) (Γ' := fun w_536 (s : Box) => [.ow ((boxP s).at v0), .im (pv K w_), .im (pv K made), .im (pv K ((w_536.getD 0 0) : Int)), .im (pv K ((w_536.getD 1 0) : Int)), .im (pv K ((w_536.getD 2 0) : Int)), .im (pv K ((w_536.getD 3 0) : Int)), .im (pv K ((w_536.getD 4 0) : Int)), .im (pv K ((w_536.getD 5 0) : Int)), .no, .no, .no, .no, .no, .no, .no, .no, .no]) (n := 6) [3, 4, 5, 6, 7, 8] (em_pure fun _ => (ep_var rfl)) (fun _ => asg_ok rfl) fun _ _ => rfl) fun w_536 => (rt_seq (rp_asgT (Γ' := fun z541 (s : Box) => [.ow ((boxP s).at v0), .im (pv K w_), .im (pv K made), .im (pv K ((w_536.getD 0 0) : Int)), .im (pv K ((w_536.getD 1 0) : Int)), .im (pv K ((w_536.getD 2 0) : Int)), .im (pv K ((w_536.getD 3 0) : Int)), .im (pv K ((w_536.getD 4 0) : Int)), .im (pv K ((w_536.getD 5 0) : Int)), .im (pv K (((w_536.getD 0 0) - (w_536.getD 1 0)) : Int)), .im (pv K z541.1), .no, .no, .no, .no, .no, .no, .no]) [9, 10] (ao_p (fun _ => (ep_op (ep_var rfl) (ep_var rfl) o_sub)) (ao_m (em_opl (g := fun (u : Int) (v : Int) => (u + v)) (fun _ => (ep_op (ep_var rfl) (ep_int (K := K)) o_add)) (em_oplC (g := fun (u : Int) (v : Int) => (u * v)) (c := fun (u : Int) (v : Int) => mulOk u v) (fun _ => (ep_var rfl)) (em_opC2 (fun _ => (ep_op (ep_op (ep_var rfl) (ep_var rfl) o_add) (ep_var rfl) o_sub)) (fun _ => (ep_op (ep_var rfl) (ep_var rfl) o_sub)) fun h => o_divW h) fun _ h => (o_mulW h)) fun _ => o_add) ao_nil)) (fun _ => asg_ok rfl) (fun _ => rfl) (fun _ => rfl) (Nat.le_of_ble_eq_true rfl) fun _ _ => rfl) fun z541 => (rt_seq (rp_asg2 (Γ' := fun z554 (s : Box) => [.ow ((boxP s).at v0), .im (pv K w_), .im (pv K made), .im (pv K ((w_536.getD 0 0) : Int)), .im (pv K ((w_536.getD 1 0) : Int)), .im (pv K ((w_536.getD 2 0) : Int)), .im (pv K ((w_536.getD 3 0) : Int)), .im (pv K ((w_536.getD 4 0) : Int)), .im (pv K ((w_536.getD 5 0) : Int)), .im (pv K (((w_536.getD 0 0) - (w_536.getD 1 0)) : Int)), .im (pv K z541.1), .no, .im (pv K z554.1), .im (pv K z554.2.1), .no, .no, .no, .no]) (ao_m (em_lc (Γx := fun (a544 : Int) (s : Box) => [.ow ((boxP s).at v0), .im (pv K w_), .im (pv K made), .im (pv K ((w_536.getD 0 0) : Int)), .im (pv K ((w_536.getD 1 0) : Int)), .im (pv K ((w_536.getD 2 0) : Int)), .im (pv K ((w_536.getD 3 0) : Int)), .im (pv K ((w_536.getD 4 0) : Int)), .im (pv K ((w_536.getD 5 0) : Int)), .im (pv K (((w_536.getD 0 0) - (w_536.getD 1 0)) : Int)), .im (pv K z541.1), .im (pv K a544), .no, .no, .no, .no, .no, .no]) (js := [11]) (im_rng1 fun _ => (ap_cons (ep_var rfl) ap_nil)) (fun _ => rfl) (fun a544 s => (gt_name (Γ := [.ow ((boxP s).at v0), .im (pv K w_), .im (pv K made), .im (pv K ((w_536.getD 0 0) : Int)), .im (pv K ((w_536.getD 1 0) : Int)), .im (pv K ((w_536.getD 2 0) : Int)), .im (pv K ((w_536.getD 3 0) : Int)), .im (pv K ((w_536.getD 4 0) : Int)), .im (pv K ((w_536.getD 5 0) : Int)), .im (pv K (((w_536.getD 0 0) - (w_536.getD 1 0)) : Int)), .im (pv K z541.1), .no, .no, .no, .no, .no, .no, .no]) (i := 11) (Γ' := [.ow ((boxP s).at v0), .im (pv K w_), .im (pv K made), .im (pv K ((w_536.getD 0 0) : Int)), .im (pv K ((w_536.getD 1 0) : Int)), .im (pv K ((w_536.getD 2 0) : Int)), .im (pv K ((w_536.getD 3 0) : Int)), .im (pv K ((w_536.getD 4 0) : Int)), .im (pv K ((w_536.getD 5 0) : Int)), .im (pv K (((w_536.getD 0 0) - (w_536.getD 1 0)) : Int)), .im (pv K z541.1), .im (pv K a544), .no, .no, .no, .no, .no, .no]) rfl rfl)) rfl (fun a544 => tm_yes) (fun a544 => (em_opl (g := fun (u : Int) (v : Int) => (u + v)) (fun _ => (ep_op (ep_var rfl) (ep_var rfl) o_add)) (em_lenRg3 (f := fun (z551 : Int × Int × Int × Unit) => z551.1) (g := fun (z551 : Int × Int × Int × Unit) => z551.2.1) (h := fun (z551 : Int × Int × Int × Unit) => z551.2.2.1) (am_cons (em_pure fun _ => (ep_var rfl)) (am_cons (em_pure fun _ => (ep_var rfl)) (am_cons (em_pure fun _ => (ep_var rfl)) am_nil)))) fun _ => o_add)) fun a544 s => (.cons (.rfl _) (.cons (.rfl _) (.cons (.rfl _) (.cons (.rfl _) (.cons (.rfl _) (.cons (.rfl _) (.cons (.rfl _) (.cons (.rfl _) (.cons (.rfl _) (.cons (.rfl _) (.cons (.rfl _) (.cons (.no _) (.cons (.rfl _) (.cons (.rfl _) (.cons (.rfl _) (.cons (.rfl _) (.cons (.rfl _) (.cons (.rfl _) .nil))))))))))))))))))) (ao_m (em_of_eo (eo_call0 (i := (((w_536.getD 0 0) : Int), ((w_536.getD 1 0) : Int), ((w_536.getD 2 0) : Int), ((w_536.getD 3 0) : Int), ((w_536.getD 4 0) : Int))) (ps := [pv K ((w_536.getD 0 0) : Int), pv K ((w_536.getD 1 0) : Int), pv K ((w_536.getD 2 0) : Int), pv K ((w_536.getD 3 0) : Int), pv K ((w_536.getD 4 0) : Int)]) (fun _ => (ap_cons (ep_var rfl) (ap_cons (ep_var rfl) (ap_cons (ep_var rfl) (ap_cons (ep_var rfl) (ap_cons (ep_var rfl) ap_nil)))))) rfl)) ao_nil)) (fun _ => asg_ok rfl) (fun _ => rfl) (fun _ => rfl) fun _ _ => rfl) fun z554 => (rt_seq (rp_take (Γ := fun (s : Box) => [.ow ((boxP s).at v0), .im (pv K w_), .im (pv K made), .im (pv K ((w_536.getD 0 0) : Int)), .im (pv K ((w_536.getD 1 0) : Int)), .im (pv K ((w_536.getD 2 0) : Int)), .im (pv K ((w_536.getD 3 0) : Int)), .im (pv K ((w_536.getD 4 0) : Int)), .im (pv K ((w_536.getD 5 0) : Int)), .im (pv K (((w_536.getD 0 0) - (w_536.getD 1 0)) : Int)), .im (pv K z541.1), .no, .im (pv K z554.1), .im (pv K z554.2.1), .no, .no, .no, .no]) (i := 14) (Γ' := fun order559 (s : Box) => [.ow ((boxP s).at v0), .im (pv K w_), .im (pv K made), .im (pv K ((w_536.getD 0 0) : Int)), .im (pv K ((w_536.getD 1 0) : Int)), .im (pv K ((w_536.getD 2 0) : Int)), .im (pv K ((w_536.getD 3 0) : Int)), .im (pv K ((w_536.getD 4 0) : Int)), .im (pv K ((w_536.getD 5 0) : Int)), .im (pv K (((w_536.getD 0 0) - (w_536.getD 1 0)) : Int)), .im (pv K z541.1), .no, .im (pv K z554.1), .im (pv K z554.2.1), .ow (ol K order559), .no, .no, .no]) (eo_listRg1 fun _ => (ep_var rfl)) (fun _ => rfl) (fun _ => Nat.le_of_ble_eq_true rfl) fun _ _ => rfl) fun order559 => (rt_seq (rp_if (Γ' := fun t566 (s : Box) => [.ow ((boxP s).at v0), .im (pv K w_), .im (pv K made), .im (pv K ((w_536.getD 0 0) : Int)), .im (pv K ((w_536.getD 1 0) : Int)), .im (pv K ((w_536.getD 2 0) : Int)), .im (pv K ((w_536.getD 3 0) : Int)), .im (pv K ((w_536.getD 4 0) : Int)), .im (pv K ((w_536.getD 5 0) : Int)), .im (pv K (((w_536.getD 0 0) - (w_536.getD 1 0)) : Int)), .im (pv K z541.1), .no, .im (pv K z554.1), .im (pv K z554.2.1), .ow (ol K t566), .no, .no, .no]) (tm_test (em_opr (g := fun (u : Int) (v : Int) => decide (u = v)) (em_of_eo (eo_call1i (f := fun (z563 : Unit) => ((2 : Int) : Int)) (ak_sl (te := tC .non) (fun _ => rfl) (ak_p (fun _ => (ep_int (K := K))) ak_nil)) (fun z563 => ⟨rfl, [pv K ((2 : Int) : Int)], rfl⟩) cv_at (fun _ => rfl) (fun _ _ => rfl) fun _ _ => rfl)) (fun _ => (ep_int (K := K))) fun _ => o_eq)) (rp_post (f := fun order567 => order567) (rp_revL (Γ := fun (s : Box) => [.ow ((boxP s).at v0), .im (pv K w_), .im (pv K made), .im (pv K ((w_536.getD 0 0) : Int)), .im (pv K ((w_536.getD 1 0) : Int)), .im (pv K ((w_536.getD 2 0) : Int)), .im (pv K ((w_536.getD 3 0) : Int)), .im (pv K ((w_536.getD 4 0) : Int)), .im (pv K ((w_536.getD 5 0) : Int)), .im (pv K (((w_536.getD 0 0) - (w_536.getD 1 0)) : Int)), .im (pv K z541.1), .no, .im (pv K z554.1), .im (pv K z554.2.1), .ow (ol K order559), .no, .no, .no]) (Γ' := fun order567 (s : Box) => [.ow ((boxP s).at v0), .im (pv K w_), .im (pv K made), .im (pv K ((w_536.getD 0 0) : Int)), .im (pv K ((w_536.getD 1 0) : Int)), .im (pv K ((w_536.getD 2 0) : Int)), .im (pv K ((w_536.getD 3 0) : Int)), .im (pv K ((w_536.getD 4 0) : Int)), .im (pv K ((w_536.getD 5 0) : Int)), .im (pv K (((w_536.getD 0 0) - (w_536.getD 1 0)) : Int)), .im (pv K z541.1), .no, .im (pv K z554.1), .im (pv K z554.2.1), .ow (ol K order567), .no, .no, .no]) (fun _ => rfl) fun _ _ => rfl) fun order567 s => (.cons (.rfl _) (.cons (.rfl _) (.cons (.rfl _) (.cons (.rfl _) (.cons (.rfl _) (.cons (.rfl _) (.cons (.rfl _) (.cons (.rfl _) (.cons (.rfl _) (.cons (.rfl _) (.cons (.rfl _) (.cons (.rfl _) (.cons (.rfl _) (.cons (.rfl _) (.cons (.rfl _) (.cons (.rfl _) (.cons (.rfl _) (.cons (.rfl _) .nil))))))))))))))))))) (rp_next (x := order559) fun s => (.cons (.rfl _) (.cons (.rfl _) (.cons (.rfl _) (.cons (.rfl _) (.cons (.rfl _) (.cons (.rfl _) (.cons (.rfl _) (.cons (.rfl _) (.cons (.rfl _) (.cons (.rfl _) (.cons (.rfl _) (.cons (.rfl _) (.cons (.rfl _) (.cons (.rfl _) (.cons (.rfl _) (.cons (.rfl _) (.cons (.rfl _) (.cons (.rfl _) .nil)))))))))))))))))))) fun t566 => (rt_pre (fun s => (.cons (.rfl _) (.cons (.rfl _) (.cons (.rfl _) (.cons (.rfl _) (.cons (.rfl _) (.cons (.rfl _) (.cons (.rfl _) (.cons (.rfl _) (.cons (.rfl _) (.cons (.rfl _) (.cons (.rfl _) (.cons (.rfl _) (.cons (.rfl _) (.cons (.rfl _) (.cons (.fr fr_ol) (.cons (.rfl _) (.cons (.rfl _) (.cons (.rfl _) .nil))))))))))))))))))) (rt_seqC (rc_for (β := Empty) (Γb := fun b _ => nomatch b) (Γr := (fun (s : Box) => [.ow ((boxP s).at v0), .no, .no, .no, .no, .no, .no, .no, .no, .no, .no, .no, .no, .no, .no, .no, .no, .no])) (ΓL := fun (t568 : Unit) (s : Box) => [.ow ((boxP s).at v0), .im (pv K w_), .im (pv K made), .im (pv K ((w_536.getD 0 0) : Int)), .im (pv K ((w_536.getD 1 0) : Int)), .im (pv K ((w_536.getD 2 0) : Int)), .im (pv K ((w_536.getD 3 0) : Int)), .im (pv K ((w_536.getD 4 0) : Int)), .im (pv K ((w_536.getD 5 0) : Int)), .im (pv K (((w_536.getD 0 0) - (w_536.getD 1 0)) : Int)), .im (pv K z541.1), .no, .im (pv K z554.1), .im (pv K z554.2.1), .im (pv K t566), .no, .no, .no]) (Γx := fun (a569 : Int) (t568 : Unit) (s : Box) => [.ow ((boxP s).at v0), .im (pv K w_), .im (pv K made), .im (pv K ((w_536.getD 0 0) : Int)), .im (pv K ((w_536.getD 1 0) : Int)), .im (pv K ((w_536.getD 2 0) : Int)), .im (pv K ((w_536.getD 3 0) : Int)), .im (pv K ((w_536.getD 4 0) : Int)), .im (pv K ((w_536.getD 5 0) : Int)), .im (pv K (((w_536.getD 0 0) - (w_536.getD 1 0)) : Int)), .im (pv K z541.1), .im (pv K a569), .im (pv K z554.1), .im (pv K z554.2.1), .im (pv K t566), .no, .no, .no]) (im_list fun _ => (ep_var rfl)) (fun s => (.cons (.rfl _) (.cons (.rfl _) (.cons (.rfl _) (.cons (.rfl _) (.cons (.rfl _) (.cons (.rfl _) (.cons (.rfl _) (.cons (.rfl _) (.cons (.rfl _) (.cons (.rfl _) (.cons (.rfl _) (.cons (.rfl _) (.cons (.rfl _) (.cons (.rfl _) (.cons (.rfl _) (.cons (.rfl _) (.cons (.rfl _) (.cons (.rfl _) .nil))))))))))))))))))) (fun a569 t568 s => (gt_name (Γ := [.ow ((boxP s).at v0), .im (pv K w_), .im (pv K made), .im (pv K ((w_536.getD 0 0) : Int)), .im (pv K ((w_536.getD 1 0) : Int)), .im (pv K ((w_536.getD 2 0) : Int)), .im (pv K ((w_536.getD 3 0) : Int)), .im (pv K ((w_536.getD 4 0) : Int)), .im (pv K ((w_536.getD 5 0) : Int)), .im (pv K (((w_536.getD 0 0) - (w_536.getD 1 0)) : Int)), .im (pv K z541.1), .no, .im (pv K z554.1), .im (pv K z554.2.1), .im (pv K t566), .no, .no, .no]) (i := 11) (Γ' := [.ow ((boxP s).at v0), .im (pv K w_), .im (pv K made), .im (pv K ((w_536.getD 0 0) : Int)), .im (pv K ((w_536.getD 1 0) : Int)), .im (pv K ((w_536.getD 2 0) : Int)), .im (pv K ((w_536.getD 3 0) : Int)), .im (pv K ((w_536.getD 4 0) : Int)), .im (pv K ((w_536.getD 5 0) : Int)), .im (pv K (((w_536.getD 0 0) - (w_536.getD 1 0)) : Int)), .im (pv K z541.1), .im (pv K a569), .im (pv K z554.1), .im (pv K z554.2.1), .im (pv K t566), .no, .no, .no]) rfl rfl)) fun a569 t568 => (rc_if (tm_test (em_op (g := fun (u : Int) (v : Int) => (!decide (u = v))) (em_of_eo (eo_call0 (i := (made, a569)) (ps := [pv K made, pv K a569]) (fun _ => (ap_cons (ep_var rfl) (ap_cons (ep_var rfl) ap_nil))) rfl)) (em_ixLp (fun _ => (ep_var rfl)) fun _ => (ep_var rfl)) fun _ _ => o_ne)) (rc_of_x (rx_ret (rt_ret (em_pure fun _ => (ep_bl (K := K))) fun s => (.cons (.rfl _) (.cons (.no _) (.cons (.no _) (.cons (.no _) (.cons (.no _) (.cons (.no _) (.cons (.no _) (.cons (.no _) (.cons (.no _) (.cons (.no _) (.cons (.no _) (.cons (.no _) (.cons (.no _) (.cons (.no _) (.cons (.no _) (.cons (.rfl _) (.cons (.rfl _) (.cons (.rfl _) .nil))))))))))))))))))))) (rc_of_p (rp_next (x := ()) fun s => (.cons (.rfl _) (.cons (.rfl _) (.cons (.rfl _) (.cons (.rfl _) (.cons (.rfl _) (.cons (.rfl _) (.cons (.rfl _) (.cons (.rfl _) (.cons (.rfl _) (.cons (.rfl _) (.cons (.rfl _) (.cons (.no _) (.cons (.rfl _) (.cons (.rfl _) (.cons (.rfl _) (.cons (.rfl _) (.cons (.rfl _) (.cons (.rfl _) .nil)))))))))))))))))))))) fun t574 => (rt_seq (rp_asg (Γ := fun (s : Box) => [.ow ((boxP s).at v0), .im (pv K w_), .im (pv K made), .im (pv K ((w_536.getD 0 0) : Int)), .im (pv K ((w_536.getD 1 0) : Int)), .im (pv K ((w_536.getD 2 0) : Int)), .im (pv K ((w_536.getD 3 0) : Int)), .im (pv K ((w_536.getD 4 0) : Int)), .im (pv K ((w_536.getD 5 0) : Int)), .im (pv K (((w_536.getD 0 0) - (w_536.getD 1 0)) : Int)), .im (pv K z541.1), .no, .im (pv K z554.1), .im (pv K z554.2.1), .im (pv K t566), .no, .no, .no]) (i := 15) (Γ' := fun whole575 (s : Box) => [.ow ((boxP s).at v0), .im (pv K w_), .im (pv K made), .im (pv K ((w_536.getD 0 0) : Int)), .im (pv K ((w_536.getD 1 0) : Int)), .im (pv K ((w_536.getD 2 0) : Int)), .im (pv K ((w_536.getD 3 0) : Int)), .im (pv K ((w_536.getD 4 0) : Int)), .im (pv K ((w_536.getD 5 0) : Int)), .im (pv K (((w_536.getD 0 0) - (w_536.getD 1 0)) : Int)), .im (pv K z541.1), .no, .im (pv K z554.1), .im (pv K z554.2.1), .im (pv K t566), .im (pv K whole575), .no, .no]) (em_pure fun _ => (ep_cb (ap_cons (ep_var rfl) ap_nil) c_sum)) (fun _ => rfl) fun _ _ => rfl) fun whole575 => (rt_ifr (tm_or (tm_test (em_op (g := fun (u : Str) (v : Str) => (!decide (u = v))) (em_cbC (f := fun (z584 : (L3 Int (Option Int) Bool) × Unit) => (rprD z584.1)) (g := fun (z584 : (L3 Int (Option Int) Bool) × Unit) => rprDok z584.1) (am_cons (em_of_eo (eo_call0M (f := fun (z581 : Int × (List Int) × Unit) => (z581.1, z581.2.1)) (am_cons (em_of_eo (eo_call1i (f := fun (z576 : Unit) => ((2 : Int) : Int)) (ak_sl (te := tC .non) (fun _ => rfl) (ak_p (fun _ => (ep_int (K := K))) ak_nil)) (fun z576 => ⟨rfl, [pv K ((2 : Int) : Int)], rfl⟩) cv_at (fun _ => rfl) (fun _ _ => rfl) fun _ _ => rfl)) (am_cons (em_pure fun _ => (ep_var rfl)) am_nil)) fun _ => rfl)) am_nil) fun _ h => (c_reprD (Nat.le_of_ble_eq_true rfl) h)) (em_cbC (f := fun (z594 : (L3 Int (Option Int) Bool) × Unit) => (rprD z594.1)) (g := fun (z594 : (L3 Int (Option Int) Bool) × Unit) => rprDok z594.1) (am_cons (em_l3 (f := fun (z591 : Int × (Option Int) × Bool × Unit) => L3.mk z591.1 z591.2.1 z591.2.2.1) (am_cons (em_pure fun _ => (ep_var rfl)) (am_cons (em_pure fun _ => (ep_var rfl)) (am_cons (em_pure fun _ => (ep_op (ep_var rfl) (ep_some nn_int (ep_var rfl)) o_eq)) am_nil)))) am_nil) fun _ h => (c_reprD (Nat.le_of_ble_eq_true rfl) h)) fun _ _ => o_ne)) (tm_test (em_opr (g := fun (u : Int) (v : Int) => (!decide (u = v))) (em_of_eo (eo_call0 (i := made) (ps := [pv K made]) (fun _ => (ap_cons (ep_var rfl) ap_nil)) rfl)) (fun _ => (ep_var rfl)) fun _ => o_ne))) (rt_ret (em_pure fun _ => (ep_bl (K := K))) fun s => (.cons (.rfl _) (.cons (.no _) (.cons (.no _) (.cons (.no _) (.cons (.no _) (.cons (.no _) (.cons (.no _) (.cons (.no _) (.cons (.no _) (.cons (.no _) (.cons (.no _) (.cons (.rfl _) (.cons (.no _) (.cons (.no _) (.cons (.no _) (.cons (.no _) (.cons (.rfl _) (.cons (.rfl _) .nil))))))))))))))))))) (rt_seq (rp_asg (Γ := fun (s : Box) => [.ow ((boxP s).at v0), .im (pv K w_), .im (pv K made), .im (pv K ((w_536.getD 0 0) : Int)), .im (pv K ((w_536.getD 1 0) : Int)), .im (pv K ((w_536.getD 2 0) : Int)), .im (pv K ((w_536.getD 3 0) : Int)), .im (pv K ((w_536.getD 4 0) : Int)), .im (pv K ((w_536.getD 5 0) : Int)), .im (pv K (((w_536.getD 0 0) - (w_536.getD 1 0)) : Int)), .im (pv K z541.1), .no, .im (pv K z554.1), .im (pv K z554.2.1), .im (pv K t566), .im (pv K whole575), .no, .no]) (i := 16) (Γ' := fun fewest600 (s : Box) => [.ow ((boxP s).at v0), .im (pv K w_), .im (pv K made), .im (pv K ((w_536.getD 0 0) : Int)), .im (pv K ((w_536.getD 1 0) : Int)), .im (pv K ((w_536.getD 2 0) : Int)), .im (pv K ((w_536.getD 3 0) : Int)), .im (pv K ((w_536.getD 4 0) : Int)), .im (pv K ((w_536.getD 5 0) : Int)), .im (pv K (((w_536.getD 0 0) - (w_536.getD 1 0)) : Int)), .im (pv K z541.1), .no, .im (pv K z554.1), .im (pv K z554.2.1), .im (pv K t566), .im (pv K whole575), .im (pv K fewest600), .no]) (em_pure fun _ => (ep_cb (ap_cons (ep_sl (ep_cb (ap_cons (ep_var rfl) ap_nil) c_sorted) po_no (po_i (ep_var rfl))) ap_nil) c_sum)) (fun _ => rfl) fun _ _ => rfl) fun fewest600 => (rt_ifr (tm_or (tm_test (em_opl (g := fun (u : Int) (v : Int) => (!decide (u = v))) (fun _ => (ep_var rfl)) (em_opr (g := fun (u : Int) (v : Int) => (u + v)) (em_opr (g := fun (u : Int) (v : Int) => (u + v)) (em_opC2 (fun _ => (ep_var rfl)) (fun _ => (ep_op (ep_var rfl) (ep_var rfl) o_add)) fun h => o_mulW h) (fun _ => (ep_var rfl)) fun _ => o_add) (fun _ => (ep_int (K := K))) fun _ => o_add) fun _ => o_ne)) (tm_test (em_opr (g := fun (u : Bool) (v : Bool) => (!decide (u = v))) (em_of_eo (eo_call0M (f := fun (z614 : Int × Int × (List Int) × Unit) => (z614.1, z614.2.1, z614.2.2.1)) (am_cons (em_of_eo (eo_call1i (f := fun (z607 : Unit) => ((2 : Int) : Int)) (ak_sl (te := tC .non) (fun _ => rfl) (ak_p (fun _ => (ep_int (K := K))) ak_nil)) (fun z607 => ⟨rfl, [pv K ((2 : Int) : Int)], rfl⟩) cv_at (fun _ => rfl) (fun _ _ => rfl) fun _ _ => rfl)) (am_cons (em_pure fun _ => (ep_var rfl)) (am_cons (em_pure fun _ => (ep_var rfl)) am_nil))) fun _ => rfl)) (fun _ => (ep_bl (K := K))) fun _ => o_notB))) (rt_ret (em_pure fun _ => (ep_bl (K := K))) fun s => (.cons (.rfl _) (.cons (.no _) (.cons (.no _) (.cons (.no _) (.cons (.no _) (.cons (.no _) (.cons (.no _) (.cons (.no _) (.cons (.no _) (.cons (.no _) (.cons (.no _) (.cons (.rfl _) (.cons (.no _) (.cons (.no _) (.cons (.no _) (.cons (.no _) (.cons (.no _) (.cons (.rfl _) .nil))))))))))))))))))) (rt_seq (rp_asg (Γ := fun (s : Box) => [.ow ((boxP s).at v0), .im (pv K w_), .im (pv K made), .im (pv K ((w_536.getD 0 0) : Int)), .im (pv K ((w_536.getD 1 0) : Int)), .im (pv K ((w_536.getD 2 0) : Int)), .im (pv K ((w_536.getD 3 0) : Int)), .im (pv K ((w_536.getD 4 0) : Int)), .im (pv K ((w_536.getD 5 0) : Int)), .im (pv K (((w_536.getD 0 0) - (w_536.getD 1 0)) : Int)), .im (pv K z541.1), .no, .im (pv K z554.1), .im (pv K z554.2.1), .im (pv K t566), .im (pv K whole575), .im (pv K fewest600), .no]) (i := 17) (Γ' := fun due619 (s : Box) => [.ow ((boxP s).at v0), .im (pv K w_), .im (pv K made), .im (pv K ((w_536.getD 0 0) : Int)), .im (pv K ((w_536.getD 1 0) : Int)), .im (pv K ((w_536.getD 2 0) : Int)), .im (pv K ((w_536.getD 3 0) : Int)), .im (pv K ((w_536.getD 4 0) : Int)), .im (pv K ((w_536.getD 5 0) : Int)), .im (pv K (((w_536.getD 0 0) - (w_536.getD 1 0)) : Int)), .im (pv K z541.1), .no, .im (pv K z554.1), .im (pv K z554.2.1), .im (pv K t566), .im (pv K whole575), .im (pv K fewest600), .im (pv K due619)]) (em_if (tm_pure fun _ => (tp_test (ep_op (ep_var rfl) (ep_some nn_int (ep_var rfl)) o_eq))) (em_pure fun _ => (ep_bl (K := K))) (em_of_eo (eo_call0 (i := (((fewest600 - (1 : Int)) : Int), (((w_536.getD 0 0) - (w_536.getD 1 0)) : Int), ((w_536.getD 2 0) : Int), ((w_536.getD 3 0) : Int), ((w_536.getD 4 0) : Int))) (ps := [pv K ((fewest600 - (1 : Int)) : Int), pv K (((w_536.getD 0 0) - (w_536.getD 1 0)) : Int), pv K ((w_536.getD 2 0) : Int), pv K ((w_536.getD 3 0) : Int), pv K ((w_536.getD 4 0) : Int)]) (fun _ => (ap_cons (ep_op (ep_var rfl) (ep_int (K := K)) o_sub) (ap_cons (ep_var rfl) (ap_cons (ep_var rfl) (ap_cons (ep_var rfl) (ap_cons (ep_var rfl) ap_nil)))))) rfl))) (fun _ => rfl) fun _ _ => rfl) fun due619 => (rt_ret (em_op (g := fun (u : Str) (v : Str) => decide (u = v)) (em_cbC (f := fun (z630 : Bool × Unit) => (rprD z630.1)) (g := fun (z630 : Bool × Unit) => rprDok z630.1) (am_cons (em_of_eo (eo_call0M (f := fun (z627 : Int × Int × (List Int) × Unit) => (z627.1, z627.2.1, z627.2.2.1)) (am_cons (em_of_eo (eo_call1i (f := fun (z620 : Unit) => ((2 : Int) : Int)) (ak_sl (te := tC .non) (fun _ => rfl) (ak_p (fun _ => (ep_int (K := K))) ak_nil)) (fun z620 => ⟨rfl, [pv K ((2 : Int) : Int)], rfl⟩) cv_at (fun _ => rfl) (fun _ _ => rfl) fun _ _ => rfl)) (am_cons (em_pure fun _ => (ep_op (ep_var rfl) (ep_int (K := K)) o_sub)) (am_cons (em_pure fun _ => (ep_var rfl)) am_nil))) fun _ => rfl)) am_nil) fun _ h => (c_reprD (Nat.le_of_ble_eq_true rfl) h)) (em_cbC0 (fun _ => (ap_cons (ep_var rfl) ap_nil)) fun h => (c_reprD (Nat.le_of_ble_eq_true rfl) h)) fun _ _ => o_eq) fun s => (.cons (.rfl _) (.cons (.no _) (.cons (.no _) (.cons (.no _) (.cons (.no _) (.cons (.no _) (.cons (.no _) (.cons (.no _) (.cons (.no _) (.cons (.no _) (.cons (.no _) (.cons (.rfl _) (.cons (.no _) (.cons (.no _) (.cons (.no _) (.cons (.no _) (.cons (.no _) (.cons (.no _) .nil)))))))))))))))))))))))))))))))))) h⟩
theorem ok__law_right {f : Addr} {fd : FuncData} (F : FnP K "_law_right" (top 56) f fd) (hg : mg "_law_right" = some (.ref f)) (b_len : mg "len" = none) (b_list : mg "list" = none) (b_range : mg "range" = none) (b_repr : mg "repr" = none) (b_sorted : mg "sorted" = none) (b_sum : mg "sum" = none) (C__law_least : Cal P w K mg base 2 "_law_least" ["n", "f", "m", "k", "q"] (sp__law_least K)) (C__law_take : Cal P w K mg base 1 "_law_take" ["box", "many"] (sp__law_take K)) (C_blocks_on : Cal P w K mg base 6 "blocks_on" ["array", "disk"] (sp_blocks_on K)) (C__law_numbers : Cal P w K mg base 10 "_law_numbers" ["way", "w"] (sp__law_numbers K)) (C_all_blocks : Cal P w K mg base 7 "all_blocks" ["array"] (sp_all_blocks K)) (C__law_allowed : Cal P w K mg base 6 "_law_allowed" ["way", "blocks", "w"] (sp__law_allowed K)) (C__law_allow : Cal P w K mg base 2 "_law_allow" ["blocks", "d", "m", "k", "q"] (sp__law_allow K)) : CalG P w K mg base 11 "_law_right" ["box", "w", "made"] (sp__law_right K) := ⟨f, fd, fo__law_right F b_len b_list b_range b_repr b_sorted b_sum C__law_least C__law_take C_blocks_on C__law_numbers C_all_blocks C__law_allowed C__law_allow, hg, F.kp, F.bindsN fun _ _ _ _ _ _ us hl => match us, hl with | [_, _, _], _ => rfl⟩
def m_law (script : Scr) : Mn Unit Bool :=
  (mb (mb (mc (b62 ((if (if ((script.l.length : Nat) : Int) < (6 : Int) then ((script.l.length : Nat) : Int) else (6 : Int)) > (2 : Int) then (if ((script.l.length : Nat) : Int) < (6 : Int) then ((script.l.length : Nat) : Int) else (6 : Int)) else (2 : Int)) : Int)) (rng 0 ((if (if ((script.l.length : Nat) : Int) < (6 : Int) then ((script.l.length : Nat) : Int) else (6 : Int)) > (2 : Int) then (if ((script.l.length : Nat) : Int) < (6 : Int) then ((script.l.length : Nat) : Int) else (6 : Int)) else (2 : Int)) : Int).toNat)) fun xs => forC (β := Empty) xs () fun a634 (t633 : Unit) =>
    (mb (mb (mb (mu (m__law_cell script a634)) fun x_635 => mb (mp ()) fun z636 => mp (x_635, z636)) fun z637 => mu (m__law_box z637.1)) fun b => mrun b
    (mb (mb (mb m__law_world fun x_642 => mb (mb m__law_world fun x_640 => mb (mp ()) fun z641 => mp (x_640, z641)) fun z643 => mp (x_642, z643)) fun z644 => mp ([z644.1, z644.2.1] : (List (List Int)))) fun worlds645 =>
    (mb (mb (mp worlds645) fun xs => cmP xs (fun (a646 : (List Int)) => (mp true)) fun a646 => (mb (mb (mo (atI a646 (0 : Int))) fun x_665 => mb (mb (mo (atI a646 (1 : Int))) fun x_663 => mb (mb (mo (atI a646 (2 : Int))) fun x_661 => mb (mb (mo (atI a646 (3 : Int))) fun x_659 => mb (mb (mo (atI a646 (4 : Int))) fun x_657 => mb (mp ()) fun z658 => mp (x_657, z658)) fun z660 => mp (x_659, z660)) fun z662 => mp (x_661, z662)) fun z664 => mp (x_663, z664)) fun z666 => mp (x_665, z666)) fun z667 => mu (m_Array z667.1 z667.2.1 z667.2.2.1 z667.2.2.2.1 z667.2.2.2.2.1))) fun made668 =>
    (mb (mb (mc (b62 ((3 : Int) : Int)) (rng 0 ((3 : Int) : Int).toNat)) fun xs => forC (β := Empty) xs () fun a670 (t669 : Unit) =>
    (mb (mb (mb (mb (mo (atI worlds645 (a670 % (2 : Int)))) fun x_678 => mb (mb (mo (atI made668 (a670 % (2 : Int)))) fun x_676 => mb (mp ()) fun z677 => mp (x_676, z677)) fun z679 => mp (x_678, z679)) fun z675 => m__law_right z675.1 z675.2.1) fun b680 => mp (!b680)) fun b => mi b
      (mb (mp false) fun x => mp (.rt x))
      (mp (.nx ())))) (ctb fun t681 => mp (.nx ()))))))) (ctk (fun t682 => (mp true)) fun _ => mbad))
abbrev sp_law (K : PySem.W.Frag) : Sp := Prom (rIm K) (S := Unit) (fun i : Scr => [.im (pv K i)]) fun i => m_law i
theorem len_law : ∀ vs H Q E, sp_law K vs H Q E → vs.length = 1 := prom_len (Ret := (rIm K)) (As := fun i : Scr => [.im (pv K i)]) (m := fun i => m_law i) fun _ => rfl
theorem sc_law : FnScope ["script", "k", "box", "worlds", "made", "turn", "w"] ["script"] (defScope (top 57)) := ⟨rfl, rfl, rfl, by decide +kernel, rfl, by decide +kernel, by decide +kernel⟩
theorem fo_law {f : Addr} {fd : FuncData} (F : FnP K "law" (top 57) f fd) (b_int : mg "int" = none) (b_len : mg "len" = none) (b_max : mg "max" = none) (b_min : mg "min" = none) (b_range : mg "range" = none) (C__law_box : Cal P w K mg base 1 "_law_box" ["great"] (sp__law_box K)) (C__law_cell : Cal P w K mg base 1 "_law_cell" ["script", "k"] (sp__law_cell K)) (C__law_world : Cal P w K mg base 3 "_law_world" ["box"] (sp__law_world K)) (C__law_right : CalG P w K mg base 11 "_law_right" ["box", "w", "made"] (sp__law_right K)) (K_Array : MakC P w K mg base 6 "Array" n_Array ["self", "disks", "lost", "records", "changes", "contents"] fun C => sp_Array K C) : FnG P w K mg base CX0 12 f fd ["script"] (sp_law K) := by
  obtain ⟨f__law_box, fd__law_box, G__law_box, g__law_box, kp__law_box, bi__law_box⟩ := C__law_box.ex
  obtain ⟨f__law_cell, fd__law_cell, G__law_cell, g__law_cell, kp__law_cell, bi__law_cell⟩ := C__law_cell.ex
  obtain ⟨f__law_world, fd__law_world, G__law_world, g__law_world, kp__law_world, bi__law_world⟩ := C__law_world.ex
  obtain ⟨f__law_right, fd__law_right, G__law_right, g__law_right, kp__law_right, bi__law_right⟩ := C__law_right.ex
  obtain ⟨CC_Array, f_Array, fd_Array, g_Array, M_Array, hc_Array, G_Array, bi_Array⟩ := K_Array.ex
  refine okG F sc_law (len_law (K := K)) (fun cdv A outer s H vs Q E hgd hr h => ?_)
  have hl : vs.length = 1 := len_law (K := K) vs H Q E h
  match vs, hl, h with
  | [v0], _, h => exact ⟨_, PSs.nox ((pss_cons (ps_for PassesOwn.never rfl (pi_range1 rfl b_range (pa_cons (pe_callB (call_max2 rfl) rfl b_max bt_max (pa_cons pe_int (pa_cons (pe_callB (call_min2 rfl) rfl b_min bt_min (pa_cons pe_int (pa_cons (pe_callB call_len_seq rfl b_len bt_len (pa_cons (L2.pv 0) pa_nil)) pa_nil))) pa_nil))) pa_nil)) (pg_name (i := 1) sc_law.nd rfl (Or.inl rfl)) (pss_cons (ps_set (i := 2) sc_law.nd rfl (Or.inl rfl) (pe_call G__law_box (hr.mono (Nat.le_of_ble_eq_true rfl)) rfl g__law_box kp__law_box bi__law_box .nil pass0 (pa_cons (pe_call G__law_cell (hr.mono (Nat.le_of_ble_eq_true rfl)) rfl g__law_cell kp__law_cell bi__law_cell .nil pass0 (pa_cons (L2.pv 0) (pa_cons (L2.pv 1) pa_nil))) pa_nil))) (pss_cons (ps_set (i := 3) sc_law.nd rfl (Or.inl rfl) (pe_lst (pa_cons (pe_call G__law_world (hr.mono (Nat.le_of_ble_eq_true rfl)) rfl g__law_world kp__law_world bi__law_world .nil pass0 (pa_cons (L2.pv 2) pa_nil)) (pa_cons (pe_call G__law_world (hr.mono (Nat.le_of_ble_eq_true rfl)) rfl g__law_world kp__law_world bi__law_world .nil pass0 (pa_cons (L2.pv 2) pa_nil)) pa_nil)))) (pss_cons (ps_setLc (i := 4) (own := [("w", 6)]) rfl sc_law.nd rfl rfl (sw_true rfl rfl rfl (by decide +kernel)) (pi_list (L2.pv 3)) (blkOk_by (own := [("w", 6)]) (N := ["script", "k", "box", "worlds", "made", "turn", "w"]) (sc := defScope (top 57)) (by decide +kernel)) (fun _ _ _ _ _ => (pg_name (i := 6) sc_law.nd rfl (Or.inl rfl))) (fun _ _ _ _ _ => pts_nil) (fun _ _ _ _ _ => (pe_make M_Array G_Array (hr.mono (Nat.le_of_ble_eq_true rfl)) rfl g_Array bi_Array .nil pass0 (pa_cons (pe_ix ix_list (L2.pv 6) pe_int (fun _ _ => rfl)) (pa_cons (pe_ix ix_list (L2.pv 6) pe_int (fun _ _ => rfl)) (pa_cons (pe_ix ix_list (L2.pv 6) pe_int (fun _ _ => rfl)) (pa_cons (pe_ix ix_list (L2.pv 6) pe_int (fun _ _ => rfl)) (pa_cons (pe_ix ix_list (L2.pv 6) pe_int (fun _ _ => rfl)) pa_nil)))))))) (pss_one (ps_for PassesOwn.never rfl (pi_range1 rfl b_range (pa_cons pe_int pa_nil)) (pg_name (i := 5) sc_law.nd rfl (Or.inl rfl)) (pss_one (ps_if (pt_not (pt_val (pe_callG G__law_right hgd (hr.mono (Nat.le_of_ble_eq_true rfl)) rfl g__law_right kp__law_right bi__law_right .nil pass0 (pa_cons (L2.pv 2) (pa_cons (pe_ix ix_list (L2.pv 3) (pe_op op_mod (pe_callTy call_int1 rfl b_int bt_int (pa_cons (L2.pv 5) pa_nil)) pe_int) (fun _ _ => rfl)) (pa_cons (pe_ix ix_list (L2.pv 4) (pe_op op_mod (pe_callTy call_int1 rfl b_int bt_int (pa_cons (L2.pv 5) pa_nil)) pe_int) (fun _ _ => rfl)) pa_nil)))))) (pss_one (ps_ret pe_bl)) pss_nil)))))))) (pss_one (ps_ret pe_bl)))), prom_ok (n := 1) (Ret := (rIm K)) (As := fun i : Scr => [.im (pv K i)]) (m := fun i => m_law i) 6 (fun _ => rfl) rfl (fun script => (show RN (rIm K) _ (fun (s : Unit) => [.im (pv K script), .no, .no, .no, .no, .no, .no]) (m_law script) (fun (s : Unit) => [.no, .no, .no, .no, .no, .no, .no]) from (rn_of (rt_seqC (rc_for (β := Empty) (Γb := fun b _ => nomatch b) (Γr := (fun (s : Unit) => [.no, .no, .no, .no, .no, .no, .no])) (ΓL := fun (t633 : Unit) (s : Unit) => [.im (pv K script), .no, .no, .no, .no, .no, .no]) (Γx := fun (a634 : Int) (t633 : Unit) (s : Unit) => [.im (pv K script), .im (pv K a634), .no, .no, .no, .no, .no]) (im_rng1 fun _ => (ap_cons (ep_cb (ap_cons (ep_int (K := K)) (ap_cons (ep_cb (ap_cons (ep_int (K := K)) (ap_cons (ep_cb (ap_cons (ep_var rfl) ap_nil) c_lenS) ap_nil)) c_min2) ap_nil)) c_max2) ap_nil)) (fun s => (.cons (.rfl _) (.cons (.rfl _) (.cons (.rfl _) (.cons (.rfl _) (.cons (.rfl _) (.cons (.rfl _) (.cons (.rfl _) .nil)))))))) (fun a634 t633 s => (gt_name (Γ := [.im (pv K script), .no, .no, .no, .no, .no, .no]) (i := 1) (Γ' := [.im (pv K script), .im (pv K a634), .no, .no, .no, .no, .no]) rfl rfl)) fun a634 t633 => (rc_open (Γ2 := fun (s : Box) => [.im (pv K script), .im (pv K a634), .ow (boxP s), .no, .no, .no, .no]) (eo_call0M (f := fun (z637 : Int × Unit) => z637.1) (am_cons (em_of_eo (eo_call0 (i := (script, a634)) (ps := [pv K script, pv K a634]) (fun _ => (ap_cons (ep_var rfl) (ap_cons (ep_var rfl) ap_nil))) rfl)) am_nil) fun _ => rfl) rfl (Nat.le_of_ble_eq_true rfl) (fun _ => rfl) (rc_seqP (rp_asg (Γ := fun (s : Box) => [.im (pv K script), .im (pv K a634), .ow (boxP s), .no, .no, .no, .no]) (i := 3) (Γ' := fun worlds645 (s : Box) => [.im (pv K script), .im (pv K a634), .ow (boxP s), .im (pv K worlds645), .no, .no, .no]) (em_lst (f := fun (z644 : (List Int) × (List Int) × Unit) => ([z644.1, z644.2.1] : (List (List Int)))) (hl := fun _ => Nat.le_of_ble_eq_true rfl) (am_cons (em_of_eo (eo_call1i (f := fun (z638 : Unit) => ()) (ak_sl (te := tC .non) (fun _ => rfl) ak_nil) (fun z638 => ⟨rfl, [], rfl⟩) cv_rfl (fun _ => rfl) (fun _ _ => rfl) fun _ _ => rfl)) (am_cons (em_of_eo (eo_call1i (f := fun (z639 : Unit) => ()) (ak_sl (te := tC .non) (fun _ => rfl) ak_nil) (fun z639 => ⟨rfl, [], rfl⟩) cv_rfl (fun _ => rfl) (fun _ _ => rfl) fun _ _ => rfl)) am_nil))) (fun _ => rfl) fun _ _ => rfl) fun worlds645 => (rc_seqP (rp_asg (Γ := fun (s : Box) => [.im (pv K script), .im (pv K a634), .ow (boxP s), .im (pv K worlds645), .no, .no, .no]) (i := 4) (Γ' := fun made668 (s : Box) => [.im (pv K script), .im (pv K a634), .ow (boxP s), .im (pv K worlds645), .im (pv K made668), .no, .no]) (em_lc (Γx := fun (a646 : (List Int)) (s : Box) => [.im (pv K script), .im (pv K a634), .ow (boxP s), .im (pv K worlds645), .no, .no, .im (pv K a646)]) (js := [6]) (im_list fun _ => (ep_var rfl)) (fun _ => rfl) (fun a646 s => (gt_name (Γ := [.im (pv K script), .im (pv K a634), .ow (boxP s), .im (pv K worlds645), .no, .no, .no]) (i := 6) (Γ' := [.im (pv K script), .im (pv K a634), .ow (boxP s), .im (pv K worlds645), .no, .no, .im (pv K a646)]) rfl rfl)) rfl (fun a646 => tm_yes) (fun a646 => (em_own (eo_make (g := fun (z667 : Int × Int × Int × Int × Int × Unit) => (z667.1, z667.2.1, z667.2.2.1, z667.2.2.2.1, z667.2.2.2.2.1)) (am_cons (em_ixLp (fun _ => (ep_var rfl)) fun _ => (ep_int (K := K))) (am_cons (em_ixLp (fun _ => (ep_var rfl)) fun _ => (ep_int (K := K))) (am_cons (em_ixLp (fun _ => (ep_var rfl)) fun _ => (ep_int (K := K))) (am_cons (em_ixLp (fun _ => (ep_var rfl)) fun _ => (ep_int (K := K))) (am_cons (em_ixLp (fun _ => (ep_var rfl)) fun _ => (ep_int (K := K))) am_nil))))) fun _ => rfl) fun x I a Ma d q => fr_oin hc_Array I a Ma d q)) fun a646 s => (.cons (.rfl _) (.cons (.rfl _) (.cons (.rfl _) (.cons (.rfl _) (.cons (.rfl _) (.cons (.rfl _) (.cons (.no _) .nil)))))))) (fun _ => rfl) fun _ _ => rfl) fun made668 => (rc_lastC (f := fun t681 => ()) (rc_for (β := Empty) (Γb := fun b _ => nomatch b) (Γr := (fun (s : Box) => [.no, .no, .no, .no, .no, .no, .no])) (ΓL := fun (t669 : Unit) (s : Box) => [.im (pv K script), .im (pv K a634), .ow (boxP s), .im (pv K worlds645), .im (pv K made668), .no, .no]) (Γx := fun (a670 : Int) (t669 : Unit) (s : Box) => [.im (pv K script), .im (pv K a634), .ow (boxP s), .im (pv K worlds645), .im (pv K made668), .im (pv K a670), .no]) (im_rng1 fun _ => (ap_cons (ep_int (K := K)) ap_nil)) (fun s => (.cons (.rfl _) (.cons (.rfl _) (.cons (.rfl _) (.cons (.rfl _) (.cons (.rfl _) (.cons (.rfl _) (.cons (.rfl _) .nil)))))))) (fun a670 t669 s => (gt_name (Γ := [.im (pv K script), .im (pv K a634), .ow (boxP s), .im (pv K worlds645), .im (pv K made668), .no, .no]) (i := 5) (Γ' := [.im (pv K script), .im (pv K a634), .ow (boxP s), .im (pv K worlds645), .im (pv K made668), .im (pv K a670), .no]) rfl rfl)) fun a670 t669 => (rc_if (tm_not (tm_B (em_of_eo (eo_call1i (f := fun (z675 : (List Int) × C_Array × Unit) => (z675.1, z675.2.1)) (ak_sl (te := tC .non) (fun _ => rfl) (ak_m (em_ixLp (fun _ => (ep_var rfl)) fun _ => (ep_op (ep_cb (ap_cons (ep_var rfl) ap_nil) c_int) (ep_int (K := K)) (o_mod rfl))) (ak_m (em_ixLp (fun _ => (ep_var rfl)) fun _ => (ep_op (ep_cb (ap_cons (ep_var rfl) ap_nil) c_int) (ep_int (K := K)) (o_mod rfl))) ak_nil))) (fun z675 => ⟨rfl, [pv K z675.1, pv K z675.2.1], rfl⟩) cv_rfl (fun _ => rfl) (fun _ _ => rfl) fun _ _ => rfl)))) (rc_of_x (rx_ret (rt_ret (em_pure fun _ => (ep_bl (K := K))) fun s => (.cons (.no _) (.cons (.no _) (.cons (.drop _) (.cons (.no _) (.cons (.no _) (.cons (.no _) (.cons (.rfl _) .nil)))))))))) (rc_of_p (rp_next (x := ()) fun s => (.cons (.rfl _) (.cons (.rfl _) (.cons (.rfl _) (.cons (.rfl _) (.cons (.rfl _) (.cons (.no _) (.cons (.rfl _) .nil))))))))))) fun t681 s => (.cons (.rfl _) (.cons (.no _) (.cons (.drop _) (.cons (.no _) (.cons (.no _) (.cons (.rfl _) (.cons (.rfl _) .nil)))))))))))) fun t682 => (rt_ret (em_pure fun _ => (ep_bl (K := K))) fun s => (.cons (.no _) (.cons (.rfl _) (.cons (.rfl _) (.cons (.rfl _) (.cons (.rfl _) (.cons (.rfl _) (.cons (.rfl _) .nil)))))))))))) h⟩
theorem ok_law {f : Addr} {fd : FuncData} (F : FnP K "law" (top 57) f fd) (hg : mg "law" = some (.ref f)) (b_int : mg "int" = none) (b_len : mg "len" = none) (b_max : mg "max" = none) (b_min : mg "min" = none) (b_range : mg "range" = none) (C__law_box : Cal P w K mg base 1 "_law_box" ["great"] (sp__law_box K)) (C__law_cell : Cal P w K mg base 1 "_law_cell" ["script", "k"] (sp__law_cell K)) (C__law_world : Cal P w K mg base 3 "_law_world" ["box"] (sp__law_world K)) (C__law_right : CalG P w K mg base 11 "_law_right" ["box", "w", "made"] (sp__law_right K)) (K_Array : MakC P w K mg base 6 "Array" n_Array ["self", "disks", "lost", "records", "changes", "contents"] fun C => sp_Array K C) : CalG P w K mg base 12 "law" ["script"] (sp_law K) := ⟨f, fd, fo_law F b_int b_len b_max b_min b_range C__law_box C__law_cell C__law_world C__law_right K_Array, hg, F.kp, F.bindsN fun _ _ _ _ _ _ us hl => match us, hl with | [_], _ => rfl⟩
end
end L68

namespace L68
open PySem L2 Mir
theorem take_ok {many n : Int} {b : Box} (h : Gd n b) (hn : n ≤ 1000000) (h1 : 0 < many) (h2 : many ≤ 1000000) : (m__law_take many b).st fun x b' => (0 ≤ x ∧ x < many) ∧ Gd (n + 1) b' := by
  obtain ⟨g0, g1, g2, g3, g4⟩ := h
  unfold m__law_take
  simp only [st_mb, st_mp, st_mc, st_mcs, st_mg, st_ms, st_mi]
  refine ⟨fun _ => ⟨modOk_of h1, divOk_of h1 (by omega), ⟨Int.emod_nonneg _ (by omega), Int.emod_lt_of_pos _ h1⟩, Int.ediv_nonneg g0 (by omega), g1, g2, g3, by show b.count ≤ n + 1; omega⟩, fun _ => ⟨powOk_of (by omega) (by decide) (by decide), powOk_of ?_ (by decide) (by decide), modOk_of h1, ⟨Int.emod_nonneg _ (by omega), Int.emod_lt_of_pos _ h1⟩, g0, g1, g2, by show 0 ≤ b.count + 1; omega, by show b.count + 1 ≤ n + 1; omega⟩⟩
  have a1 := Int.emod_nonneg ((b.mixed + 86028121 * (b.count + 1) + 179424673) ^ Int.toNat 5) (show (2147483647 : Int) ≠ 0 by decide)
  have a2 := Int.emod_lt_of_pos ((b.mixed + 86028121 * (b.count + 1) + 179424673) ^ Int.toNat 5) (show (0 : Int) < 2147483647 by decide)
  generalize (b.mixed + 86028121 * (b.count + 1) + 179424673) ^ Int.toNat 5 % 2147483647 = X at *
  omega
theorem take_b {many n : Int} {b : Box} (h : Gd n b) (hn : n ≤ 1000000) (h1 : 0 < many) (h2 : many ≤ 1000000) {Q : Int → Box → Prop} (q : ∀ x b', 0 ≤ x → x < many → Gd (n + 1) b' → Q x b') : (m__law_take many b).st Q :=
  R.st_imp (take_ok h hn h1 h2) fun x b' ⟨⟨a1, a2⟩, a3⟩ => q x b' a1 a2 a3
/-! bits -/
def Bn (a : Nat) (x : Int) : Prop := x.natAbs < 2 ^ a
theorem Bn.mul {a b : Nat} {x y : Int} (h : Bn a x) (g : Bn b y) : Bn (a + b) (x * y) := by
  unfold Bn at *
  rw [Int.natAbs_mul, Nat.pow_add]
  exact Nat.mul_lt_mul'' h g
theorem Bn.mono {a b : Nat} {x : Int} (h : Bn a x) (l : a ≤ b) : Bn b x := Nat.lt_of_lt_of_le h (Nat.pow_le_pow_right (by decide) l)
theorem Bn.add {a : Nat} {x y : Int} (h : Bn a x) (g : Bn a y) : Bn (a + 1) (x + y) := by
  unfold Bn at *
  have := Int.natAbs_add_le x y
  rw [Nat.pow_succ]
  omega
theorem Bn.ok {a b : Nat} {x y : Int} (h : Bn a x) (g : Bn b y) (ha : a ≠ 0) (hb : b ≠ 0) (hl : a + b ≤ 1000000) : mulOk x y = true := decide_eq_true (by
  have h1 := log2_lt' h ha
  have h2 := log2_lt' g hb
  omega)
theorem Bn.small {x : Int} (h0 : 0 ≤ x) (h1 : x < 1024) : Bn 10 x := by
  unfold Bn
  have : (2 : Nat) ^ 10 = 1024 := by decide
  omega
theorem Bn.pow {a : Nat} {x : Int} (h : Bn a x) : ∀ n : Nat, Bn (a * n + 1) (x ^ n)
  | 0 => by unfold Bn; rw [Int.pow_zero, Nat.mul_zero]; decide
  | n + 1 => by
    rw [Int.pow_succ, Nat.mul_succ, show a * n + a + 1 = (a * n + 1) + a by omega]
    exact (Bn.pow h n).mul h
/-! powers -/
theorem power_go {b : Int} (hb : Bn 10 b) {Q : Int → Unit → Prop} : ∀ (n : Nat) (k : Nat) (a : Int), k + n ≤ 1100 → Q (b ^ (k + n)) () → (forP (rng a n) (b ^ k) (fun _ (t : Int) => (mb (mc (mulOk t b) (t * b)) fun found20 => mp found20)) ()).st Q
  | 0, k, a, h, q => by rw [show rng a 0 = [] from rfl, forP_nil]; exact st_mp.mpr q
  | n + 1, k, a, h, q => by
    rw [rng_succ, forP_cons]
    simp only [st_mb, st_mc, st_mp]
    refine ⟨(hb.pow k).ok hb (by omega) (by decide) (by omega), ?_⟩
    rw [← Int.pow_succ]
    exact power_go hb n (k + 1) (a + 1) (by omega) (by rw [show k + 1 + n = k + (n + 1) by omega]; exact q)
theorem power_ok {b e : Int} (h0 : 0 ≤ b) (h1 : b < 1024) (he : e ≤ 1000) {Q : Int → Unit → Prop} (q : Q (b ^ e.toNat) ()) (he0 : -1000 ≤ e := by omega) : (m_power b e ()).st Q := by
  unfold m_power
  simp only [st_mb, st_mp, st_mc]
  refine ⟨b62_of (by omega) (by omega), ?_⟩
  have := power_go (Bn.small h0 h1) (Q := fun a x => Q a ()) e.toNat 0 0 (by omega) (by rw [Nat.zero_add]; exact q)
  rw [Int.pow_zero] at this
  exact this
theorem lpower_ok {b e : Int} (h0 : 0 ≤ b) (h1 : b < 1024) (he : e ≤ 1000) {Q : Int → Unit → Prop} (q : Q (b ^ e.toNat) ()) (he0 : -1000 ≤ e := by omega) : (m__law_power b e ()).st Q := power_ok h0 h1 he q he0
/-! binomials -/
def bin : Nat → Nat → Nat
  | _, 0 => 1
  | 0, _ + 1 => 0
  | n + 1, k + 1 => bin n k + bin n (k + 1)
def okI (r : R Unit Int) (x : Int) : Bool := match r with
  | .ok y _ => decide (y = x)
  | .bad => false
def okL (r : R Unit (List Int)) (x : List Int) : Bool := match r with
  | .ok y _ => decide (y = x)
  | .bad => false
theorem of_okI {r : R Unit Int} {x : Int} {Q : Int → Unit → Prop} (h : okI r x = true) (q : Q x ()) : r.st Q := by
  cases r with
  | ok y s => cases of_decide_eq_true h; exact ⟨q⟩
  | bad => cases h
theorem of_okL {r : R Unit (List Int)} {x : List Int} {Q : List Int → Unit → Prop} (h : okL r x = true) (q : Q x ()) : r.st Q := by
  cases r with
  | ok y s => cases of_decide_eq_true h; exact ⟨q⟩
  | bad => cases h
def rowOf (m : Nat) : List Int := (List.range (m + 1)).map fun k => (bin m k : Int)
theorem tab_choose : (List.range 25).all (fun m => (List.range (m + 1)).all fun k => okI (m_choose m k ()) (bin m k)) = true := by decide +kernel
theorem tab_row : (List.range 25).all (fun m => okL (m__law_row m ()) (rowOf m)) = true := by decide +kernel
theorem tab_bin : (List.range 25).all (fun m => (List.range (m + 1)).all fun k => decide (1 ≤ bin m k ∧ bin m k < 2 ^ 22 ∧ (k = 0 ∨ (bin m k = 1 ↔ k = m)))) = true := by decide +kernel
theorem tab_choose' {m k : Nat} (hm : m ≤ 24) (hk : k ≤ m) : okI (m_choose m k ()) (bin m k) = true := by
  have h := tab_choose
  rw [List.all_eq_true] at h
  have h1 := h m (List.mem_range.mpr (Nat.lt_succ_of_le hm))
  rw [List.all_eq_true] at h1
  exact h1 k (List.mem_range.mpr (Nat.lt_succ_of_le hk))
theorem tab_row' {m : Nat} (hm : m ≤ 24) : okL (m__law_row m ()) (rowOf m) = true := by
  have h := tab_row
  rw [List.all_eq_true] at h
  exact h m (List.mem_range.mpr (Nat.lt_succ_of_le hm))
theorem choose_ok {m k : Nat} (hm : m ≤ 24) (hk : k ≤ m) {Q : Int → Unit → Prop} (q : Q (bin m k) ()) : (m_choose m k ()).st Q := by
  have h := tab_choose' hm hk
  revert h
  generalize m_choose m k () = r
  intro h
  exact of_okI h q
theorem row_ok {m : Nat} (hm : m ≤ 24) {Q : List Int → Unit → Prop} (q : Q (rowOf m) ()) : (m__law_row m ()).st Q := by
  have h := tab_row' hm
  revert h
  generalize m__law_row m () = r
  intro h
  exact of_okL h q
theorem row_at {m k : Nat} (hk : k ≤ m) : atI (rowOf m) k = some (bin m k : Int) := by
  have hl : (rowOf m).length = m + 1 := by unfold rowOf; rw [List.length_map, List.length_range]
  rw [atI_get' (by omega) (by omega), Int.toNat_natCast]
  unfold rowOf
  rw [List.getElem?_map, List.getElem?_range (by omega)]
  rfl
theorem bin_facts {m k : Nat} (hm : m ≤ 24) (hk : k ≤ m) : 1 ≤ bin m k ∧ bin m k < 2 ^ 22 ∧ (k = 0 ∨ (bin m k = 1 ↔ k = m)) :=
  of_decide_eq_true (List.all_eq_true.mp (List.all_eq_true.mp tab_bin m (List.mem_range.mpr (by omega))) k (List.mem_range.mpr (by omega)))
end L68

namespace L68
open PySem L2 Mir
theorem whole_ok {v a b : Int} (h1 : a ≤ v) (h2 : v ≤ b) {Q : Bool → Unit → Prop} (q : Q true ()) : (m_is_between v a b ()).st Q := by
  unfold m_is_between m_is_whole
  simp only [st_mb, st_mp, st_mi, st_mu]
  refine ⟨fun _ => ?_, fun h => nomatch h⟩
  rw [decide_eq_true h1, decide_eq_true h2]
  exact q
theorem shape_ok {n f m k : Int} (h1 : 1 ≤ n) (h2 : n ≤ 12) (h3 : 0 ≤ f) (h4 : f < n) (h5 : 1 ≤ m) (h6 : m ≤ 24) (h7 : 1 ≤ k) (h8 : k ≤ m) {Q : Unit → Unit → Prop} (q : Q () ()) : (m_check_shape n f m k ()).st Q := by
  unfold m_check_shape
  simp only [st_mb, st_mp, st_mi, st_mu, st_mbad]
  refine whole_ok h1 h2 ?_
  refine ⟨fun h => (nomatch h), fun _ => ?_⟩
  refine whole_ok h3 (by omega) ?_
  refine ⟨fun h => (nomatch h), fun _ => ?_⟩
  refine whole_ok h5 h6 ?_
  refine ⟨fun h => (nomatch h), fun _ => ?_⟩
  refine whole_ok h7 h8 ?_
  exact ⟨fun h => (nomatch h), fun _ => q⟩
theorem contents_ok {v : Int} (h1 : 2 ≤ v) (h2 : v ≤ 997) {Q : Unit → Unit → Prop} (q : Q () ()) : (m_check_contents v ()).st Q := by
  unfold m_check_contents
  simp only [st_mb, st_mp, st_mi, st_mu, st_mbad]
  refine whole_ok h1 h2 ?_
  exact ⟨fun h => (nomatch h), fun _ => q⟩
def ws (m : Nat) (o : Int) : Nat → Int
  | 0 => 0
  | i + 1 => ws m o i + bin m (i + 1) * o ^ (i + 1)
/-- the sizes in bounds -/
structure Sz (d m k : Nat) (q : Int) : Prop where
  d1 : 1 ≤ d
  d2 : d ≤ 12
  m2 : m ≤ 24
  k1 : 1 ≤ k
  k2 : k ≤ m
  q1 : 2 ≤ q
  q2 : q ≤ 997
section
variable {d m k : Nat} {q : Int}
theorem Sz.qb (h : Sz d m k q) : Bn 10 q := by
  have := h.q1; have := h.q2
  exact Bn.small (by omega) (by omega)
theorem Sz.Qb (h : Sz d m k q) : Bn 121 (q ^ d) := (h.qb.pow d).mono (by have := h.d2; omega)
theorem Sz.Qp (h : Sz d m k q) : 1 ≤ q ^ d := by
  have := h.q1
  have := Int.pow_pos (n := q) (m := d) (by omega)
  omega
theorem Sz.ob (h : Sz d m k q) : Bn 121 (q ^ d - 1) := by
  have h1 := h.Qb
  have h2 := h.Qp
  unfold Bn at *
  omega
theorem Sz.oip (h : Sz d m k q) {i : Nat} (hi : i ≤ 24) : Bn 2905 ((q ^ d - 1) ^ i) := (h.ob.pow i).mono (by omega)
theorem Sz.binb (h : Sz d m k q) {i : Nat} (hi : i ≤ m) : Bn 22 (bin m i : Int) := by
  have := (bin_facts h.m2 hi).2.1
  unfold Bn
  rw [Int.natAbs_natCast]
  exact this
theorem Sz.wsb (h : Sz d m k q) : ∀ {i : Nat}, i ≤ m → Bn (2927 + i) (ws m (q ^ d - 1) i)
  | 0, _ => Nat.two_pow_pos _
  | i + 1, hi => by
    have h1 := h.wsb (i := i) (by omega)
    have h2 := (h.binb hi).mul (h.oip (i := i + 1) (by have := h.m2; omega))
    unfold ws
    exact (h1.add (h2.mono (by omega))).mono (by omega)
theorem count_ok (h : Sz d m k q) {Q : Int → Unit → Prop} (qq : Q (ws m (q ^ d - 1) k) ()) : (m_count_wishes d m k q ()).st Q := by
  have := h.m2; have := h.k1; have := h.k2; have := h.d2; have := h.q1; have := h.q2
  unfold m_count_wishes
  simp only [st_mb, st_mp, st_mu, st_mc]
  refine power_ok (by omega) (by omega) (by omega) ?_
  rw [Int.toNat_natCast]
  refine ⟨by rw [Bool.and_eq_true]; exact ⟨b62_of (by omega) (by omega), b62_of (by omega) (by omega)⟩, ?_⟩
  refine st_forP (Inv := fun xs t _ => ∃ i n : Nat, xs = rng (i + 1) n ∧ i + n = k ∧ t = (ws m (q ^ d - 1) i, (q ^ d - 1) ^ i)) ?_ ?_ ⟨0, k, by congr 1; omega, by omega, by rw [Int.pow_zero]; rfl⟩
  · rintro x xs t _ ⟨i, n, e, h1, rfl⟩
    cases n with
    | zero => cases e
    | succ n =>
      rw [rng_succ] at e
      obtain ⟨rfl, rfl⟩ := List.cons.inj e
      simp only [st_mb, st_mp, st_mu, st_mc]
      refine ⟨(h.oip (by omega)).ok h.ob (by decide) (by decide) (by decide), ?_⟩
      rw [← Int.pow_succ]
      rw [show ((i : Int) + 1) = ((i + 1 : Nat) : Int) by omega]
      refine choose_ok (by omega) (by omega) ?_
      refine ⟨(h.binb (by omega)).ok (h.oip (by omega)) (by decide) (by decide) (by decide), ?_⟩
      exact ⟨i + 1, n, by congr 1, by omega, rfl⟩
  · rintro t _ ⟨i, n, e, h1, rfl⟩
    cases n with
    | zero =>
      rw [show i = k by omega]
      exact qq
    | succ n => rw [rng_succ] at e; cases e
theorem dm_bn (h : Sz d m k q) : d * m ≤ 288 := by
  have := h.d2; have := h.m2
  exact Nat.mul_le_mul h.d2 h.m2
theorem lines_ok (h : Sz d m k q) {b : Int} (b1 : 1 ≤ b) (b2 : b ≤ 1000) {Q : Bool → Unit → Prop} (qq : Q (decide (q ^ (d * m) * ws m (q ^ d - 1) k ≤ 2 * b * q ^ (b - 1).toNat)) ()) : (m_lines_allow b d m k q ()).st Q := by
  have := h.m2; have := h.k1; have := h.k2; have := h.d1; have := h.d2; have := h.q1; have := h.q2
  have hdm := dm_bn h
  have edm : (d : Int) * m = ((d * m : Nat) : Int) := by simp
  unfold m_lines_allow m_check_sizes
  simp only [st_mb, st_mp, st_mu, st_mc, st_mi, st_mbad]
  refine whole_ok b1 b2 ?_
  refine ⟨fun h => (nomatch h), fun _ => ?_⟩
  refine shape_ok (by omega) (by omega) (by omega) (by omega) (by omega) (by omega) (by omega) (by omega) ?_
  refine contents_ok (by omega) (by omega) ?_
  refine ⟨(Bn.small (by omega) (by omega)).ok (Bn.small (by omega) (by omega)) (by decide) (by decide) (by decide), ?_⟩
  rw [edm]
  refine power_ok (by omega) (by omega) (by omega) ?_
  rw [Int.toNat_natCast]
  refine count_ok h ?_
  refine ⟨((h.qb.pow (d * m)).mono (show 10 * (d * m) + 1 ≤ 2881 by omega)).ok ((h.wsb h.k2).mono (show 2927 + k ≤ 2951 by omega)) (by decide) (by decide) (by decide), ?_⟩
  refine power_ok (by omega) (by omega) (by omega) ?_
  refine ⟨(show Bn 11 (2 * b) by unfold Bn; rw [show (2 : Nat) ^ 11 = 2048 by decide]; omega).ok ((h.qb.pow (b - 1).toNat).mono (show 10 * (b - 1).toNat + 1 ≤ 10000 by omega)) (by decide) (by decide) (by decide), ?_⟩
  exact qq
theorem allow_ok (h : Sz d m k q) {b : Int} (b1 : 1 ≤ b) (b2 : b ≤ 1000) {Q : Bool → Unit → Prop} (qq : Q (decide (q ^ (d * m) * ws m (q ^ d - 1) k ≤ 2 * b * q ^ (b - 1).toNat)) ()) : (m__law_allow b d m k q ()).st Q := by
  have := h.m2; have := h.k1; have := h.k2; have := h.d1; have := h.d2; have := h.q1; have := h.q2
  have hdm := dm_bn h
  have edm : (d : Int) * m = ((d * m : Nat) : Int) := by simp
  unfold m__law_allow
  simp only [st_mb, st_mp, st_mu, st_mc, st_mi, st_mo]
  refine row_ok (by omega) ?_
  refine lpower_ok (by omega) (by omega) (by omega) ?_
  rw [Int.toNat_natCast]
  refine ⟨by rw [Bool.and_eq_true]; exact ⟨b62_of (by omega) (by omega), b62_of (by omega) (by omega)⟩, ?_⟩
  refine st_forP (Inv := fun xs t _ => ∃ i n : Nat, xs = rng (i + 1) n ∧ i + n = k ∧ t = (ws m (q ^ d - 1) i, (q ^ d - 1) ^ i)) ?_ ?_ ⟨0, k, by congr 1; omega, by omega, by rw [Int.pow_zero]; rfl⟩
  · rintro x xs t _ ⟨i, n, e, h1, rfl⟩
    cases n with
    | zero => cases e
    | succ n =>
      rw [rng_succ] at e
      obtain ⟨rfl, rfl⟩ := List.cons.inj e
      simp only [st_mb, st_mp, st_mu, st_mc, st_mo]
      refine ⟨(h.oip (by omega)).ok h.ob (by decide) (by decide) (by decide), ?_⟩
      rw [← Int.pow_succ]
      rw [show ((i : Int) + 1) = ((i + 1 : Nat) : Int) by omega]
      refine ⟨_, row_at (by omega), ?_⟩
      refine ⟨(h.binb (by omega)).ok (h.oip (by omega)) (by decide) (by decide) (by decide), ?_⟩
      exact ⟨i + 1, n, by congr 1, by omega, rfl⟩
  · rintro t _ ⟨i, n, e, h1, rfl⟩
    cases n with
    | succ n => rw [rng_succ] at e; cases e
    | zero =>
      obtain rfl : i = k := by omega
      have qp : ∀ n : Nat, 0 < q ^ n := fun n => Int.pow_pos (by omega)
      have md : mulOk (d : Int) m = true := (Bn.small (by omega) (by omega)).ok (Bn.small (by omega) (by omega)) (by decide) (by decide) (by decide)
      refine ⟨md, fun c => ?_, fun c => ?_⟩
      · have c := of_decide_eq_true c
        refine ⟨md, ?_⟩
        rw [edm] at c ⊢
        refine lpower_ok (by omega) (by omega) (by omega) ?_
        refine ⟨(show Bn 11 (2 * b) by unfold Bn; rw [show (2 : Nat) ^ 11 = 2048 by decide]; omega).ok ((h.qb.pow _).mono (show 10 * (b - 1 - ((d * m : Nat) : Int)).toNat + 1 ≤ 10000 by omega)) (by decide) (by decide) (by decide), ?_⟩
        refine (show ∀ {p p' : Bool}, p = p' → Q p () → Q p' () from fun e x => e ▸ x) ?_ qq
        apply decide_eq_decide.mpr
        have e : (b - 1).toNat = d * m + (b - 1 - ((d * m : Nat) : Int)).toNat := by omega
        rw [e, Int.pow_add, show 2 * b * (q ^ (d * m) * q ^ (b - 1 - ((d * m : Nat) : Int)).toNat) = q ^ (d * m) * (2 * b * q ^ (b - 1 - ((d * m : Nat) : Int)).toNat) by
          rw [← Int.mul_assoc, Int.mul_comm (2 * b), Int.mul_assoc]]
        exact Int.mul_le_mul_left (qp _)
      · have c := of_decide_eq_false c
        refine ⟨md, ?_⟩
        rw [edm] at c ⊢
        refine lpower_ok (by omega) (by omega) (by omega) ?_
        refine ⟨((h.wsb h.k2).mono (show 2927 + i ≤ 2951 by omega)).ok ((h.qb.pow _).mono (show 10 * (((d * m : Nat) : Int) + 1 - b).toNat + 1 ≤ 10000 by omega)) (by decide) (by decide) (by decide), ?_⟩
        refine (show ∀ {p p' : Bool}, p = p' → Q p () → Q p' () from fun e x => e ▸ x) ?_ qq
        apply decide_eq_decide.mpr
        have e : d * m = (((d * m : Nat) : Int) + 1 - b).toNat + (b - 1).toNat := by omega
        have e2 : q ^ (d * m) = q ^ (((d * m : Nat) : Int) + 1 - b).toNat * q ^ (b - 1).toNat := by rw [← Int.pow_add, ← e]
        rw [e2, Int.mul_comm (q ^ _ * q ^ _), ← Int.mul_assoc]
        exact Int.mul_le_mul_right (qp _)
end
end L68

namespace L68
open PySem L2 Mir
theorem st_ex {S α : Type} {r : R S α} {Q : α → S → Prop} (h : r.st Q) : ∃ a s, Q a s := by
  cases r with
  | ok a s => exact ⟨a, s, h.to⟩
  | bad => exact h.to.elim
section
variable {d m k f : Nat} {q n : Int}
/-- one symbol more is wanted -/
def cnd (row lots q : Int) (s : Nat) : Prop := 2 * (row + s + 1) * q ^ s < lots
def isS (row lots q : Int) (s : Nat) : Prop := ¬ cnd row lots q s ∧ ∀ i < s, cnd row lots q i
instance {row lots q : Int} {s : Nat} : Decidable (cnd row lots q s) := inferInstanceAs (Decidable (2 * (row + s + 1) * q ^ s < lots))
theorem two_pow_le {q : Int} (hq : 2 ≤ q) : ∀ s : Nat, (2 : Int) ^ s ≤ q ^ s
  | 0 => by rw [Int.pow_zero, Int.pow_zero]; exact Int.le_refl _
  | s + 1 => by
    rw [Int.pow_succ, Int.pow_succ]
    have p0 : (0 : Int) < 2 ^ s := Int.pow_pos (by decide)
    exact Int.mul_le_mul (two_pow_le hq s) hq (by decide) (by have := two_pow_le hq s; omega)
theorem two_pow_22 {s : Nat} (h : 22 ≤ s) : (2 : Int) ^ 22 ≤ 2 ^ s := by
  obtain ⟨j, rfl⟩ := Nat.exists_eq_add_of_le h
  rw [Int.pow_add]
  have p0 : (0 : Int) < 2 ^ j := Int.pow_pos (by decide)
  have := Int.mul_le_mul_of_nonneg_left (show (1 : Int) ≤ 2 ^ j by omega) (show (0 : Int) ≤ 2 ^ 22 by decide)
  rw [Int.mul_one] at this
  exact this
theorem cnd_mono {row lots q : Int} (hr : 0 ≤ row) (hq : 1 ≤ q) {s i : Nat} (h : s ≤ i) (c : cnd row lots q i) : cnd row lots q s := by
  obtain ⟨j, rfl⟩ := Nat.exists_eq_add_of_le h
  unfold cnd at *
  have p1 : 0 < q ^ s := Int.pow_pos (by omega)
  have p2 : 0 < q ^ j := Int.pow_pos (by omega)
  rw [Int.pow_add] at c
  have a1 : q ^ s * 1 ≤ q ^ s * q ^ j := Int.mul_le_mul_of_nonneg_left (by omega) (by omega)
  rw [Int.mul_one] at a1
  have a2 : 2 * (row + s + 1) * q ^ s ≤ 2 * (row + ((s + j : Nat) : Int) + 1) * (q ^ s * q ^ j) := Int.mul_le_mul (by omega) a1 (by omega) (by omega)
  omega
theorem cnd_small {row lots q : Int} (hr : 0 ≤ row) (hq : 2 ≤ q) (hl : lots < 2 ^ 22) {s : Nat} (c : cnd row lots q s) : s < 22 := by
  unfold cnd at c
  have p1 : (2 : Int) ^ s ≤ q ^ s := two_pow_le hq s
  have p0 : (0 : Int) < 2 ^ s := Int.pow_pos (by decide)
  have a2 : 1 * q ^ s ≤ 2 * (row + s + 1) * q ^ s := Int.mul_le_mul_of_nonneg_right (by omega) (by omega)
  by_cases h : s < 22
  · exact h
  · have := two_pow_22 (show 22 ≤ s by omega)
    omega
def rowI (d m k : Nat) : Int := (d : Int) * ((m : Int) + k)
theorem row_bn (h : Sz d m k q) : 0 ≤ rowI d m k ∧ rowI d m k ≤ 576 := by
  have := h.m2; have := h.k2; have := h.d2
  have e : rowI d m k = ((d * (m + k) : Nat) : Int) := by unfold rowI; simp
  have : d * (m + k) ≤ 12 * 48 := Nat.mul_le_mul h.d2 (by omega)
  omega
theorem row_mul (h : Sz d m k q) : mulOk (d : Int) ((m : Int) + k) = true := by
  have := h.m2; have := h.k2; have := h.d2
  exact (Bn.small (by omega) (by omega)).ok (Bn.small (by omega) (by omega)) (by decide) (by decide) (by decide)
theorem lots_bn (h : Sz d m k q) : 1 ≤ (bin m k : Int) ∧ (bin m k : Int) < 2 ^ 22 ∧ ((bin m k : Int) = 1 ↔ k = m) := by
  have b := bin_facts h.m2 h.k2
  have := h.k1
  refine ⟨by omega, by omega, ?_⟩
  rcases b.2.2 with b | b
  · omega
  · rw [← b]; omega
theorem mul11 (h : Sz d m k q) {s : Nat} (hs : s ≤ 63) : mulOk (2 * (rowI d m k + s + 1)) (q ^ s) = true := by
  have := row_bn h
  refine (show Bn 11 (2 * (rowI d m k + s + 1)) by unfold Bn; rw [show (2 : Nat) ^ 11 = 2048 by decide]; omega).ok ((h.qb.pow s).mono (show 10 * s + 1 ≤ 640 by omega)) (by decide) (by decide) (by decide)
theorem symbols_ok (h : Sz d m k q) : (m_least_symbols d m k q ()).st fun x _ => ∃ s : Nat, x = s ∧ isS (rowI d m k) (bin m k) q s := by
  have hb := lots_bn h
  have hr := row_bn h
  unfold m_least_symbols
  simp only [st_mb, st_mp, st_mu, st_mc]
  refine choose_ok h.m2 h.k2 ?_
  refine ⟨row_mul h, ?_⟩
  refine st_whP (Inv := fun n t _ => ∃ s : Nat, n + s = 63 ∧ t = ((s : Int), q ^ s) ∧ ∀ i < s, cnd (rowI d m k) (bin m k) q i) ?_ ⟨0, rfl, by rw [Int.pow_zero]; rfl, fun i hi => absurd hi (Nat.not_lt_zero _)⟩
  rintro n t _ ⟨s, hn, rfl, hc⟩
  simp only [st_mb, st_mp, st_mu, st_mc]
  refine ⟨mul11 h (by omega), fun c => ?_, fun c => ?_⟩
  · have c : cnd (rowI d m k) (bin m k) q s := of_decide_eq_true c
    have hs := cnd_small hr.1 h.q1 hb.2.1 c
    refine ⟨n - 1, by omega, ?_⟩
    refine ⟨((h.qb.pow s).mono (show 10 * s + 1 ≤ 640 by omega)).ok h.qb (by decide) (by decide) (by decide), ?_⟩
    refine ⟨s + 1, by omega, by rw [Int.pow_succ]; rfl, fun i hi => ?_⟩
    by_cases e : i = s
    · rw [e]; exact c
    · exact hc i (by omega)
  · exact ⟨s, rfl, of_decide_eq_false c, hc⟩
def spr (t d f : Int) : Int := t + f * ((t + d - 1) / d)
theorem spr_bn (h : Sz d m k q) (hf : f ≤ 11) {t : Nat} (h1 : 1 ≤ t) (h2 : t ≤ 25) : 1 ≤ spr t d f ∧ spr t d f ≤ 300 ∧ divOk (d : Int) = true ∧ mulOk (f : Int) (((t : Int) + d - 1) / d) = true := by
  have := h.d1; have := h.d2
  have e1 : 0 ≤ ((t : Int) + d - 1) / d := Int.ediv_nonneg (by omega) (by omega)
  have e2 : ((t : Int) + d - 1) / d ≤ 25 := by
    have : ((t : Int) + d - 1) / d < 26 := Int.ediv_lt_of_lt_mul (by omega) (by omega)
    omega
  have e3 : (f : Int) * (((t : Int) + d - 1) / d) ≤ 11 * 25 := Int.mul_le_mul (by omega) e2 e1 (by omega)
  have e4 : 0 ≤ (f : Int) * (((t : Int) + d - 1) / d) := Int.mul_nonneg (by omega) e1
  refine ⟨by unfold spr; omega, by unfold spr; omega, divOk_of (by omega) (by omega), (Bn.small (by omega) (by omega)).ok (Bn.small (by omega) (by omega)) (by decide) (by decide) (by decide)⟩
/-- the heads that the program asks for -/
def hnF (d m k f : Nat) (q : Int) (s : Nat) : Int :=
  if (bin m k : Int) = 1 then (if 2 * rowI d m k < q ∧ 7 ≤ q then (f : Int) + 1 else 0)
  else if q ^ d ≤ k * (bin m k : Int) then 0
  else if 0 < s then spr ((s + 1 : Nat) : Int) d f
  else if 2 * rowI d m k ≤ ((bin m k : Int) - 1) * q then (f : Int) + 1 else 0
theorem klots (h : Sz d m k q) : mulOk (k : Int) (bin m k) = true := by
  have := h.m2; have := h.k2
  exact (Bn.small (by omega) (by omega)).ok (h.binb h.k2) (by decide) (by decide) (by decide)
theorem lotsq (h : Sz d m k q) : mulOk ((bin m k : Int) - 1) q = true := by
  have := lots_bn h
  refine (show Bn 22 ((bin m k : Int) - 1) by unfold Bn; omega).ok h.qb (by decide) (by decide) (by decide)
theorem heads_ok (h : Sz d m k q) (hf : f ≤ 11) : (m_heads_needed d f m k q ()).st fun x _ => ∃ s : Nat, isS (rowI d m k) (bin m k) q s ∧ x = hnF d m k f q s := by
  have hb := lots_bn h
  have hr := row_bn h
  have := h.d2; have := h.q1; have := h.q2
  have exS : ∃ s, isS (rowI d m k) (bin m k) q s := by
    obtain ⟨_, _, s, _, hs⟩ := st_ex (symbols_ok h)
    exact ⟨s, hs⟩
  unfold m_heads_needed
  simp only [st_mb, st_mp, st_mu, st_mc, st_mi]
  refine choose_ok h.m2 h.k2 ?_
  refine ⟨row_mul h, fun c => ?_, fun c => ?_⟩
  · have c := of_decide_eq_true c
    obtain ⟨s, hs⟩ := exS
    refine ⟨s, hs, ?_⟩
    unfold hnF
    rw [if_pos c]
    show cond (decide (2 * rowI d m k < q) && decide (7 ≤ q)) ((f : Int) + 1) 0 = _
    by_cases c1 : 2 * rowI d m k < q
    · by_cases c2 : 7 ≤ q
      · rw [if_pos ⟨c1, c2⟩, decide_eq_true c1, decide_eq_true c2]; rfl
      · rw [if_neg (fun x => c2 x.2), decide_eq_true c1, decide_eq_false c2]; rfl
    · rw [if_neg (fun x => c1 x.1), decide_eq_false c1]; rfl
  · have c := of_decide_eq_false c
    refine power_ok (by omega) (by omega) (by omega) ?_
    rw [Int.toNat_natCast]
    refine ⟨klots h, fun c2 => ?_, fun c2 => ?_⟩
    · obtain ⟨s, hs⟩ := exS
      refine ⟨s, hs, ?_⟩
      unfold hnF
      rw [if_neg c, if_pos (of_decide_eq_true c2)]
    · have c2 := of_decide_eq_false c2
      refine R.st_imp (symbols_ok h) fun x _ ⟨s, hx, hs⟩ => ?_
      subst hx
      have s22 : s ≤ 22 := by
        cases s with
        | zero => omega
        | succ s => have := cnd_small hr.1 h.q1 hb.2.1 (hs.2 s (by omega)); omega
      constructor
      · intro c3
        have c3 := of_decide_eq_true c3
        have sp := spr_bn h hf (t := s + 1) (by omega) (by omega)
        unfold m_spread
        simp only [st_mb, st_mc, st_mp]
        refine ⟨sp.2.2.1, sp.2.2.2, s, hs, ?_⟩
        unfold hnF
        rw [if_neg c, if_neg c2, if_pos (by omega)]
        rfl
      · intro c3
        have c3 := of_decide_eq_false c3
        refine ⟨lotsq h, fun c4 => ⟨s, hs, ?_⟩, fun c4 => ⟨s, hs, ?_⟩⟩
        · unfold hnF
          rw [if_neg c, if_neg c2, if_neg (by omega), if_pos (show 2 * rowI d m k ≤ ((bin m k : Int) - 1) * q from of_decide_eq_true c4)]
        · unfold hnF
          rw [if_neg c, if_neg c2, if_neg (by omega), if_neg (show ¬ 2 * rowI d m k ≤ ((bin m k : Int) - 1) * q from of_decide_eq_false c4)]
def ansF (n : Int) (d m k f : Nat) (q : Int) (s : Nat) : Option Int := if 0 < hnF d m k f q s then some (n * ((m : Int) + k) + hnF d m k f q s) else none
theorem told_ok (h : Sz d m k q) (hn : n = d + f) (hn2 : n ≤ 12) : (m_least_told n f m k q ()).st fun x _ => ∃ s : Nat, isS (rowI d m k) (bin m k) q s ∧ x = ansF n d m k f q s := by
  have := h.d1; have := h.m2; have := h.k1; have := h.k2; have := h.q1; have := h.q2
  unfold m_least_told
  simp only [st_mb, st_mp, st_mu, st_mc, st_mi]
  refine shape_ok (by omega) (by omega) (by omega) (by omega) (by omega) (by omega) (by omega) (by omega) ?_
  refine contents_ok (by omega) (by omega) ?_
  rw [show n - (f : Int) = d by omega]
  refine R.st_imp (heads_ok h (by omega)) fun x _ ⟨s, hs, hx⟩ => ?_
  subst hx
  refine ⟨fun c => ⟨(Bn.small (by omega) (by omega)).ok (Bn.small (by omega) (by omega)) (by decide) (by decide) (by decide), s, hs, ?_⟩, fun c => ⟨s, hs, ?_⟩⟩
  · unfold ansF
    rw [if_pos (of_decide_eq_true c)]
  · unfold ansF
    rw [if_neg (of_decide_eq_false c)]
end
end L68

namespace L68
open PySem L2 Mir
section
variable {d m k f : Nat} {q n : Int}
def val (n : Int) (d m k f : Nat) (j : Int) : Int := n * ((m : Int) + k) + j + 1 + f * ((j + d) / d)
def found2 (n : Int) (d m k f : Nat) (q : Int) : List Int := if 2 * rowI d m k ≤ ((bin m k : Int) - 1) * q then [n * ((m : Int) + k) + f + 1] else []
theorem rng_snoc {a : Int} {n : Nat} : rng a (n + 1) = rng a n ++ [a + n] := by
  rw [rng_add, show rng (a + n) 1 = [a + n] by rw [rng_succ]; rfl]
theorem small (h : Sz d m k q) (hn : n = d + f) (hn2 : n ≤ 12) : mulOk n ((m : Int) + k) = true := by
  have := h.m2; have := h.k2; have := h.d1
  exact (Bn.small (by omega) (by omega)).ok (Bn.small (by omega) (by omega)) (by decide) (by decide) (by decide)
theorem loop_ok (h : Sz d m k q) (hn : n = d + f) (hn2 : n ≤ 12) {s : Nat} (hs : isS (rowI d m k) (bin m k) q s) (base : List Int) (hb : base.length ≤ 1) {Q : List Int → Unit → Prop} (hq : Q (base ++ (rng 1 (min s 25)).map (val n d m k f)) ()) :
    (forP (rng 1 25) base (fun a206 (t205 : (List Int)) =>
    (mb (mb (mb (mb (mb (mb (mc (mulOk (d : Int) ((m : Int) + k)) ((d : Int) * ((m : Int) + k))) fun x_207 => mp (x_207 + a206)) fun y210 => mp ((2 : Int) * y210)) fun x_211 => mb (mu (m__law_power q ((a206 - (1 : Int)) : Int))) fun y212 => mc (mulOk x_211 y212) (x_211 * y212)) fun y214 => mp (decide (y214 < (bin m k : Int)))) fun b => mi b
    (mb (mb (mb (mb (mb (mc (mulOk n ((m : Int) + k)) (n * ((m : Int) + k))) fun x_216 => mp (x_216 + a206)) fun x_218 => mp (x_218 + (1 : Int))) fun x_222 => mb (mb (mc (divOk (d : Int)) ((a206 + (d : Int)) / (d : Int))) fun y221 => mc (mulOk (f : Int) y221) ((f : Int) * y221)) fun y223 => mp (x_222 + y223)) fun x_225 => mc (lenOk t205.length) (t205 ++ [x_225])) fun found224 => mp found224)
    (mp t205)) fun t215 => mp t215)) ()).st Q := by
  have hbn := lots_bn h
  have hr := row_bn h
  have := h.d1; have := h.d2; have := h.q1; have := h.q2
  refine st_forP (Inv := fun xs t _ => ∃ i j : Nat, xs = rng ((i : Int) + 1) j ∧ i + j = 25 ∧ t = base ++ (rng 1 (min s i)).map (val n d m k f)) ?_ ?_ ⟨0, 25, rfl, rfl, by rw [Nat.min_zero]; simp [rng_zero]⟩
  · rintro x xs t _ ⟨i, j, e, hij, rfl⟩
    cases j with
    | zero => cases e
    | succ j =>
      rw [rng_succ] at e
      obtain ⟨rfl, rfl⟩ := List.cons.inj e
      have ei : ((i : Int) + 1 - 1) = i := by omega
      have er : 2 * ((d : Int) * ((m : Int) + k) + ((i : Int) + 1)) = 2 * (rowI d m k + i + 1) := by unfold rowI; omega
      have e1 : 0 ≤ ((i : Int) + 1 + d) / d := Int.ediv_nonneg (by omega) (by omega)
      have e2 : ((i : Int) + 1 + d) / d ≤ 26 := by
        have : ((i : Int) + 1 + d) / d < 27 := Int.ediv_lt_of_lt_mul (by omega) (by omega)
        omega
      simp only [st_mb, st_mp, st_mu, st_mc, st_mi]
      rw [ei, er]
      refine ⟨row_mul h, ?_⟩
      refine lpower_ok (by omega) (by omega) (by omega) ?_
      rw [Int.toNat_natCast]
      refine ⟨mul11 h (by omega), fun c => ?_, fun c => ?_⟩
      · have c : cnd (rowI d m k) (bin m k) q i := of_decide_eq_true c
        have his : i < s := by
          by_cases q' : i < s
          · exact q'
          · exact absurd (cnd_mono hr.1 (by omega) (show s ≤ i by omega) c) hs.1
        refine ⟨small h hn hn2, divOk_of (by omega) (by omega), (Bn.small (by omega) (by omega)).ok (Bn.small e1 (by omega)) (by decide) (by decide) (by decide), ?_, ?_⟩
        · refine decide_eq_true ?_
          rw [List.length_append, List.length_map, rng_len]
          omega
        · refine ⟨i + 1, j, by congr 1, by omega, ?_⟩
          rw [List.append_assoc]
          congr 1
          rw [show min s i = i by omega, show min s (i + 1) = i + 1 by omega, rng_snoc, List.map_append]
          congr 1
          show [_] = [val n d m k f (1 + (i : Int))]
          unfold val
          rw [show (1 : Int) + i = i + 1 by omega]
      · have c : ¬ cnd (rowI d m k) (bin m k) q i := of_decide_eq_false c
        have his : s ≤ i := by
          by_cases q' : i < s
          · exact absurd (hs.2 i q') c
          · omega
        refine ⟨i + 1, j, by congr 1, by omega, ?_⟩
        rw [show min s i = s by omega, show min s (i + 1) = s by omega]
  · rintro t _ ⟨i, j, e, hij, rfl⟩
    cases j with
    | zero => rw [show i = 25 by omega]; exact hq
    | succ j => rw [rng_succ] at e; cases e
theorem spr_val {s : Nat} (hd : 1 ≤ d) : n * ((m : Int) + k) + spr ((s + 1 : Nat) : Int) d f = val n d m k f s := by
  unfold spr val
  rw [show ((s + 1 : Nat) : Int) + d - 1 = s + d by omega]
  omega
theorem val_mono (hd : 1 ≤ d) {i j : Int} (h0 : 0 ≤ i) (h : i ≤ j) : val n d m k f i ≤ val n d m k f j := by
  unfold val
  have a := Int.ediv_le_ediv (show (0 : Int) < d by omega) (show i + d ≤ j + d by omega)
  have b := Int.mul_le_mul_of_nonneg_left a (show (0 : Int) ≤ f by omega)
  omega
theorem val_zero (hd : 1 ≤ d) : val n d m k f 0 = n * ((m : Int) + k) + f + 1 := by
  unfold val
  rw [Int.zero_add, Int.ediv_self (by omega)]
  omega
/-- the greatest that was found -/
theorem max_ok (h : Sz d m k q) {s : Nat} (hkm : ¬ (bin m k : Int) = 1) (hq : ¬ q ^ d ≤ k * (bin m k : Int)) (hs : s ≤ 25) (hn0 : 0 ≤ n * ((m : Int) + k)) {t : List Int} (ht : t = found2 n d m k f q ++ (rng 1 (min s 25)).map (val n d m k f)) :
    (t ≠ [] → mxL t = n * ((m : Int) + k) + hnF d m k f q s ∧ 0 < hnF d m k f q s) ∧ (t = [] → ¬ 0 < hnF d m k f q s) := by
  have hd := h.d1
  have hh : hnF d m k f q s = if 0 < s then spr ((s + 1 : Nat) : Int) d f else if 2 * rowI d m k ≤ ((bin m k : Int) - 1) * q then (f : Int) + 1 else 0 := by
    unfold hnF
    rw [if_neg hkm, if_neg hq]
  rw [hh, ht, Nat.min_eq_left hs]
  by_cases h0 : 0 < s
  · rw [if_pos h0]
    have hm : val n d m k f s ∈ (rng 1 s).map (val n d m k f) := List.mem_map.mpr ⟨s, mem_rng.mpr ⟨by omega, by omega⟩, rfl⟩
    have e2 : 0 ≤ (f : Int) * (((s : Int) + d) / d) := Int.mul_nonneg (by omega) (Int.ediv_nonneg (by omega) (by omega))
    have hp : 0 < spr ((s + 1 : Nat) : Int) d f := by
      unfold spr
      rw [show ((s + 1 : Nat) : Int) + d - 1 = s + d by omega]
      omega
    refine ⟨fun _ => ⟨?_, hp⟩, fun e => ?_⟩
    · rw [spr_val hd]
      refine mxL_eq (List.mem_append_right _ hm) fun y hy => ?_
      rcases List.mem_append.mp hy with hy | hy
      · unfold found2 at hy
        split at hy
        · rcases List.mem_cons.mp hy with rfl | hy
          · rw [← val_zero hd]
            exact val_mono hd (Int.le_refl _) (by omega)
          · cases hy
        · cases hy
      · obtain ⟨j, hj, rfl⟩ := List.mem_map.mp hy
        have hj := mem_rng.mp hj
        exact val_mono hd (by omega) (by omega)
    · have := List.append_eq_nil_iff.mp e
      rw [this.2] at hm
      cases hm
  · rw [if_neg h0]
    obtain rfl : s = 0 := by omega
    rw [rng_zero, List.map_nil, List.append_nil]
    unfold found2
    by_cases c : 2 * rowI d m k ≤ ((bin m k : Int) - 1) * q
    · rw [if_pos c, if_pos c]
      refine ⟨fun _ => ⟨?_, by omega⟩, fun e => nomatch e⟩
      show n * ((m : Int) + k) + f + 1 = _
      omega
    · rw [if_neg c, if_neg c]
      exact ⟨fun e => absurd rfl e, fun _ => by omega⟩
theorem fin_ok (t : List Int) {Q : Option Int → Unit → Prop} (q1 : t ≠ [] → Q (some (mxL t)) ()) (q2 : t = [] → Q none ()) :
    ((mb (mp (!decide (t = ([] : (List Int))))) fun b227 => mi b227 (mb (mu (mc (!t.isEmpty) (mxL t))) fun x => mp (some x)) (mp ((none : (Option Int)) : (Option Int))) : Mn Unit (Option Int)) ()).st Q := by
  simp only [st_mb, st_mp, st_mu, st_mc, st_mi]
  by_cases e : t = []
  · rw [decide_eq_true e]
    exact ⟨fun h => (nomatch h), fun _ => q2 e⟩
  · rw [decide_eq_false e]
    refine ⟨fun _ => ⟨?_, q1 e⟩, fun h => nomatch h⟩
    cases t with
    | nil => exact absurd rfl e
    | cons x xs => rfl
theorem law_least_ok (h : Sz d m k q) (hn : n = d + f) (hn2 : n ≤ 12) {s : Nat} (hs : isS (rowI d m k) (bin m k) q s) : (m__law_least n f m k q ()).st fun x _ => x = ansF n d m k f q s := by
  have hb := lots_bn h
  have hr := row_bn h
  have := h.d1; have := h.d2; have := h.m2; have := h.k1; have := h.k2; have := h.q1; have := h.q2
  have hs25 : s ≤ 25 := by
    cases s with
    | zero => omega
    | succ s => have := cnd_small hr.1 h.q1 hb.2.1 (hs.2 s (by omega)); omega
  have b4 : mulOk (4 * (n - f)) m = true := (Bn.small (by omega) (by omega)).ok (Bn.small (by omega) (by omega)) (by decide) (by decide) (by decide)
  have b2 : mulOk (2 * (n - f)) (m + k) = true := (Bn.small (by omega) (by omega)).ok (Bn.small (by omega) (by omega)) (by decide) (by decide) (by decide)
  have bn : mulOk (n * 2) m = true := (Bn.small (by omega) (by omega)).ok (Bn.small (by omega) (by omega)) (by decide) (by decide) (by decide)
  have en : n - (f : Int) = d := by omega
  have hn0 : 0 ≤ n * ((m : Int) + k) := Int.mul_nonneg (by omega) (by omega)
  unfold m__law_least
  refine st_mb.mpr (R.st_imp (Q := fun z _ => z = ((bin m k : Int), (([] : List Int), ()))) ?_ fun z _ hz => ?_)
  · simp only [st_mb, st_mp, st_mu, st_mc, st_mi, st_mo]
    refine row_ok h.m2 ?_
    exact ⟨_, row_at h.k2, rfl⟩
  subst hz
  refine st_mb.mpr (R.st_imp (Q := fun t _ => t = if k = m ∧ 4 * (d : Int) * m < q ∧ 7 ≤ q then [n * 2 * m + f + 1] else []) ?_ fun t1 _ ht1 => ?_)
  · simp only [st_mb, st_mp, st_mu, st_mc, st_mi, st_mo]
    refine ⟨fun c1 => ⟨b4, fun c2 => ⟨fun c3 => ⟨bn, rfl, ?_⟩, fun c3 => ?_⟩, fun c2 => ⟨fun h => (nomatch h), fun _ => ?_⟩⟩, fun c1 => ⟨fun h => (nomatch h), fun _ => ?_⟩⟩
    · rw [if_pos ⟨by have := of_decide_eq_true c1; omega, by have := of_decide_eq_true c2; rw [en] at this; exact this, of_decide_eq_true c3⟩]
      rfl
    · rw [if_neg (fun x => of_decide_eq_false c3 x.2.2)]
    · rw [if_neg (fun x => by have := of_decide_eq_false c2; rw [en] at this; exact this x.2.1)]
    · rw [if_neg (fun x => by have := of_decide_eq_false c1; omega)]
  have e25 : ((26 : Int) - 1).toNat = 25 := rfl
  have b62s : (b62 1 && b62 26) = true := by rw [Bool.and_eq_true]; exact ⟨b62_of (by omega) (by omega), b62_of (by omega) (by omega)⟩
  have l1 : t1.length ≤ 1 := by
    rw [ht1]
    split
    · exact Nat.le_refl _
    · exact Nat.zero_le _
  have s0 : k = m → s = 0 := fun e => by
    cases s with
    | zero => rfl
    | succ s =>
      have := hs.2 0 (by omega)
      unfold cnd at this
      rw [Int.pow_zero, hb.2.2.mpr e] at this
      omega
  refine st_mb.mpr (R.st_imp (Q := fun t _ => (k = m → t = t1) ∧ (k ≠ m → t = if q ^ d ≤ k * (bin m k : Int) then [] else found2 n d m k f q ++ (rng 1 (min s 25)).map (val n d m k f))) ?_ fun t2 _ ⟨g1, g2⟩ => ?_)
  · simp only [st_mb, st_mp, st_mu, st_mc, st_mi]
    rw [en, e25]
    refine lpower_ok (by omega) (by omega) (by omega) ?_
    rw [Int.toNat_natCast]
    refine ⟨klots h, fun c => ⟨fun c1 => ⟨lotsq h, by rw [en] at b2; exact b2, fun c2 => ⟨small h hn hn2, decide_eq_true (by omega), b62s, loop_ok h hn hn2 hs _ ?_ ?_⟩, fun c2 => ⟨b62s, loop_ok h hn hn2 hs _ l1 ?_⟩⟩, fun c1 => ⟨fun x => (nomatch x), fun _ => ⟨b62s, loop_ok h hn hn2 hs _ l1 ?_⟩⟩⟩, fun c => ?_⟩
    all_goals try have c1 := of_decide_eq_true c1
    all_goals try have c1 := of_decide_eq_false c1
    · rw [ht1, if_neg (fun x => by omega)]
      exact Nat.le_refl _
    · have c := of_decide_eq_true c
      have c2 := of_decide_eq_true c2
      refine ⟨fun e => by omega, fun _ => ?_⟩
      rw [if_neg (by omega), ht1, if_neg (fun x => by omega)]
      unfold found2
      rw [if_pos (show 2 * rowI d m k ≤ ((bin m k : Int) - 1) * q by unfold rowI; rw [← Int.mul_assoc]; exact c2)]
      rfl
    · have c := of_decide_eq_true c
      have c2 := of_decide_eq_false c2
      refine ⟨fun e => by omega, fun _ => ?_⟩
      rw [if_neg (by omega), ht1, if_neg (fun x => by omega)]
      unfold found2
      rw [if_neg (show ¬ 2 * rowI d m k ≤ ((bin m k : Int) - 1) * q by unfold rowI; rw [← Int.mul_assoc]; exact c2)]
    · refine ⟨fun e => ?_, fun e => by omega⟩
      rw [s0 e, Nat.zero_min, rng_zero, List.map_nil, List.append_nil]
    · have c := of_decide_eq_false c
      refine ⟨fun _ => trivial, fun e => ?_⟩
      rw [if_pos (by omega), ht1, if_neg (fun x => e x.1)]
  · by_cases e : k = m
    · have g1 := g1 e
      subst g1
      have hl1 := hb.2.2.mpr e
      have hrow : 2 * rowI d m k = 4 * (d : Int) * m := by
        unfold rowI
        rw [e, Int.mul_add, Int.mul_assoc]
        omega
      have hh : hnF d m k f q s = if 4 * (d : Int) * m < q ∧ 7 ≤ q then (f : Int) + 1 else 0 := by
        unfold hnF
        rw [if_pos hl1, hrow]
      by_cases A : 4 * (d : Int) * m < q ∧ 7 ≤ q
      · rw [if_pos ⟨e, A⟩] at ht1
        rw [if_pos A] at hh
        refine fin_ok t2 (fun _ => ?_) (fun x => by rw [ht1] at x; cases x)
        rw [ht1]
        unfold ansF
        rw [hh, if_pos (by omega)]
        congr 1
        show n * 2 * m + f + 1 = _
        have : n * 2 * (m : Int) = n * ((m : Int) + k) := by rw [Int.mul_assoc, e]; congr 1; omega
        omega
      · rw [if_neg (fun x => A x.2)] at ht1
        rw [if_neg A] at hh
        refine fin_ok t2 (fun x => absurd ht1 x) (fun _ => ?_)
        unfold ansF
        rw [hh, if_neg (by omega)]
    · have g2 := g2 e
      have hne : ¬ (bin m k : Int) = 1 := fun x => e (hb.2.2.mp x)
      by_cases c : q ^ d ≤ k * (bin m k : Int)
      · rw [if_pos c] at g2
        refine fin_ok t2 (fun x => absurd g2 x) (fun _ => ?_)
        unfold ansF hnF
        rw [if_neg hne, if_pos c, if_neg (by omega)]
      · rw [if_neg c] at g2
        obtain ⟨m1, m2⟩ := max_ok h hne c hs25 hn0 g2
        refine fin_ok t2 (fun x => ?_) (fun x => ?_)
        · unfold ansF
          rw [if_pos (m1 x).2, (m1 x).1]
        · unfold ansF
          rw [if_neg (m2 x)]
end
end L68

namespace L68
open PySem L2 Mir
theorem bern {Q : Int} (h : 1 ≤ Q) : ∀ k : Nat, Q ^ k * (Q - k) ≤ (Q - 1) ^ k * Q
  | 0 => by rw [Int.pow_zero, Int.pow_zero]; omega
  | k + 1 => by
    have ih := Int.mul_le_mul_of_nonneg_left (bern h k) (show 0 ≤ Q - 1 by omega)
    have p : 0 < Q ^ k := Int.pow_pos (by omega)
    have e1 : (Q - 1) * ((Q - 1) ^ k * Q) = (Q - 1) ^ (k + 1) * Q := by rw [Int.pow_succ, ← Int.mul_assoc, Int.mul_comm (Q - 1)]
    have e2 : (Q - 1) * (Q ^ k * (Q - k)) = Q ^ k * ((Q - 1) * (Q - k)) := by rw [← Int.mul_assoc, Int.mul_comm (Q - 1), Int.mul_assoc]
    have e3 : (Q - 1) * (Q - k) = Q * (Q - ((k + 1 : Nat) : Int)) + k := by
      have : ((k + 1 : Nat) : Int) = k + 1 := by omega
      rw [this, Int.sub_mul, Int.mul_sub, Int.mul_sub, Int.mul_sub, Int.mul_add, Int.one_mul, Int.one_mul, Int.mul_one]
      omega
    have e4 : Q ^ k * (Q * (Q - ((k + 1 : Nat) : Int)) + k) = Q ^ (k + 1) * (Q - ((k + 1 : Nat) : Int)) + Q ^ k * k := by rw [Int.mul_add, Int.pow_succ, Int.mul_assoc]
    have e5 : 0 ≤ Q ^ k * (k : Int) := Int.mul_nonneg (by omega) (by omega)
    rw [e1, e2, e3, e4] at ih
    omega
theorem bern2 {Q L : Int} (h : 1 ≤ Q) (hL : 0 ≤ L) {k : Nat} (hk : L * k < Q) : (L - 1) * Q ^ k < L * (Q - 1) ^ k := by
  have p : 0 < Q ^ k := Int.pow_pos (by omega)
  have b := Int.mul_le_mul_of_nonneg_left (bern h k) hL
  have e1 : L * (Q ^ k * (Q - k)) = Q ^ k * (L * Q - L * k) := by rw [← Int.mul_assoc, Int.mul_comm L, Int.mul_assoc, Int.mul_sub]
  have e2 : Q ^ k * (L * Q - Q) < Q ^ k * (L * Q - L * k) := Int.mul_lt_mul_of_pos_left (by omega) p
  have e3 : Q ^ k * (L * Q - Q) = (L - 1) * Q ^ k * Q := by
    rw [Int.mul_comm (L - 1), Int.mul_assoc, Int.sub_mul, Int.one_mul]
  have e4 : L * ((Q - 1) ^ k * Q) = L * (Q - 1) ^ k * Q := by rw [Int.mul_assoc]
  have : (L - 1) * Q ^ k * Q < L * (Q - 1) ^ k * Q := by omega
  exact Int.lt_of_mul_lt_mul_right this (by omega)
theorem ws_nn {m : Nat} {o : Int} (h : 0 ≤ o) : ∀ k, 0 ≤ ws m o k
  | 0 => Int.le_refl _
  | k + 1 => by
    have := ws_nn (m := m) h k
    have : 0 ≤ (bin m (k + 1) : Int) * o ^ (k + 1) := Int.mul_nonneg (by omega) (Int.pow_nonneg h)
    show 0 ≤ ws m o k + _
    omega
theorem ws_ge {m k : Nat} {o : Int} (h : 0 ≤ o) (hk : 1 ≤ k) : (bin m k : Int) * o ^ k ≤ ws m o k := by
  obtain ⟨j, rfl⟩ : ∃ j, k = j + 1 := ⟨k - 1, by omega⟩
  have := ws_nn (m := m) h j
  show _ ≤ ws m o j + _
  omega
theorem bin_zero : ∀ {n k : Nat}, n < k → bin n k = 0
  | _, 0, h => absurd h (Nat.not_lt_zero _)
  | 0, k + 1, _ => by unfold bin; rfl
  | n + 1, k + 1, h => by
    unfold bin
    rw [bin_zero (n := n) (k := k) (by omega), bin_zero (n := n) (k := k + 1) (by omega)]
theorem bin_0 (n : Nat) : bin n 0 = 1 := by
  unfold bin
  cases n <;> rfl
theorem bin_s (n k : Nat) : bin (n + 1) (k + 1) = bin n k + bin n (k + 1) := by rw [bin]
theorem ws_pascal {m : Nat} {o : Int} : ∀ K : Nat, 1 + ws (m + 1) o (K + 1) = o * (1 + ws m o K) + (1 + ws m o (K + 1))
  | 0 => by
    show 1 + (0 + (bin (m + 1) 1 : Int) * o ^ 1) = o * (1 + 0) + (1 + (0 + (bin m 1 : Int) * o ^ 1))
    rw [bin_s, bin_0, show ((1 + bin m 1 : Nat) : Int) = 1 + bin m 1 by omega, Int.add_mul, Int.one_mul, Int.pow_succ, Int.pow_zero, Int.one_mul]
    omega
  | K + 1 => by
    have ih := ws_pascal (m := m) (o := o) K
    have e1 : ws (m + 1) o (K + 1 + 1) = ws (m + 1) o (K + 1) + (bin (m + 1) (K + 1 + 1) : Int) * o ^ (K + 1 + 1) := rfl
    have e2 : ws m o (K + 1 + 1) = ws m o (K + 1) + (bin m (K + 1 + 1) : Int) * o ^ (K + 1 + 1) := rfl
    have e3 : ws m o (K + 1) = ws m o K + (bin m (K + 1) : Int) * o ^ (K + 1) := rfl
    have e4 : (bin (m + 1) (K + 1 + 1) : Int) * o ^ (K + 1 + 1) = (bin m (K + 1) : Int) * o ^ (K + 1 + 1) + (bin m (K + 1 + 1) : Int) * o ^ (K + 1 + 1) := by
      rw [bin_s, show ((bin m (K + 1) + bin m (K + 1 + 1) : Nat) : Int) = (bin m (K + 1) : Int) + bin m (K + 1 + 1) by omega, Int.add_mul]
    have e5 : o * (1 + ws m o (K + 1)) = o * (1 + ws m o K) + (bin m (K + 1) : Int) * o ^ (K + 1 + 1) := by
      rw [e3, ← Int.add_assoc, Int.mul_add, ← Int.mul_assoc, Int.mul_comm o (bin m (K + 1) : Int), Int.mul_assoc, Int.pow_succ o (K + 1), Int.mul_comm o (o ^ (K + 1))]
    rw [e1, e2, e4, e5]
    omega
theorem ws_full {o : Int} : ∀ m : Nat, 1 + ws m o m = (o + 1) ^ m
  | 0 => by rw [Int.pow_zero]; rfl
  | m + 1 => by
    have e : ws m o (m + 1) = ws m o m := by
      show ws m o m + (bin m (m + 1) : Int) * o ^ (m + 1) = _
      rw [bin_zero (Nat.lt_succ_self m)]
      simp
    rw [ws_pascal, e, ws_full m, Int.pow_succ, Int.mul_comm o, Int.mul_add, Int.mul_one]
section
variable {d m k f : Nat} {q : Int}
def rN (d m k : Nat) : Nat := d * m + d * k
theorem rowI_eq : rowI d m k = (rN d m k : Int) := by
  unfold rowI rN
  rw [Int.mul_add]
  simp
def big (d m k : Nat) (q : Int) (T : Nat) : Prop := 2 * ((rN d m k + T - 1 : Nat) : Int) * q ^ (rN d m k + T - 1 - 1) < q ^ (d * m) * ws m (q ^ d - 1) k
theorem W_gt (h : Sz d m k q) (hq : ¬ q ^ d ≤ k * (bin m k : Int)) : ((bin m k : Int) - 1) * q ^ rN d m k < q ^ (d * m) * ws m (q ^ d - 1) k := by
  have hQ := h.Qp
  have := h.q1
  have p : 0 < q ^ (d * m) := Int.pow_pos (by omega)
  have b := bern2 hQ (L := bin m k) (by omega) (k := k) (by rw [Int.mul_comm]; omega)
  have g := ws_ge (m := m) (o := q ^ d - 1) (by omega) h.k1
  have e : ((bin m k : Int) - 1) * q ^ rN d m k = q ^ (d * m) * (((bin m k : Int) - 1) * (q ^ d) ^ k) := by
    unfold rN
    rw [Int.pow_add, (show q ^ (d * k) = (q ^ d) ^ k from Int.pow_mul), ← Int.mul_assoc, Int.mul_comm (_ - 1), Int.mul_assoc]
  rw [e]
  exact Int.mul_lt_mul_of_pos_left (by omega) p
theorem rN_pos (h : Sz d m k q) : 2 ≤ rN d m k := by
  have := h.k1; have := h.k2; have := h.d1
  have a : 1 * 1 ≤ d * m := Nat.mul_le_mul (by omega) (by omega)
  have b : 1 * 1 ≤ d * k := Nat.mul_le_mul (by omega) (by omega)
  unfold rN
  omega
theorem heads_big (h : Sz d m k q) {s : Nat} (hs : isS (rowI d m k) (bin m k) q s) (hp : 0 < hnF d m k f q s) : ∃ T : Nat, 1 ≤ T ∧ T ≤ 25 ∧ hnF d m k f q s = spr T d f ∧ big d m k q T := by
  have hb := lots_bn h
  have hr := row_bn h
  have hrn := rN_pos h
  have := h.d1; have := h.q1; have := h.k1; have := h.k2
  have s1 : spr ((1 : Nat) : Int) d f = f + 1 := by
    unfold spr
    rw [show ((1 : Nat) : Int) + d - 1 = d by omega, Int.ediv_self (by omega)]
    omega
  unfold hnF at hp ⊢
  by_cases c1 : (bin m k : Int) = 1
  · rw [if_pos c1] at hp ⊢
    by_cases c2 : 2 * rowI d m k < q ∧ 7 ≤ q
    · rw [if_pos c2]
      refine ⟨1, Nat.le_refl _, by omega, s1.symm, ?_⟩
      obtain rfl : k = m := hb.2.2.mp c1
      rw [rowI_eq] at c2
      unfold big
      have e0 : ws k (q ^ d - 1) k = q ^ (d * k) - 1 := by
        have := ws_full (o := q ^ d - 1) k
        rw [Int.sub_add_cancel, ← Int.pow_mul] at this
        omega
      have hdk : 1 * 1 ≤ d * k := Nat.mul_le_mul (by omega) (by omega)
      obtain ⟨y, hy⟩ : ∃ y, d * k = y + 1 := ⟨d * k - 1, by omega⟩
      have hrN : rN d k k = y + 1 + (y + 1) := by unfold rN; rw [hy]
      rw [e0, hrN, hy, show y + 1 + (y + 1) + 1 - 1 - 1 = (y + 1) + y by omega, show y + 1 + (y + 1) + 1 - 1 = y + 1 + (y + 1) by omega, Int.pow_add]
      rw [hrN] at c2
      have p : 0 < q ^ (y + 1) := Int.pow_pos (by omega)
      have p2 : 0 < q ^ y := Int.pow_pos (by omega)
      have e1 : 2 * ((y + 1 + (y + 1) : Nat) : Int) * (q ^ (y + 1) * q ^ y) = q ^ (y + 1) * (2 * ((y + 1 + (y + 1) : Nat) : Int) * q ^ y) := by
        rw [← Int.mul_assoc, Int.mul_comm (2 * _), Int.mul_assoc]
      rw [e1]
      refine Int.mul_lt_mul_of_pos_left ?_ p
      rw [Int.pow_succ, Int.mul_comm (q ^ y)]
      have e2 : (2 * ((y + 1 + (y + 1) : Nat) : Int) + 1) * q ^ y ≤ q * q ^ y := Int.mul_le_mul_of_nonneg_right (by omega) (by omega)
      rw [Int.add_mul, Int.one_mul] at e2
      cases y with
      | zero =>
        rw [Int.pow_zero] at *
        omega
      | succ y =>
        have p3 : 0 < q ^ y := Int.pow_pos (by omega)
        have : q ^ y * 7 ≤ q ^ y * q := Int.mul_le_mul_of_nonneg_left c2.2 (by omega)
        rw [← Int.pow_succ, Nat.succ_eq_add_one] at this
        omega
    · rw [if_neg c2] at hp; omega
  · rw [if_neg c1] at hp ⊢
    by_cases c2 : q ^ d ≤ k * (bin m k : Int)
    · rw [if_pos c2] at hp; omega
    · rw [if_neg c2] at hp ⊢
      have W := W_gt h c2
      have p : 0 < q ^ rN d m k := Int.pow_pos (by omega)
      by_cases c3 : 0 < s
      · rw [if_pos c3]
        have s22 := cnd_small hr.1 h.q1 hb.2.1 (hs.2 (s - 1) (by omega))
        refine ⟨s + 1, by omega, by omega, rfl, ?_⟩
        have c := hs.2 (s - 1) (by omega)
        unfold cnd at c
        unfold big
        rw [show rN d m k + (s + 1) - 1 - 1 = (s - 1) + rN d m k by omega, Int.pow_add, ← Int.mul_assoc]
        rw [rowI_eq] at c
        rw [show 2 * ((rN d m k + (s + 1) - 1 : Nat) : Int) = 2 * ((rN d m k : Int) + ((s - 1 : Nat) : Int) + 1) by omega]
        have := Int.mul_le_mul_of_nonneg_right (show 2 * ((rN d m k : Int) + ((s - 1 : Nat) : Int) + 1) * q ^ (s - 1) ≤ (bin m k : Int) - 1 by omega) (show 0 ≤ q ^ rN d m k by omega)
        omega
      · rw [if_neg c3] at hp ⊢
        by_cases c4 : 2 * rowI d m k ≤ ((bin m k : Int) - 1) * q
        · rw [if_pos c4]
          refine ⟨1, Nat.le_refl _, by omega, s1.symm, ?_⟩
          unfold big
          rw [rowI_eq] at c4
          obtain ⟨y, hy⟩ : ∃ y, rN d m k = y + 1 := ⟨rN d m k - 1, by omega⟩
          have p2 : 0 < q ^ y := Int.pow_pos (by omega)
          have := Int.mul_le_mul_of_nonneg_right c4 (show 0 ≤ q ^ y by omega)
          rw [Int.mul_assoc (_ - 1), Int.mul_comm q, ← Int.pow_succ, Nat.succ_eq_add_one, ← hy] at this
          rw [show rN d m k + 1 - 1 - 1 = y by omega, show rN d m k + 1 - 1 = rN d m k by omega]
          omega
        · rw [if_neg c4] at hp; omega
theorem big_all (h : Sz d m k q) {T : Nat} (hT : 1 ≤ T) (g : big d m k q T) {b : Int} (b1 : 1 ≤ b) (b2 : b ≤ rowI d m k + T - 1) : ¬ (q ^ (d * m) * ws m (q ^ d - 1) k ≤ 2 * b * q ^ (b - 1).toNat) := by
  have hrn := rN_pos h
  have := h.q1
  unfold big at g
  rw [rowI_eq] at b2
  obtain ⟨j, hj⟩ : ∃ j, rN d m k + T - 1 - 1 = (b - 1).toNat + j := ⟨rN d m k + T - 1 - 1 - (b - 1).toNat, by omega⟩
  rw [hj, Int.pow_add] at g
  have p1 : 0 < q ^ (b - 1).toNat := Int.pow_pos (by omega)
  have p2 : 0 < q ^ j := Int.pow_pos (by omega)
  have a1 : q ^ (b - 1).toNat * 1 ≤ q ^ (b - 1).toNat * q ^ j := Int.mul_le_mul_of_nonneg_left (by omega) (by omega)
  rw [Int.mul_one] at a1
  have a2 : 2 * b * q ^ (b - 1).toNat ≤ 2 * ((rN d m k + T - 1 : Nat) : Int) * (q ^ (b - 1).toNat * q ^ j) := Int.mul_le_mul (by omega) a1 (by omega) (by omega)
  omega
end
end L68

namespace L68
open PySem L2 Mir
/-! the bound is kept by what is enough -/
theorem tab_mul : (List.range 25).all (fun m => (List.range (m + 1)).all fun k => (List.range (k + 1)).all fun i => decide (bin m i ≤ bin m k * bin k i)) = true := by decide +kernel
theorem bin_mul {m k i : Nat} (hm : m ≤ 24) (hk : k ≤ m) (hi : i ≤ k) : bin m i ≤ bin m k * bin k i := by
  have h := tab_mul
  rw [List.all_eq_true] at h
  have h1 := h m (List.mem_range.mpr (by omega))
  rw [List.all_eq_true] at h1
  have h2 := h1 k (List.mem_range.mpr (by omega))
  rw [List.all_eq_true] at h2
  exact of_decide_eq_true (h2 i (List.mem_range.mpr (by omega)))
theorem ws_mul {m k : Nat} {o : Int} (hm : m ≤ 24) (hk : k ≤ m) (ho : 0 ≤ o) : ∀ i, i ≤ k → ws m o i ≤ (bin m k : Int) * ws k o i
  | 0, _ => by
    show (0 : Int) ≤ (bin m k : Int) * 0
    omega
  | i + 1, h => by
    have ih := ws_mul (o := o) hm hk ho i (by omega)
    have b := bin_mul hm hk h
    have p : 0 ≤ o ^ (i + 1) := Int.pow_nonneg ho
    have e : ((bin m k * bin k (i + 1) : Nat) : Int) = (bin m k : Int) * bin k (i + 1) := by simp
    have c : (bin m (i + 1) : Int) * o ^ (i + 1) ≤ (bin m k : Int) * bin k (i + 1) * o ^ (i + 1) := Int.mul_le_mul_of_nonneg_right (by omega) p
    show ws m o i + (bin m (i + 1) : Int) * o ^ (i + 1) ≤ (bin m k : Int) * (ws k o i + (bin k (i + 1) : Int) * o ^ (i + 1))
    rw [Int.mul_add, ← Int.mul_assoc]
    omega
section
variable {d m k f : Nat} {q : Int}
theorem W_le (h : Sz d m k q) : ws m (q ^ d - 1) k ≤ (bin m k : Int) * q ^ (d * k) := by
  have hQ := h.Qp
  have w := ws_mul (o := q ^ d - 1) h.m2 h.k2 (by omega) k (Nat.le_refl _)
  have e := ws_full (o := q ^ d - 1) k
  rw [Int.sub_add_cancel, ← Int.pow_mul] at e
  have b := lots_bn h
  have e2 : ws k (q ^ d - 1) k = q ^ (d * k) - 1 := by omega
  rw [e2, Int.mul_sub, Int.mul_one] at w
  omega
/-- with symbols enough to name the lots, the bound is kept -/
theorem kept (h : Sz d m k q) {j : Nat} (hj : (bin m k : Int) ≤ q ^ j) : q ^ (d * m) * ws m (q ^ d - 1) k ≤ 2 * (rowI d m k + j + 1) * q ^ (rowI d m k + j + 1 - 1).toNat := by
  have hq := h.q1
  have hr := row_bn h
  have W := W_le h
  have p : ∀ n : Nat, 0 < q ^ n := fun n => Int.pow_pos (by omega)
  have e : (rowI d m k + j + 1 - 1).toNat = d * m + (d * k + j) := by rw [rowI_eq]; unfold rN; omega
  rw [e, Int.pow_add]
  have a1 : (bin m k : Int) * q ^ (d * k) ≤ q ^ j * q ^ (d * k) := Int.mul_le_mul_of_nonneg_right hj (by have := p (d * k); omega)
  have a2 : q ^ (d * m) * ws m (q ^ d - 1) k ≤ q ^ (d * m) * (q ^ j * q ^ (d * k)) := Int.mul_le_mul_of_nonneg_left (by omega) (by have := p (d * m); omega)
  have e3 : q ^ j * q ^ (d * k) = q ^ (d * k + j) := by rw [Int.mul_comm, ← Int.pow_add]
  rw [e3] at a2
  have a3 : 1 * (q ^ (d * m) * q ^ (d * k + j)) ≤ 2 * (rowI d m k + j + 1) * (q ^ (d * m) * q ^ (d * k + j)) := Int.mul_le_mul_of_nonneg_right (by omega) (by have := Int.mul_pos (p (d * m)) (p (d * k + j)); omega)
  omega
/-- the rule of heads is strictly increasing -/
theorem spr_lt (hd : 1 ≤ d) {s t : Nat} (h : s < t) : spr s d f < spr t d f := by
  unfold spr
  have a := Int.ediv_le_ediv (show (0 : Int) < d by omega) (show (s : Int) + d - 1 ≤ t + d - 1 by omega)
  have b := Int.mul_le_mul_of_nonneg_left a (show (0 : Int) ≤ f by omega)
  omega
theorem spr_inj (hd : 1 ≤ d) {s t : Nat} (h : spr s d f = spr t d f) : s = t := by
  rcases Nat.lt_trichotomy s t with q | q | q
  · have := spr_lt (f := f) hd q; omega
  · exact q
  · have := spr_lt (f := f) hd q; omega
/-- where the least is met, one block fewer is not allowed -/
theorem met (h : Sz d m k q) {s j : Nat} {n : Int} (hs : isS (rowI d m k) (bin m k) q s) (hm : ansF n d m k f q s = some (n * ((m : Int) + k) + spr ((j + 1 : Nat) : Int) d f)) : ¬ (q ^ (d * m) * ws m (q ^ d - 1) k ≤ 2 * (rowI d m k + j) * q ^ (rowI d m k + j - 1).toNat) := by
  have hr := row_bn h
  have hrn := rN_pos h
  unfold ansF at hm
  by_cases c : 0 < hnF d m k f q s
  · rw [if_pos c] at hm
    obtain ⟨T, T1, _, hT, hb⟩ := heads_big h hs c
    have e : hnF d m k f q s = spr ((j + 1 : Nat) : Int) d f := by
      have := Option.some.inj hm
      omega
    have : T = j + 1 := spr_inj h.d1 (by rw [← hT, e])
    subst this
    exact big_all h T1 hb (by rw [rowI_eq]; omega) (by omega)
  · rw [if_neg c] at hm
    cases hm
end
end L68

namespace L68
open PySem L2 Mir
/-! heads dealt to the disks -/
theorem dealt {d f S q0 r c : Int} (h1 : 1 ≤ d) (h2 : 0 ≤ f) (hr : 0 ≤ r) (hr2 : r < d + f) (hc : c = (S + d - 1) / d) (hH : S + f * c = (d + f) * q0 + r) : d * q0 + (if r ≤ f then 0 else r - f) = S := by
  have d1 := Int.mul_ediv_add_emod (S + d - 1) d
  have d2 := Int.emod_nonneg (S + d - 1) (show d ≠ 0 by omega)
  have d3 := Int.emod_lt_of_pos (S + d - 1) (show 0 < d by omega)
  rw [← hc] at d1
  rw [Int.add_mul] at hH
  by_cases hq : c ≤ q0
  · have m1 := Int.mul_le_mul_of_nonneg_left hq h2
    have m2 := Int.mul_le_mul_of_nonneg_left hq (show 0 ≤ d by omega)
    rw [if_pos (by omega)]
    omega
  · by_cases h3 : q0 + 2 ≤ c
    · have m1 := Int.mul_le_mul_of_nonneg_left h3 h2
      have m2 := Int.mul_le_mul_of_nonneg_left h3 (show 0 ≤ d by omega)
      rw [Int.mul_add] at m1 m2
      omega
    · obtain rfl : c = q0 + 1 := by omega
      rw [Int.mul_add, Int.mul_one] at hH d1
      rw [if_neg (by omega)]
      omega
def rr (n : Nat) (q : Int) (r : Nat) : List Int := List.replicate r (q + 1) ++ List.replicate (n - r) q
theorem rr_sum {n : Nat} {q : Int} {r : Nat} (h : r ≤ n) : (rr n q r).sum = n * q + r := by
  unfold rr
  rw [List.sum_append, sum_rep, sum_rep, Int.mul_add, Int.mul_one]
  have : ((n - r : Nat) : Int) = (n : Int) - r := by omega
  rw [this, Int.sub_mul]
  omega
theorem rr_srt {n : Nat} {q : Int} {r : Nat} : srt (rr n q r) = List.replicate (n - r) q ++ List.replicate r (q + 1) := by
  refine (srt_eq List.perm_append_comm ?_).symm
  refine List.pairwise_append.mpr ⟨?_, ?_, ?_⟩
  · exact List.pairwise_replicate.mpr (.inr (Int.le_refl _))
  · exact List.pairwise_replicate.mpr (.inr (Int.le_refl _))
  · intro a ha b hb
    rw [List.eq_of_mem_replicate ha, List.eq_of_mem_replicate hb]
    omega
theorem cut_to {xs : List Int} {k : Int} (h0 : 0 ≤ k) : cutL xs none (some k) = xs.take k.toNat := by
  unfold cutL
  have e0 : HT.sIx xs.length 0 none = 0 := rfl
  have e1 : HT.sIx xs.length xs.length (some k) = min k.toNat xs.length := if_neg (by omega)
  rw [e0, List.drop_zero, Nat.sub_zero, e1]
  by_cases c : k.toNat ≤ xs.length
  · rw [Nat.min_eq_left c]
  · rw [Nat.min_eq_right (by omega), List.take_of_length_le (Nat.le_refl _), List.take_of_length_le (by omega)]
theorem rr_cut {n : Nat} {q k : Int} {r : Nat} (h : r ≤ n) (h0 : 0 ≤ k) (h1 : k ≤ n) : (cutL (srt (rr n q r)) none (some k)).sum = k * q + (if k ≤ (n : Int) - r then 0 else k - (n - r)) := by
  rw [cut_to h0, rr_srt, List.take_append, List.take_replicate, List.take_replicate, List.sum_append, sum_rep, sum_rep, List.length_replicate]
  by_cases c : k ≤ (n : Int) - r
  · rw [if_pos c, show min k.toNat (n - r) = k.toNat by omega, show min (k.toNat - (n - r)) r = 0 by omega, Int.toNat_of_nonneg h0]
    omega
  · rw [if_neg c, show min k.toNat (n - r) = n - r by omega, show min (k.toNat - (n - r)) r = k.toNat - (n - r) by omega]
    have e1 : ((k.toNat - (n - r) : Nat) : Int) = k - (n - r : Nat) := by omega
    rw [e1, Int.mul_add, Int.mul_one, Int.sub_mul]
    have e2 : ((n - r : Nat) : Int) = (n : Int) - r := by omega
    rw [e2]
    omega
/-- how many heads stand on a disk -/
theorem rgN_rr {n : Nat} {q0 : Int} {r : Nat} {at_ : Int} (hq : 0 ≤ q0) (hr : r < n) (h0 : 0 ≤ at_) (h1 : at_ < n) : ((rgN at_ (n * q0 + r) n : Nat) : Int) = q0 + (if at_ < r then 1 else 0) := by
  unfold rgN
  have hn : (n : Int) ≠ 0 := by omega
  by_cases c : at_ < (r : Int)
  · have hp : 0 ≤ (n : Int) * q0 := Int.mul_nonneg (by omega) hq
    have e : ((n : Int) * q0 + r - at_ - 1) / n = q0 := by
      rw [show (n : Int) * q0 + r - at_ - 1 = (r - at_ - 1) + n * q0 by omega, Int.add_mul_ediv_left _ _ hn, Int.ediv_eq_zero_of_lt (by omega) (by omega)]
      omega
    rw [if_pos c, if_pos (by omega), e]
    omega
  · rw [if_neg c]
    by_cases z : q0 = 0
    · subst z
      rw [if_neg (by omega)]
      rfl
    · have hp : (n : Int) * 1 ≤ n * q0 := Int.mul_le_mul_of_nonneg_left (by omega) (by omega)
      have e : ((n : Int) * q0 + r - at_ - 1) / n = q0 - 1 := by
        have hmul : (n : Int) * (q0 - 1) = n * q0 - n := by rw [Int.mul_sub, Int.mul_one]
        rw [show (n : Int) * q0 + r - at_ - 1 = (n + r - at_ - 1) + n * (q0 - 1) by omega, Int.add_mul_ediv_left _ _ hn, Int.ediv_eq_zero_of_lt (by omega) (by omega)]
        omega
      rw [if_pos (by omega), e]
      omega
theorem sizes_rr {n : Nat} {b q0 : Int} {r : Nat} (hq : 0 ≤ q0) (hr : r < n) : (rng 0 n).map (fun a => b + ((rgN a (n * q0 + r) n : Nat) : Int)) = rr n (b + q0) r := by
  have e : rng 0 n = rng 0 r ++ rng (0 + (r : Int)) (n - r) := by rw [← rng_add, show r + (n - r) = n by omega]
  rw [e, List.map_append]
  unfold rr
  have c1 : ∀ (a : Int) (k : Nat) (v : Int), (∀ x ∈ rng a k, b + ((rgN x (n * q0 + r) n : Nat) : Int) = v) → (rng a k).map (fun x => b + ((rgN x (n * q0 + r) n : Nat) : Int)) = List.replicate k v := fun a k v h => by
    rw [List.map_congr_left h, List.map_const', rng_len]
  have k1 := c1 0 r (b + q0 + 1) fun x hx => by
    have := mem_rng.mp hx
    rw [rgN_rr hq hr this.1 (by omega), if_pos (by omega)]
    omega
  have k2 := c1 (0 + (r : Int)) (n - r) (b + q0) fun x hx => by
    have := mem_rng.mp hx
    rw [rgN_rr hq hr (by omega) (by omega), if_neg (by omega)]
    omega
  rw [k1, k2]
/-- sizes: all, the least of them -/
theorem sizes_all {d f S : Nat} {b H : Int} (hd : 1 ≤ d) (hS : 1 ≤ S) (hH : H = spr S d f) : ((rng 0 (d + f)).map (fun a => b + ((rgN a H ((d + f : Nat) : Int) : Nat) : Int))).sum = ((d + f : Nat) : Int) * b + H ∧ (cutL (srt ((rng 0 (d + f)).map (fun a => b + ((rgN a H ((d + f : Nat) : Int) : Nat) : Int)))) none (some (d : Int))).sum = d * b + S := by
  have e1 : 0 ≤ ((S : Int) + d - 1) / d := Int.ediv_nonneg (by omega) (by omega)
  have e2 : 0 ≤ (f : Int) * (((S : Int) + d - 1) / d) := Int.mul_nonneg (by omega) e1
  have hH0 : 0 ≤ H := by rw [hH]; unfold spr; omega
  have d1 := Int.mul_ediv_add_emod H ((d + f : Nat) : Int)
  have d2 := Int.emod_nonneg H (show ((d + f : Nat) : Int) ≠ 0 by omega)
  have d3 := Int.emod_lt_of_pos H (show 0 < ((d + f : Nat) : Int) by omega)
  have d4 : 0 ≤ H / ((d + f : Nat) : Int) := Int.ediv_nonneg hH0 (by omega)
  obtain ⟨r, hr⟩ : ∃ r : Nat, H % ((d + f : Nat) : Int) = r := ⟨(H % ((d + f : Nat) : Int)).toNat, by omega⟩
  generalize H / ((d + f : Nat) : Int) = q0 at d1 d4
  rw [hr] at d1 d2 d3
  have hrn : r < d + f := by omega
  have key := dealt (d := d) (f := f) (S := S) (q0 := q0) (r := r) (c := ((S : Int) + d - 1) / d) (by omega) (by omega) (by omega) (by omega) rfl (by
    have : ((d + f : Nat) : Int) = (d : Int) + f := by omega
    rw [this] at d1
    unfold spr at hH
    omega)
  rw [← d1, sizes_rr d4 hrn]
  refine ⟨?_, ?_⟩
  · rw [rr_sum (by omega), Int.mul_add]
    omega
  · rw [rr_cut (by omega) (by omega) (by omega), Int.mul_add]
    by_cases c : (r : Int) ≤ f
    · rw [if_pos c] at key
      rw [if_pos (by omega)]
      omega
    · rw [if_neg c] at key
      rw [if_neg (by omega)]
      omega
end L68

namespace L68
open PySem L2 Mir
/-! primes, by tables -/
def okB (r : R Unit Bool) (x : Bool) : Bool := match r with
  | .ok y _ => decide (y = x)
  | .bad => false
theorem of_okB {r : R Unit Bool} {x : Bool} {Q : Bool → Unit → Prop} (h : okB r x = true) (q : Q x ()) : r.st Q := by
  cases r with
  | ok y s => cases of_decide_eq_true h; exact ⟨q⟩
  | bad => cases h
def isP (x : Nat) : Bool := decide (1 < x) && (List.range 30).all fun i => decide (x ≤ i + 2) || decide (x % (i + 2) ≠ 0)
theorem tab_p : (List.range 1000).all (fun x => okB (m_is_prime x ()) (isP x && decide (x ≤ 997))) = true := by decide +kernel
theorem tab_lp : (List.range 998).all (fun x => okB (m__law_prime x ()) (isP x)) = true := by decide +kernel
theorem prime_ok {x : Int} (h0 : 0 ≤ x) (h1 : x ≤ 997) {Q : Bool → Unit → Prop} (q : Q (isP x.toNat) ()) : (m_is_prime x ()).st Q := by
  have h := tab_p
  rw [List.all_eq_true] at h
  have h := h x.toNat (List.mem_range.mpr (by omega))
  rw [show ((x.toNat : Nat) : Int) = x by omega, decide_eq_true (show x.toNat ≤ 997 by omega), Bool.and_true] at h
  revert h
  generalize m_is_prime x () = r
  intro h
  exact of_okB h q
theorem lprime_ok {x : Int} (h0 : 0 ≤ x) (h1 : x ≤ 997) {Q : Bool → Unit → Prop} (q : Q (isP x.toNat) ()) : (m__law_prime x ()).st Q := by
  have h := tab_lp
  rw [List.all_eq_true] at h
  have h := h x.toNat (List.mem_range.mpr (by omega))
  rw [show ((x.toNat : Nat) : Int) = x by omega] at h
  revert h
  generalize m__law_prime x () = r
  intro h
  exact of_okB h q
def Pr (q : Int) : Prop := 2 ≤ q ∧ q ≤ 997 ∧ isP q.toNat = true
theorem from_ok {x : Int} (h0 : 2 ≤ x) (h1 : x ≤ 997) {Q : Int → Unit → Prop} (qq : ∀ q, Pr q → x ≤ q → Q q ()) : (m__law_prime_from x ()).st Q := by
  unfold m__law_prime_from
  simp only [st_mb, st_mp, st_mc, st_mi, st_mo]
  generalize hb : (if (x + (24 : Int)) < (998 : Int) then (x + (24 : Int)) else (998 : Int)) = b
  have hb1 : x < b ∧ b ≤ 998 := by subst hb; split <;> omega
  refine ⟨Bool.and_eq_true _ _ |>.mpr ⟨b62_of (by omega) (by omega), b62_of (by omega) (by omega)⟩, ?_⟩
  refine st_cmP (p := fun y => isP y.toNat) (g := fun y => y) (by rw [rng_len]; omega) (fun y hy => ?_) (fun y hy _ => st_mp.mpr ⟨rfl, rfl⟩) ?_
  · have := mem_rng.mp hy
    rw [st_mu]
    exact lprime_ok (by omega) (by omega) ⟨rfl, rfl⟩
  · rw [List.map_id']
    generalize hf : (rng x (b - x).toNat).filter (fun y => isP y.toNat) = f
    refine ⟨fun c => ?_, fun _ => qq 997 ⟨by decide, by decide, by decide +kernel⟩ h1⟩
    cases f with
    | nil => exact absurd c (by decide)
    | cons a t =>
      have ha : a ∈ (rng x (b - x).toNat).filter (fun y => isP y.toNat) := by rw [hf]; exact List.mem_cons_self ..
      rw [List.mem_filter] at ha
      have hr := mem_rng.mp ha.1
      exact ⟨a, by rw [atI_get' (by decide) (by rw [List.length_cons]; omega)]; rfl, qq a ⟨by omega, by omega, ha.2⟩ hr.1⟩
/-! telling -/
theorem spread_ok {t d f : Int} (hd : divOk d = true) (hm : mulOk f ((t + d - 1) / d) = true) {Q : Int → Unit → Prop} (q : Q (spr t d f) ()) : (m_spread t d f ()).st Q := by
  unfold m_spread
  simp only [st_mb, st_mp, st_mc]
  exact ⟨hd, hm, q⟩
def pb (q : Nat) : Nat := (((List.range q).filter isP).getLast?).getD 0
def below (q : Nat) : List Int := (rng (if (q : Int) - 24 > 2 then (q : Int) - 24 else 2) (q - (if (q : Int) - 24 > 2 then (q : Int) - 24 else 2)).toNat).filter fun y => isP y.toNat
def qs : List Nat := [3, 5, 7, 11, 13, 17, 29, 61, 101, 499, 997, 223, 373, 599]
theorem tab_pb : qs.all (fun q => okI (m_prime_below q ()) (pb q) && decide (2 ≤ pb q) && decide (pb q ≤ 997)) = true := by decide +kernel
theorem tab_below : qs.all (fun q => decide ((below q).getLast? = some (pb q : Int))) = true := by decide +kernel
theorem pb_facts {q : Nat} (h : q ∈ qs) : okI (m_prime_below q ()) (pb q) = true ∧ 2 ≤ pb q ∧ pb q ≤ 997 := by
  have t := tab_pb
  rw [List.all_eq_true] at t
  have t := t q h
  rw [Bool.and_eq_true, Bool.and_eq_true] at t
  exact ⟨t.1.1, of_decide_eq_true t.1.2, of_decide_eq_true t.2⟩
theorem pb_ok {q : Nat} (h : q ∈ qs) {Q : Int → Unit → Prop} (k : Q (pb q) ()) : (m_prime_below q ()).st Q := by
  have t := (pb_facts h).1
  revert t
  generalize m_prime_below q () = r
  intro t
  exact of_okI t k
/-- what telling answers -/
theorem tell_big {lots d f : Int} {q j : Nat} (hq : q ∈ qs) (hl : ¬ lots < q) (h1 : ¬ lots = 1) (hb : lots < 2 ^ 22) (hj : 2 ≤ j) (hle : lots ≤ (pb q : Int) ^ j) (hlt : ∀ i, 2 ≤ i → i < j → (pb q : Int) ^ i < lots)
    (hd : divOk d = true) (hm : mulOk f ((((j + 1 : Nat) : Int) + d - 1) / d) = true) (hs : spr ((j + 1 : Nat) : Int) d f ≤ pb q) {Q : Option (Int × Option Int) → Unit → Prop} (k : Q (some (j, some (pb q : Int))) ()) : (m_telling lots q d f ()).st Q := by
  obtain ⟨-, p1, p2⟩ := pb_facts hq
  have pB : Bn 10 (pb q : Int) := Bn.small (by omega) (by omega)
  have j22 : j ≤ 23 := by
    by_cases c : j ≤ 23
    · exact c
    · have := hlt 23 (by decide) (by omega)
      have := two_pow_le (show (2 : Int) ≤ pb q by omega) 23
      omega
  have sq : ∀ i : Nat, 2 ≤ i → i ≤ 24 → mulOk ((pb q : Int) ^ i) (pb q) = true := fun i _ hi => ((pB.pow i).mono (show 10 * i + 1 ≤ 400 by omega)).ok pB (by decide) (by decide) (by decide)
  unfold m_telling
  simp only [st_mb, st_mp, st_mc, st_mi, st_mu]
  refine ⟨fun c => absurd (of_decide_eq_true c) h1, fun _ => ⟨fun c => absurd (of_decide_eq_true c) hl, fun _ => ⟨fun c => ?_, fun _ => ?_⟩⟩⟩
  · have c := of_decide_eq_true c
    have : q ≠ 2 := by rintro rfl; exact absurd hq (by decide)
    omega
  · refine pb_ok hq ?_
    refine ⟨pB.ok pB (by decide) (by decide) (by decide), ?_⟩
    refine st_whP (Inv := fun n t _ => ∃ s : Nat, n + s = 65 ∧ 2 ≤ s ∧ s ≤ j ∧ t = ((s : Int), (pb q : Int) ^ s)) ?_ ⟨2, rfl, Nat.le_refl _, hj, by rw [show (2 : Nat) = 1 + 1 by rfl, Int.pow_succ, Int.pow_succ, Int.pow_zero, Int.one_mul]; rfl⟩
    rintro n t _ ⟨s, hn, s2, sj, rfl⟩
    simp only [st_mb, st_mp, st_mc, st_mi, st_mu]
    refine ⟨fun c => ?_, fun c => ?_⟩
    · have c : (pb q : Int) ^ s < lots := of_decide_eq_true c
      have : s ≠ j := by rintro rfl; omega
      refine ⟨n - 1, by omega, sq s s2 (by omega), s + 1, by omega, by omega, by omega, ?_⟩
      rw [Int.pow_succ]
      rfl
    · have c : ¬ (pb q : Int) ^ s < lots := of_decide_eq_false c
      have e : s = j := by
        by_cases e : s = j
        · exact e
        · exact absurd (hlt s s2 (by omega)) c
      subst e
      refine spread_ok hd hm ?_
      exact ⟨fun _ => k, fun g => absurd hs (of_decide_eq_false g)⟩
theorem tell_one {lots q d f : Int} (h : lots = 1) {Q : Option (Int × Option Int) → Unit → Prop} (k : Q (some (0, none)) ()) : (m_telling lots q d f ()).st Q := by
  unfold m_telling
  simp only [st_mb, st_mp, st_mi]
  exact ⟨fun _ => k, fun c => absurd h (of_decide_eq_false c)⟩
theorem tell_few {lots q d f : Int} (h : ¬ lots = 1) (h2 : lots < q) {Q : Option (Int × Option Int) → Unit → Prop} (k : Q (some (1, none)) ()) : (m_telling lots q d f ()).st Q := by
  unfold m_telling
  simp only [st_mb, st_mp, st_mi]
  exact ⟨fun c => absurd (of_decide_eq_true c) h, fun _ => ⟨fun _ => k, fun c => absurd h2 (of_decide_eq_false c)⟩⟩
end L68

namespace L68
open PySem L2 Mir
section
variable {d m k f j : Nat} {q : Int}
structure Ar (d f m k j : Nat) (a : C_Array) : Prop where
  n : a.f_disks = ((d + f : Nat) : Int)
  m : a.f_records = m
  k : a.f_changes = k
  h : a.f_heads = spr ((j + 1 : Nat) : Int) d f
def Tl (d f m k j : Nat) (q : Int) : Prop := (m_telling (bin m k) q d f ()).st fun x _ => ∃ p, x = some ((j : Int), p)
theorem array_ok (h : Sz d m k q) (hn : d + f ≤ 12) (hp : isP q.toNat = true) (hq : ((d + f : Nat) : Int) ≤ q) (hj : j ≤ 24) (t : Tl d f m k j q) {Q : C_Array → Unit → Prop} (qq : ∀ a, Ar d f m k j a → Q a ()) : (m_Array ((d + f : Nat) : Int) f m k q ()).st Q := by
  have := h.d1; have := h.d2; have := h.m2; have := h.k1; have := h.k2; have := h.q1; have := h.q2
  unfold m_Array
  simp only [st_mb, st_mp, st_mc, st_mi, st_mu]
  refine shape_ok (by omega) (by omega) (by omega) (by omega) (by omega) (by omega) (by omega) (by omega) ?_
  refine prime_ok (by omega) (by omega) ?_
  rw [hp]
  refine ⟨fun c => (nomatch c), fun _ => ⟨fun c => absurd (of_decide_eq_true c) (by omega), fun _ => ?_⟩⟩
  refine choose_ok h.m2 h.k2 ?_
  rw [show ((d + f : Nat) : Int) - f = d by omega]
  refine R.st_imp t ?_
  rintro x _ ⟨p, rfl⟩
  refine ⟨fun c => (nomatch c), fun _ => ?_⟩
  rw [st_mo]
  refine ⟨_, rfl, ?_⟩
  have b := spr_bn h (f := f) (by omega) (t := j + 1) (by omega) (by omega)
  have e : (j : Int) + 1 = ((j + 1 : Nat) : Int) := by omega
  have g := spread_ok b.2.2.1 b.2.2.2 (Q := fun x _ => Q (C_Array.mk ((d + f : Nat) : Int) f m k q d (bin m k) (j : Int) p x) ()) (qq _ ⟨rfl, rfl, rfl, rfl⟩)
  rw [← e] at g
  exact g
theorem rgN_le {a b c : Int} (h0 : 0 ≤ a) (hc : 1 ≤ c) (hb : 0 ≤ b) : ((rgN a b c : Nat) : Int) ≤ b := by
  unfold rgN
  split
  · have := Int.ediv_le_self (a := b - a - 1) c (by omega)
    have := Int.ediv_nonneg (a := b - a - 1) (b := c) (by omega) (by omega)
    omega
  · omega
theorem rgCok_of {a b c : Int} (h0 : 0 ≤ a) (h1 : a ≤ 12) (hc : 1 ≤ c) (hc2 : c ≤ 12) (hb : 0 ≤ b) (hb2 : b ≤ 300) : rgCok a b c = true := by
  have l := rgN_le h0 hc hb
  have s : Builtin.Range.small a b c = true := by
    unfold Builtin.Range.small
    rw [rgN_size (by omega)]
    simp only [Builtin.Range.rangeFitsLong, Bool.and_eq_true, Bool.or_eq_true, decide_eq_true_eq, beq_iff_eq]
    rw [if_pos (by omega)]
    simp only [Bool.and_eq_true, decide_eq_true_eq]
    omega
  unfold rgCok
  rw [s, decide_eq_true (show 0 < c by omega), decide_eq_true (show c.natAbs < 1073741824 by omega), decide_eq_true (show rgN a b c ≤ 2 ^ 24 by omega)]
  rfl
theorem rgC_len {a b c : Int} : (rgC a b c).length = rgN a b c := by
  unfold rgC
  rw [List.length_map, List.length_range]
/-- blocks on a disk -/
def blk (d f m k j : Nat) (a : Int) : Int := (m : Int) + k + ((rgN a (spr ((j + 1 : Nat) : Int) d f) ((d + f : Nat) : Int) : Nat) : Int)
theorem blocks_ok (h : Sz d m k q) (hn : d + f ≤ 12) (hj : j ≤ 24) {a : C_Array} (A : Ar d f m k j a) {at_ : Int} (h0 : 0 ≤ at_) (h1 : at_ < ((d + f : Nat) : Int)) {Q : Int → Unit → Prop} (qq : Q (blk d f m k j at_) ()) : (m_blocks_on a at_ ()).st Q := by
  have := h.d1
  have b := spr_bn h (f := f) (by omega) (t := j + 1) (by omega) (by omega)
  unfold m_blocks_on m_heads_on m_check_disk m_is_disk
  simp only [st_mb, st_mp, st_mc, st_mi, st_mu, A.n, A.m, A.k, A.h]
  refine whole_ok (by omega) (by omega) ?_
  refine ⟨fun c => (nomatch c), fun _ => ⟨rgCok_of (by omega) (by omega) (by omega) (by omega) (by omega) (by omega), ?_⟩⟩
  rw [rgC_len, show (m : Int) + ((rgN at_ (spr ((j + 1 : Nat) : Int) d f) ((d + f : Nat) : Int) : Nat) : Int) + k = blk d f m k j at_ by unfold blk; omega]
  exact qq
def szs (d f m k j : Nat) : List Int := (rng 0 (d + f)).map (blk d f m k j)
theorem all_ok (h : Sz d m k q) (hn : d + f ≤ 12) (hj : j ≤ 24) {a : C_Array} (A : Ar d f m k j a) {Q : Int → Unit → Prop} (qq : Q (szs d f m k j).sum ()) : (m_all_blocks a ()).st Q := by
  have := h.d1
  unfold m_all_blocks
  simp only [st_mb, st_mp, st_mc, st_mi, st_mu, A.n]
  rw [Int.toNat_natCast]
  refine ⟨b62_of (by omega) (by omega), ?_⟩
  refine st_cmP (p := fun _ => true) (g := blk d f m k j) (by rw [rng_len]; omega) (fun y hy => st_mp.mpr ⟨rfl, rfl⟩) (fun y hy _ => ?_) ?_
  · have := mem_rng.mp hy
    rw [st_mu]
    exact blocks_ok h hn hj A (by omega) (by omega) ⟨rfl, rfl⟩
  · rw [show (rng 0 (d + f)).filter (fun _ => true) = rng 0 (d + f) from List.filter_eq_self.mpr fun _ _ => rfl]
    exact qq
theorem enough_ok (h : Sz d m k q) (hn : d + f ≤ 12) (hp : isP q.toNat = true) (hq : ((d + f : Nat) : Int) ≤ q) (hj : j ≤ 24) (t : Tl d f m k j q) {Q : Int → Unit → Prop} (qq : Q (szs d f m k j).sum ()) : (m_enough ((d + f : Nat) : Int) f m k q ()).st Q := by
  unfold m_enough
  simp only [st_mb, st_mp, st_mu]
  exact array_ok h hn hp hq hj t fun a A => all_ok h hn hj A qq
end
end L68

namespace L68
open PySem L2 Mir
theorem tl_one {d f m k : Nat} {q : Int} (h : (bin m k : Int) = 1) : Tl d f m k 0 q := tell_one h ⟨_, rfl⟩
theorem tl_few {d f m k : Nat} {q : Int} (h : ¬ (bin m k : Int) = 1) (h2 : (bin m k : Int) < q) : Tl d f m k 1 q := tell_few h h2 ⟨_, rfl⟩
theorem below_last {q : Nat} (h : q ∈ qs) : decide (below q = []) = false ∧ atI (below q) (((below q).length : Nat) - 1) = some (pb q : Int) := by
  have t := tab_below
  rw [List.all_eq_true] at t
  have t := of_decide_eq_true (t q h)
  generalize below q = b at t
  cases b with
  | nil => cases t
  | cons a b =>
    refine ⟨decide_eq_false (fun c => by cases c), ?_⟩
    rw [atI_get' (by rw [List.length_cons]; omega) (by omega), ← t, List.getLast?_eq_getElem?]
    congr 1
    rw [List.length_cons]
    omega
theorem pw_le {a b : Int} (h0 : 0 ≤ a) (h : a ≤ b) : ∀ n : Nat, a ^ n ≤ b ^ n ∧ 0 ≤ a ^ n
  | 0 => by simp
  | n + 1 => by
    have ih := pw_le h0 h n
    rw [Int.pow_succ, Int.pow_succ]
    exact ⟨Int.mul_le_mul ih.1 h h0 (Int.le_trans ih.2 ih.1), Int.mul_nonneg ih.2 h0⟩
theorem tab_pbq : qs.all (fun q => decide (pb q ≤ q)) = true := by decide +kernel
theorem pb_le {q : Nat} (h : q ∈ qs) : pb q ≤ q := by
  have t := tab_pbq
  rw [List.all_eq_true] at t
  exact of_decide_eq_true (t q h)
def SyP (d f m k : Nat) (q : Int) (x : Option Int) : Prop := x = none ∨ ∃ j : Nat, x = some (j : Int) ∧ j ≤ 24 ∧ (bin m k : Int) ≤ q ^ j ∧ Tl d f m k j q
theorem symb_ok {d f m k q : Nat} (h : Sz d m k q) (hn : d + f ≤ 12) (hq : q = 2 ∨ q ∈ qs) {n : Int} (e : n = ((d + f : Nat) : Int)) : (m__law_symbols n f (bin m k) q ()).st fun x _ => SyP d f m k q x := by
  have lb := lots_bn h
  have := h.d1; have := h.d2; have := h.q1; have := h.q2
  unfold m__law_symbols
  simp only [st_mb, st_mp, st_mc, st_mi, st_mu]
  refine ⟨fun c => ?_, fun c => ?_⟩
  · have c := of_decide_eq_true c
    by_cases l : (bin m k : Int) = 1
    · rw [decide_eq_true l]
      exact Or.inr ⟨0, rfl, by omega, by rw [Int.pow_zero]; omega, tl_one l⟩
    · rw [decide_eq_false l]
      exact Or.inr ⟨1, rfl, by omega, by rw [show (1 : Nat) = 0 + 1 by rfl, Int.pow_succ, Int.pow_zero]; omega, tl_few l c⟩
  · have c := of_decide_eq_false c
    refine ⟨Bool.and_eq_true _ _ |>.mpr ⟨b62_of (by split <;> omega) (by split <;> omega), b62_of (by omega) (by omega)⟩, ?_⟩
    refine st_cmP (p := fun y => isP y.toNat) (g := fun y => y) (by rw [rng_len]; split <;> omega) (fun y hy => ?_) (fun y hy _ => st_mp.mpr ⟨rfl, rfl⟩) ?_
    · have := mem_rng.mp hy
      have g : 0 ≤ y ∧ y ≤ 997 := by
        revert this
        split <;> omega
      rw [st_mu]
      exact lprime_ok g.1 g.2 ⟨rfl, rfl⟩
    · rw [List.map_id']
      rw [show List.filter (fun y => isP y.toNat) (rng (if (q : Int) - 24 > 2 then (q : Int) - 24 else 2) (q - (if (q : Int) - 24 > 2 then (q : Int) - 24 else 2)).toNat) = below q from rfl]
      refine ⟨by decide, ?_⟩
      rcases hq with hq | hq
      · subst hq
        rw [show below 2 = [] from rfl]
        refine st_forC (Q := fun c s => (ctk (fun t339 => (mp ((none : (Option Int)) : (Option Int)))) (fun _ => mbad) c s).st fun x _ => SyP d f m k ((2 : Nat) : Int) x) (Inv := fun _ _ _ => True) ?_ (fun _ _ _ => st_mp.mpr (Or.inl rfl)) trivial
        intro x xs _ _ _
        simp only [st_mb, st_mp, st_mc, st_mi, st_mu]
        exact ⟨fun c => (nomatch c), fun _ => ⟨fun c => (nomatch c), fun _ => trivial⟩⟩
      · obtain ⟨b1, b2⟩ := below_last hq
        obtain ⟨-, p1, p2⟩ := pb_facts hq
        refine st_forC (Q := fun c s => (ctk (fun t339 => (mp ((none : (Option Int)) : (Option Int)))) (fun _ => mbad) c s).st fun x _ => SyP d f m k q x) (Inv := fun xs _ _ => ∃ j : Nat, 2 ≤ j ∧ j + xs.length = 16 ∧ xs = rng (j : Int) xs.length ∧ ∀ i, 2 ≤ i → i < j → (pb q : Int) ^ i < bin m k) ?_ (fun _ _ _ => st_mp.mpr (Or.inl rfl)) ⟨2, by decide, rfl, rfl, fun i a b => by omega⟩
        rintro x xs _ _ ⟨j, j2, jl, hx, hI⟩
        rw [List.length_cons] at jl hx
        rw [rng_succ] at hx
        injection hx with hx1 hx2
        subst hx1
        simp only [st_mb, st_mp, st_mc, st_mi, st_mu, st_mo, b1]
        have sb := spr_bn h (f := f) (by omega) (t := j + 1) (by omega) (by omega)
        have e1 : (j : Int) + n - f = ((j + 1 : Nat) : Int) + d - 1 := by omega
        refine ⟨fun _ => ⟨_, b2, lpower_ok (by omega) (by omega) (by omega) ?_⟩, fun c => (nomatch c)⟩
        rw [Int.toNat_natCast]
        refine ⟨fun c2 => ⟨_, b2, ?_⟩, fun c2 => ⟨j + 1, by omega, by omega, hx2, fun i h2 h3 => ?_⟩⟩
        · have c2 := of_decide_eq_true c2
          rw [e1, show n - f = (d : Int) by omega]
          refine ⟨sb.2.2.1, sb.2.2.2, fun c3 => ?_, fun c3 => st_mp.mpr (Or.inl rfl)⟩
          have c3 := of_decide_eq_true c3
          have s3 : spr ((j + 1 : Nat) : Int) d f ≤ pb q := by unfold spr; omega
          refine st_mp.mpr (Or.inr ⟨j, rfl, by omega, ?_, ?_⟩)
          · exact Int.le_trans c2 (pw_le (by omega) (by have := pb_le hq; omega) j).1
          · by_cases l1 : (bin m k : Int) = 1
            · omega
            · exact tell_big hq c l1 lb.2.1 j2 c2 hI sb.2.2.1 sb.2.2.2 s3 ⟨_, rfl⟩
        · have c2 : ¬ (bin m k : Int) ≤ (pb q : Int) ^ j := of_decide_eq_false c2
          by_cases g : i = j
          · rw [g]; omega
          · exact hI i h2 (by omega)
end L68

namespace L68
open PySem L2 Mir
theorem Gd.mono' {n m : Int} {b : Box} (h : Gd n b) (l : n ≤ m) : Gd m b := ⟨h.1, h.2.1, h.2.2.1, h.2.2.2.1, Int.le_trans h.2.2.2.2 l⟩
structure Wo (d f m k j : Nat) (q : Int) : Prop where
  sz : Sz d m k q
  n : d + f ≤ 12
  pr : isP q.toNat = true
  nq : ((d + f : Nat) : Int) ≤ q
  j24 : j ≤ 24
  l : (bin m k : Int) ≤ q ^ j
  t : Tl d f m k j q
def WL (d f m k j : Nat) (q : Int) : List Int := [((d + f : Nat) : Int), f, m, k, q, j]
def Wd (w : List Int) : Prop := ∃ (d f m k j : Nat) (q : Int), w = WL d f m k j q ∧ Wo d f m k j q
theorem mkW {n f' m' k' q j' : Int} (d f m k j : Nat) (h : Wo d f m k j q) (e1 : n = ((d + f : Nat) : Int)) (e2 : f' = f) (e3 : m' = m) (e4 : k' = k) (e5 : j' = j) : Wd [n, f', m', k', q, j'] :=
  ⟨d, f, m, k, j, q, by rw [e1, e2, e3, e4, e5]; rfl, h⟩
theorem w_one {d f m : Nat} {q : Int} (d1 : 1 ≤ d) (dn : d + f ≤ 12) (m1 : 1 ≤ m) (m2 : m ≤ 24) (hp : Pr q) (hq : ((d + f : Nat) : Int) ≤ q) : Wo d f m m 0 q := by
  have S : Sz d m m q := ⟨d1, by omega, m2, m1, Nat.le_refl _, hp.1, hp.2.1⟩
  have l := (lots_bn S).2.2.mpr rfl
  exact ⟨S, dn, hp.2.2, hq, by omega, by rw [Int.pow_zero]; omega, tl_one l⟩
theorem w_few {d f m k : Nat} {q : Int} (d1 : 1 ≤ d) (dn : d + f ≤ 12) (k1 : 1 ≤ k) (km : k < m) (m2 : m ≤ 24) (hp : Pr q) (hq : ((d + f : Nat) : Int) ≤ q) (hl : (bin m k : Int) < q) : Wo d f m k 1 q := by
  have S : Sz d m k q := ⟨d1, by omega, m2, k1, by omega, hp.1, hp.2.1⟩
  have l := (lots_bn S).2.2
  exact ⟨S, dn, hp.2.2, hq, by omega, by rw [show (1 : Nat) = 0 + 1 by rfl, Int.pow_succ, Int.pow_zero]; omega, tl_few (by omega) hl⟩
theorem w_two {d f k q : Nat} (d1 : 3 ≤ d) (dn : d + f ≤ 12) (k1 : 1 ≤ k) (km : k < 24) (hp : Pr q) (hq : q ∈ qs) (q12 : 100 ≤ pb q) (hl : (bin 24 k : Int) ≤ (pb q : Int) ^ 2) (hl2 : ¬ (bin 24 k : Int) < q) : Wo d f 24 k 2 q := by
  have S : Sz d 24 k q := ⟨by omega, by omega, by decide, k1, by omega, hp.1, hp.2.1⟩
  have l := (lots_bn S).2.2
  have pl := pb_le hq
  have b := spr_bn S (f := f) (by omega) (t := 3) (by omega) (by omega)
  refine ⟨S, dn, hp.2.2, by omega, by omega, Int.le_trans hl (pw_le (by omega) (by omega) 2).1, tell_big hq hl2 (by omega) (lots_bn S).2.1 (by decide) hl (fun i _ _ => by omega) b.2.2.1 b.2.2.2 ?_ ⟨_, rfl⟩⟩
  have e1 : 0 ≤ (((3 : Nat) : Int) + d - 1) / d := Int.ediv_nonneg (by omega) (by omega)
  have e2 : (((3 : Nat) : Int) + d - 1) / d < 4 := Int.ediv_lt_of_lt_mul (by omega) (by omega)
  have e3 : (f : Int) * ((((3 : Nat) : Int) + d - 1) / d) ≤ 11 * 4 := Int.mul_le_mul (by omega) (by omega) e1 (by omega)
  unfold spr
  show ((3 : Nat) : Int) + f * ((((3 : Nat) : Int) + d - 1) / d) ≤ pb q
  omega
def menu : List (Int × Int) := [((24 : Int), (2 : Int)), ((20 : Int), (2 : Int)), ((18 : Int), (3 : Int)), ((17 : Int), (3 : Int)), ((13 : Int), (4 : Int)), ((12 : Int), (5 : Int)), ((10 : Int), (5 : Int)), ((11 : Int), (4 : Int)), ((12 : Int), (4 : Int)), ((9 : Int), (4 : Int)), ((24 : Int), (22 : Int)), ((24 : Int), (1 : Int))]
theorem menu_all : menu.all (fun p => decide (1 ≤ p.2 ∧ p.2 < p.1 ∧ p.1 ≤ 24 ∧ bin p.1.toNat p.2.toNat ≤ 816)) = true := by decide +kernel
theorem menu_ok {p : Int × Int} (h : p ∈ menu) : 1 ≤ p.2 ∧ p.2 < p.1 ∧ p.1 ≤ 24 ∧ bin p.1.toNat p.2.toNat ≤ 816 := by
  have t := menu_all
  rw [List.all_eq_true] at t
  exact of_decide_eq_true (t p h)
def somes : List Int := [(2 : Int), (3 : Int), (5 : Int), (7 : Int), (11 : Int), (13 : Int), (17 : Int), (29 : Int), (61 : Int), (101 : Int), (499 : Int), (997 : Int)]
theorem somes_all : somes.all (fun p => decide (2 ≤ p ∧ p ≤ 997 ∧ isP p.toNat = true ∧ (p.toNat = 2 ∨ p.toNat ∈ qs))) = true := by decide +kernel
theorem somes_ok {p : Int} (h : p ∈ somes) : Pr p ∧ (p.toNat = 2 ∨ p.toNat ∈ qs) := by
  have t := somes_all
  rw [List.all_eq_true] at t
  have := of_decide_eq_true (t p h)
  exact ⟨⟨this.1, this.2.1, this.2.2.1⟩, this.2.2.2⟩
theorem mx3_le {a b c t : Int} (h1 : a ≤ t) (h2 : b ≤ t) (h3 : c ≤ t) : a ≤ mx3 a b c ∧ b ≤ mx3 a b c ∧ mx3 a b c ≤ t := by
  unfold mx3
  split <;> split at * <;> omega
theorem world_ok {N : Int} {b : Box} (hb : Gd N b) (hN : N ≤ 700000) : (m__law_world b).st fun w b' => Wd w ∧ Gd (N + 20) b' := by
  unfold m__law_world
  simp only [st_mb, st_mp, st_mi, st_mu, st_mo, st_mc]
  refine take_b hb (by omega) (by decide) (by decide) fun way b1 l1 u1 g1 => ?_
  refine take_b g1 (by omega) (by decide) (by decide) fun y2 b2 l2 u2 g2 => ?_
  refine take_b g2 (by omega) (by decide) (by decide) fun more b3 l3 u3 g3 => ?_
  refine take_b g3 (by omega) (by omega) (by omega) fun f0 b4 l4 u4 g4 => ?_
  obtain ⟨d, hd⟩ : ∃ d : Nat, 1 + y2 = d := ⟨(1 + y2).toNat, by omega⟩
  obtain ⟨f, rfl⟩ : ∃ f : Nat, f0 = f := ⟨f0.toNat, by omega⟩
  rw [hd] at u4 ⊢
  refine ⟨fun _ => ?_, fun _ => ⟨fun _ => ?_, fun _ => ⟨fun _ => ?_, fun _ => ?_⟩⟩⟩
  · refine take_b g4 (by omega) (by decide) (by decide) fun y5 b5 l5 u5 g5 => ?_
    obtain ⟨m, hm⟩ : ∃ m : Nat, 1 + y5 = m := ⟨(1 + y5).toNat, by omega⟩
    rw [hm]
    have p0 : 0 ≤ 4 * (d : Int) * m := Int.mul_nonneg (by omega) (by omega)
    have p1 : 4 * (d : Int) * m ≤ 48 * 6 := Int.mul_le_mul (by omega) (by omega) (by omega) (by omega)
    refine ⟨(Bn.small (show 0 ≤ 4 * (d : Int) by omega) (by omega)).ok (Bn.small (by omega) (by omega)) (by decide) (by decide) (by decide), ?_⟩
    refine take_b g5 (by omega) (by decide) (by decide) fun y6 b6 l6 u6 g6 => ?_
    refine take_b g6 (by omega) (by decide) (by decide) fun y7 b7 l7 u7 g7 => ?_
    obtain ⟨e, he, hm'⟩ := atI_some (xs := [(1 : Int), 1 + y6, 7, 0 - y7]) l3 u3
    simp only [List.mem_cons, List.not_mem_nil, or_false] at hm'
    refine ⟨e, he, ?_⟩
    have mm := mx3_le (a := 2) (b := (d : Int) + f) (c := 4 * (d : Int) * m + e) (t := 600) (by omega) (by omega) (by omega)
    refine from_ok (by omega) (by omega) fun q hq hge => ?_
    exact ⟨mkW d f m m 0 (w_one (by omega) (by omega) (by omega) (by omega) hq (by omega)) (by omega) rfl rfl rfl rfl, Gd.mono' g7 (by omega)⟩
  · refine take_b g4 (by omega) (by decide) (by decide) fun i b5 l5 u5 g5 => ?_
    obtain ⟨⟨m0, k0⟩, he, hm'⟩ := atI_some (xs := menu) l5 u5
    refine ⟨_, he, ?_⟩
    have mo := menu_ok hm'
    obtain ⟨m, rfl⟩ : ∃ m : Nat, m0 = m := ⟨m0.toNat, by omega⟩
    obtain ⟨k, rfl⟩ : ∃ k : Nat, k0 = k := ⟨k0.toNat, by omega⟩
    simp only [Int.toNat_natCast] at mo
    refine row_ok (by omega) ⟨_, row_at (by omega), ?_⟩
    refine take_b g5 (by omega) (by decide) (by decide) fun y6 b6 l6 u6 g6 => ?_
    obtain ⟨e, he, hm'⟩ := atI_some (xs := [(d : Int), 1 + y6, 2, 3]) l3 u3
    simp only [List.mem_cons, List.not_mem_nil, or_false] at hm'
    refine ⟨e, he, ?_⟩
    have l0 := mo.2.2.2
    refine take_b g6 (by omega) (by omega) (by omega) fun y7 b7 l7 u7 g7 => ?_
    refine from_ok (by split <;> omega) (by split <;> omega) fun q hq hge => ?_
    have hge : 13 ≤ q ∧ (bin m k : Int) + 1 ≤ q := by
      revert hge
      split <;> omega
    have nn : e ≤ (if e + f < 12 then e + f else 12) ∧ (if e + f < 12 then e + f else 12) ≤ 12 := by split <;> omega
    generalize (if e + f < 12 then e + f else 12) = n at nn ⊢
    exact ⟨mkW e.toNat (n - e).toNat m k 1 (w_few (by omega) (by omega) (by omega) (by omega) (by omega) hq (by omega) (by omega)) (by omega) (by omega) rfl rfl rfl, Gd.mono' g7 (by omega)⟩
  · obtain ⟨⟨a0, k0, q0, most⟩, he, hm'⟩ := atI_some (xs := [(T4.mk (24 : Int) (5 : Int) (223 : Int) (1 : Int)), (T4.mk (24 : Int) (6 : Int) (373 : Int) (3 : Int)), (T4.mk (24 : Int) (7 : Int) (599 : Int) (7 : Int)), (T4.mk (24 : Int) (6 : Int) (373 : Int) (3 : Int))]) l3 u3
    refine ⟨_, he, ?_⟩
    simp only [List.mem_cons, List.not_mem_nil, or_false, T4.mk.injEq] at hm'
    refine take_b g4 (by omega) (show 0 < most by omega) (show most ≤ 1000000 by omega) fun y5 b5 l5 u5 g5 => ?_
    refine take_b g5 (by omega) (by omega) (by omega) fun f1 b6 l6 u6 g6 => ?_
    refine ⟨?_, Gd.mono' g6 (by omega)⟩
    have w : ∀ k q : Nat, k0 = k → q0 = q → Pr q → q ∈ qs → 100 ≤ pb q → (bin 24 k : Int) ≤ (pb q : Int) ^ 2 → ¬ (bin 24 k : Int) < q → 1 ≤ k → k < 24 → Wd [3 + y5 + f1, f1, a0, k0, q0, 2] := fun k q e1 e2 h1 h2 h3 h4 h5 h6 h7 => by
      subst e2
      exact mkW (3 + y5).toNat f1.toNat 24 k 2 (w_two (by omega) (by omega) h6 h7 h1 h2 h3 h4 h5) (by omega) (by omega) (by omega) e1 rfl
    rcases hm' with h | h | h | h
    · exact w 5 223 h.2.1 h.2.2.1 ⟨by decide, by decide, by decide +kernel⟩ (by decide) (by decide +kernel) (by decide +kernel) (by decide +kernel) (by decide) (by decide)
    · exact w 6 373 h.2.1 h.2.2.1 ⟨by decide, by decide, by decide +kernel⟩ (by decide) (by decide +kernel) (by decide +kernel) (by decide +kernel) (by decide) (by decide)
    · exact w 7 599 h.2.1 h.2.2.1 ⟨by decide, by decide, by decide +kernel⟩ (by decide) (by decide +kernel) (by decide +kernel) (by decide +kernel) (by decide) (by decide)
    · exact w 6 373 h.2.1 h.2.2.1 ⟨by decide, by decide, by decide +kernel⟩ (by decide) (by decide +kernel) (by decide +kernel) (by decide +kernel) (by decide) (by decide)
  · refine take_b g4 (by omega) (by decide) (by decide) fun y5 b5 l5 u5 g5 => ?_
    refine take_b g5 (by omega) (by omega) (by omega) fun y6 b6 l6 u6 g6 => ?_
    obtain ⟨g, hg, hg2⟩ : ∃ g : Nat, (if (3 : Int) < f then (3 : Int) else f) = g ∧ g ≤ f := by
      split
      · exact ⟨3, rfl, by omega⟩
      · exact ⟨f, rfl, by omega⟩
    rw [hg]
    refine st_cmP (p := fun y => decide ((d : Int) + g ≤ y)) (g := fun y => y) (by decide) (fun y hy => st_mp.mpr ⟨rfl, rfl⟩) (fun y hy _ => st_mp.mpr ⟨rfl, rfl⟩) ?_
    rw [List.map_id']
    have hne : (997 : Int) ∈ somes.filter (fun y => decide ((d : Int) + g ≤ y)) := List.mem_filter.mpr ⟨by decide, decide_eq_true (by omega)⟩
    have hln : (somes.filter (fun y => decide ((d : Int) + g ≤ y))).length ≤ 12 := List.length_filter_le ..
    have hlp := List.length_pos_of_mem hne
    rw [show List.filter (fun y => decide ((d : Int) + g ≤ y)) [(2 : Int), (3 : Int), (5 : Int), (7 : Int), (11 : Int), (13 : Int), (17 : Int), (29 : Int), (61 : Int), (101 : Int), (499 : Int), (997 : Int)] = somes.filter (fun y => decide ((d : Int) + g ≤ y)) from rfl]
    refine take_b g6 (by omega) (by omega) (by omega) fun y7 b7 l7 u7 g7 => ?_
    obtain ⟨q, he, hq⟩ := atI_some l7 u7
    refine ⟨q, he, ?_⟩
    rw [List.mem_filter] at hq
    have qo := somes_ok hq.1
    have hq2 := of_decide_eq_true hq.2
    obtain ⟨m, hm⟩ : ∃ m : Nat, 1 + y5 = m := ⟨(1 + y5).toNat, by omega⟩
    obtain ⟨k, hk⟩ : ∃ k : Nat, 1 + y6 = k := ⟨(1 + y6).toNat, by omega⟩
    obtain ⟨qn, rfl⟩ : ∃ qn : Nat, q = qn := ⟨q.toNat, by have := qo.1.1; omega⟩
    rw [hm, hk]
    refine row_ok (by omega) ⟨_, row_at (by omega), ?_⟩
    have S : Sz d m k qn := ⟨by omega, by omega, by omega, by omega, by omega, qo.1.1, qo.1.2.1⟩
    refine R.st_imp (symb_ok S (f := g) (by omega) (by have := qo.2; rwa [Int.toNat_natCast] at this) (by omega)) ?_
    rintro x _ (rfl | ⟨j, rfl, j2, jl, jt⟩)
    · exact ⟨fun _ => ⟨mkW d g m m 0 (w_one (by omega) (by omega) (by omega) (by omega) qo.1 (by omega)) (by omega) rfl rfl rfl rfl, Gd.mono' g7 (by omega)⟩, fun c => (nomatch c)⟩
    · exact ⟨fun c => (nomatch c), fun _ => ⟨_, rfl, mkW d g m k j ⟨S, by omega, qo.1.2.2, by omega, j2, jl, jt⟩ (by omega) rfl rfl rfl rfl, Gd.mono' g7 (by omega)⟩⟩
end L68

namespace L68
open PySem L2 Mir
theorem tab_sh : (List.range 1001).all (fun i => decide ((PyData.int ((i : Nat) : Int)).shown.length ≤ 4)) = true := by decide +kernel
theorem sh_int {i : Int} (h0 : 0 ≤ i) (h1 : i ≤ 1000) : (PyData.int i).shown.length ≤ 4 := by
  have t := tab_sh
  rw [List.all_eq_true] at t
  have t := of_decide_eq_true (t i.toNat (List.mem_range.mpr (by omega)))
  rwa [show ((i.toNat : Nat) : Int) = i by omega] at t
theorem sw_int {i : Int} (h0 : 0 ≤ i) (h1 : i ≤ 1000) : (PyData.int i).showable = true := decide_eq_true (log2_lt' (Nat.lt_of_lt_of_le (show i.natAbs < 2 ^ 10 by rw [show (2 : Nat) ^ 10 = 1024 by decide]; omega) (Nat.pow_le_pow_right (by decide) (by decide))) (by decide))
theorem opt_sh {x : Option Int} (h : ∀ i, x = some i → 0 ≤ i ∧ i ≤ 1000) : (Dt.dt x : PyData).showable = true ∧ (Dt.dt x : PyData).shown.length ≤ 4 := by
  cases x with
  | none => exact ⟨rfl, by decide +kernel⟩
  | some i => exact ⟨sw_int (h i rfl).1 (h i rfl).2, sh_int (h i rfl).1 (h i rfl).2⟩
theorem bl_sh (b : Bool) : (Dt.dt b : PyData).showable = true ∧ (Dt.dt b : PyData).shown.length ≤ 5 := by
  cases b
  · exact ⟨rfl, by decide +kernel⟩
  · exact ⟨rfl, by decide +kernel⟩
theorem bl_ok (b : Bool) : rprDok b = true := by
  cases b <;> decide +kernel
theorem l3_ok {a : Int} {x : Option Int} {b : Bool} (h0 : 0 ≤ a) (h1 : a ≤ 1000) (h : ∀ i, x = some i → 0 ≤ i ∧ i ≤ 1000) : rprDok (L3.mk a x b) = true := by
  have x1 := opt_sh h
  have x2 := bl_sh b
  unfold rprDok
  rw [Bool.and_eq_true]
  refine ⟨?_, decide_eq_true ?_⟩
  · show PyData.showable (.list [Dt.dt a, Dt.dt x, Dt.dt b]) = true
    simp only [PyData.showable, PyData.showableAll, x1.1, x2.1, Bool.and_true]
    exact sw_int h0 h1
  · show (PyData.shown (.list [Dt.dt a, Dt.dt x, Dt.dt b])).length ≤ sizeLine
    simp only [PyData.shown, PyData.shownAll, listText, textFrom, strLen_append]
    have y := sh_int h0 h1
    have e1 : (Dt.dt a : PyData).shown.length ≤ 4 := y
    have e2 : sizeLine = 16777216 := rfl
    have e3 : ∀ k : Nat, (Str.ofString (if k > 0 then ", " else "")).length ≤ 2 := fun k => by split <;> decide +kernel
    have f0 := e3 0
    have f1 := e3 (0 + 1)
    have f2 := e3 (0 + 1 + 1)
    have f3 : (Str.ofString "[").length = 1 := by decide +kernel
    have f4 : (Str.ofString "]").length = 1 := by decide +kernel
    have g0 : (if (0 : Nat) > 0 then ", " else "" : String) = "" := rfl
    have z1 := x1.2
    have z2 := x2.2
    omega
theorem isS_uniq {row lots q : Int} {s t : Nat} (hs : isS row lots q s) (ht : isS row lots q t) : s = t := by
  by_cases a : s < t
  · exact absurd (ht.2 s a) hs.1
  · by_cases b : t < s
    · exact absurd (hs.2 t b) ht.1
    · omega
end L68

namespace L68
open PySem L2 Mir
section
variable {d f m k j s : Nat} {q : Int}
theorem told_s (w : Wo d f m k j q) (hs : isS (rowI d m k) (bin m k) q s) {Q : Option Int → Unit → Prop} (qq : Q (ansF ((d + f : Nat) : Int) d m k f q s) ()) : (m_least_told ((d + f : Nat) : Int) f m k q ()).st Q :=
  R.st_imp (told_ok w.sz (by omega) (by have := w.n; omega)) fun x _ ⟨s', hs', e⟩ => by rw [e, isS_uniq hs' hs]; exact qq
theorem exact_ok (w : Wo d f m k j q) (hs : isS (rowI d m k) (bin m k) q s) {Q : Bool → Unit → Prop} (qq : Q (decide (some (szs d f m k j).sum = ansF ((d + f : Nat) : Int) d m k f q s)) ()) : (m_is_exact ((d + f : Nat) : Int) f m k q ()).st Q := by
  unfold m_is_exact
  simp only [st_mb, st_mp, st_mu]
  exact enough_ok w.sz w.n w.pr w.nq w.j24 w.t (told_s w hs qq)
theorem numbers_ok (w : Wo d f m k j q) (hs : isS (rowI d m k) (bin m k) q s) {way : Int} {Q : L3 Int (Option Int) Bool → Unit → Prop} (qq : Q (L3.mk (szs d f m k j).sum (ansF ((d + f : Nat) : Int) d m k f q s) (decide (some (szs d f m k j).sum = ansF ((d + f : Nat) : Int) d m k f q s))) ()) : (m__law_numbers way (WL d f m k j q) ()).st Q := by
  unfold m__law_numbers
  simp only [st_mb, st_mp, st_mu, st_mi, st_mc]
  rw [show cutL (WL d f m k j q) none (some 5) = [((d + f : Nat) : Int), f, m, k, q] from rfl]
  exact ⟨rfl, fun _ => enough_ok w.sz w.n w.pr w.nq w.j24 w.t (told_s w hs (exact_ok w hs qq)), fun _ => exact_ok w hs (told_s w hs (enough_ok w.sz w.n w.pr w.nq w.j24 w.t qq))⟩
theorem allowed_ok (h : Sz d m k q) {way b : Int} (b1 : 1 ≤ b) (b2 : b ≤ 1000) {Q : Bool → Unit → Prop} (qq : Q (decide (q ^ (d * m) * ws m (q ^ d - 1) k ≤ 2 * b * q ^ (b - 1).toNat)) ()) : (m__law_allowed way b (WL d f m k j q) ()).st Q := by
  have e : ((d + f : Nat) : Int) - f = d := by omega
  unfold m__law_allowed
  simp only [st_mb, st_mp, st_mi, st_mu, st_mo]
  refine ⟨fun _ => ⟨_, rfl, _, rfl, _, rfl, _, rfl, _, rfl, ?_⟩, fun _ => ⟨_, rfl, _, rfl, _, rfl, _, rfl, _, rfl, ?_⟩⟩
  · rw [e]
    exact lines_ok h b1 b2 qq
  · rw [e]
    exact lines_ok h b1 b2 qq
theorem ans_bn (h : Sz d m k q) {n : Int} (hn : n = d + f) (hn2 : n ≤ 12) {T : Nat} (h1 : 1 ≤ T) (h2 : T ≤ 25) : 1 ≤ n * ((m : Int) + k) + spr T d f ∧ n * ((m : Int) + k) + spr T d f ≤ 1000 := by
  have := h.m2; have := h.k2; have := h.d1
  have s := spr_bn h (f := f) (by omega) h1 h2
  have a : n * ((m : Int) + k) ≤ 12 * 48 := Int.mul_le_mul hn2 (by omega) (by omega) (by omega)
  have b : 0 ≤ n * ((m : Int) + k) := Int.mul_nonneg (by omega) (by omega)
  omega
theorem ans_some (w : Wo d f m k j q) (hs : isS (rowI d m k) (bin m k) q s) (i : Int) (e : ansF ((d + f : Nat) : Int) d m k f q s = some i) : 0 ≤ i ∧ i ≤ 1000 := by
  have := w.n
  unfold ansF at e
  by_cases c : 0 < hnF d m k f q s
  · obtain ⟨T, T1, T2, hT, _⟩ := heads_big w.sz hs c
    have := ans_bn w.sz (n := ((d + f : Nat) : Int)) (f := f) (by omega) (by omega) T1 T2
    rw [if_pos c, hT] at e
    injection e with e
    omega
  · rw [if_neg c] at e
    cases e
theorem szs_at {a : Int} (h0 : 0 ≤ a) (h1 : a < ((d + f : Nat) : Int)) : atI (szs d f m k j) a = some (blk d f m k j a) := by
  unfold szs
  rw [atI_get' h0 (by rw [List.length_map, rng_len]; exact h1), List.getElem?_map]
  have : (rng 0 (d + f))[a.toNat]? = some a := by
    have l := rng_len (lo := 0) (n := d + f)
    rw [show d + f = a.toNat + (d + f - a.toNat) by omega, rng_add, List.getElem?_append_right (by rw [rng_len]; omega), rng_len, show d + f - a.toNat = (d + f - a.toNat - 1) + 1 by omega, rng_succ]
    rw [show a.toNat - a.toNat = 0 by omega]
    show some (0 + (a.toNat : Int)) = some a
    rw [show 0 + (a.toNat : Int) = a by omega]
  rw [this]
  rfl
theorem right_ok (w : Wo d f m k j q) {made : C_Array} (A : Ar d f m k j made) {N : Int} {b : Box} (hb : Gd N b) (hN : N ≤ 900000) : (m__law_right (WL d f m k j q) made b).st fun x b' => x = true ∧ Gd (N + 4) b' := by
  obtain ⟨_, _, s, _, hs⟩ := st_ex (symbols_ok w.sz)
  have := w.n; have := w.sz.d1; have := w.j24; have := w.sz.m2; have := w.sz.k1; have := w.sz.k2
  have sb := spr_bn w.sz (f := f) (by omega) (t := j + 1) (by omega) (by omega)
  have hr := row_bn w.sz
  have ej : (j : Int) + ((d + f : Nat) : Int) - f = ((j + 1 : Nat) : Int) + d - 1 := by omega
  have ed : ((d + f : Nat) : Int) - f = d := by omega
  unfold m__law_right
  refine st_mb.mpr (R.st_imp (Q := fun a s => a = WL d f m k j q ∧ b = s) (st_mb.mpr (st_mp.mpr (st_mc.mpr ⟨rfl, rfl, rfl⟩))) ?_)
  rintro _ _ ⟨rfl, rfl⟩
  refine st_mb.mpr (R.st_imp (Q := fun z s => z = (spr ((j + 1 : Nat) : Int) d f, ()) ∧ b = s) ?_ ?_)
  · simp only [st_mb, st_mp, st_mc, WL, List.getD_cons_zero, List.getD_cons_succ, ej, ed]
    exact ⟨sb.2.2.1, sb.2.2.2, rfl, trivial⟩
  rintro _ _ ⟨rfl, rfl⟩
  refine st_mb.mpr (R.st_imp (Q := fun z s' => z = (szs d f m k j, ansF ((d + f : Nat) : Int) d m k f q s, ()) ∧ b = s') ?_ ?_)
  · simp only [st_mb, st_mp, st_mc, st_mu]
    refine ⟨b62_of (by show _ ≤ ((d + f : Nat) : Int); omega) (by show ((d + f : Nat) : Int) ≤ _; omega), ?_⟩
    refine st_cmP (p := fun _ => true) (g := blk d f m k j) (by rw [rng_len]; show ((d + f : Nat) : Int).toNat ≤ _; omega) (fun y hy => st_mp.mpr ⟨rfl, rfl⟩) (fun y hy _ => ?_) ?_
    · have hy := mem_rng.mp hy
      have hy2 : 0 ≤ y ∧ y < 0 + (((d + f : Nat) : Int).toNat : Int) := hy
      simp only [st_mb, st_mp, st_mc]
      exact ⟨rgCok_of (by omega) (by omega) (show 1 ≤ ((d + f : Nat) : Int) by omega) (show ((d + f : Nat) : Int) ≤ 12 by omega) (by omega) (by omega), rfl, trivial⟩
    · rw [show List.filter (fun _ => true) (rng 0 ((WL d f m k j q).getD 0 0).toNat) = rng 0 (d + f) from List.filter_eq_self.mpr fun _ _ => rfl]
      exact R.st_imp (law_least_ok w.sz (n := ((d + f : Nat) : Int)) (by omega) (by omega) hs) fun a _ ha => by rw [ha]; exact ⟨rfl, rfl⟩
  rintro _ _ ⟨rfl, rfl⟩
  refine st_mb.mpr (st_mc.mpr ⟨decide_eq_true (show -(2 ^ 62) ≤ (0 : Int) ∧ (0 : Int) < 2 ^ 62 ∧ -(2 ^ 62) ≤ ((d + f : Nat) : Int) ∧ ((d + f : Nat) : Int) < 2 ^ 62 ∧ (((d + f : Nat) : Int) - 0).toNat ≤ 2 ^ 24 by omega), ?_⟩)
  rw [show ((WL d f m k j q).getD 0 0).toNat = d + f from rfl]
  refine st_mb.mpr (R.st_imp (Q := fun t s' => (∀ x ∈ t, 0 ≤ x ∧ x < ((d + f : Nat) : Int)) ∧ Gd (N + 1) s') ?_ ?_)
  · simp only [st_mb, st_mp, st_mi]
    refine take_b hb (by omega) (by decide) (by decide) fun y b1 _ _ g1 => ⟨fun _ => ⟨fun x hx => ?_, g1⟩, fun _ => ⟨fun x hx => ?_, g1⟩⟩
    · have := mem_rng.mp (List.mem_reverse.mp hx)
      omega
    · have := mem_rng.mp hx
      omega
  rintro t b1 ⟨ht, g1⟩
  refine st_mb.mpr (st_mb.mpr (st_mp.mpr (st_forC (Inv := fun xs _ s' => (∀ x ∈ xs, 0 ≤ x ∧ x < ((d + f : Nat) : Int)) ∧ b1 = s') ?_ ?_ ⟨ht, rfl⟩)))
  · rintro x xs _ _ ⟨hx, rfl⟩
    have h0 := hx x (List.mem_cons_self ..)
    simp only [st_mb, st_mp, st_mi, st_mu, st_mo]
    refine blocks_ok w.sz w.n w.j24 A h0.1 h0.2 ⟨_, szs_at h0.1 h0.2, fun c => ?_, fun _ => ⟨fun y hy => hx y (List.mem_cons_of_mem _ hy), trivial⟩⟩
    rw [decide_eq_true rfl] at c
    cases c
  rintro _ _ ⟨-, rfl⟩
  refine st_mb.mpr ?_
  have sa := sizes_all (d := d) (f := f) (S := j + 1) (b := (m : Int) + k) (by omega) (by omega) rfl
  have sum : (szs d f m k j).sum = ((d + f : Nat) : Int) * ((m : Int) + k) + spr ((j + 1 : Nat) : Int) d f := sa.1
  have few : (cutL (srt (szs d f m k j)) none (some (d : Int))).sum = d * ((m : Int) + k) + ((j + 1 : Nat) : Int) := sa.2
  have an := ans_bn w.sz (n := ((d + f : Nat) : Int)) (f := f) (T := j + 1) (by omega) (by omega) (by omega) (by omega)
  have so := ans_some w hs
  have rI : (d : Int) * ((m : Int) + k) = rowI d m k := rfl
  have bl : 1 ≤ rowI d m k + j := by
    have : 1 ≤ (d : Int) * ((m : Int) + k) := Int.mul_pos (by omega) (by omega)
    omega
  simp only [st_mb, st_mp, st_mc, st_mi, st_mu]
  refine take_b g1 (by omega) (by decide) (by decide) fun y2 b2 _ _ g2 => ?_
  refine numbers_ok w hs ⟨l3_ok (by omega) (by omega) so, l3_ok (by omega) (by omega) so, ?_⟩
  have dc : decide (some (szs d f m k j).sum = ansF ((d + f : Nat) : Int) d m k f q s) = decide (ansF ((d + f : Nat) : Int) d m k f q s = some (szs d f m k j).sum) := decide_eq_decide.mpr ⟨Eq.symm, Eq.symm⟩
  rw [dc]
  have w0 : (WL d f m k j q).getD 0 0 = ((d + f : Nat) : Int) := rfl
  have w1 : (WL d f m k j q).getD 1 0 = f := rfl
  have w2 : (WL d f m k j q).getD 2 0 = m := rfl
  have w3 : (WL d f m k j q).getD 3 0 = k := rfl
  have w4 : (WL d f m k j q).getD 4 0 = q := rfl
  have w5 : (WL d f m k j q).getD 5 0 = j := rfl
  have few2 : (cutL (srt (szs d f m k j)) none (some (d : Int))).sum = rowI d m k + j + 1 := by rw [few, rI]; omega
  have e1 : rowI d m k + j + 1 - 1 = rowI d m k + j := by omega
  have hj2 : rowI d m k + j + 1 ≤ 1000 := by omega
  refine ⟨fun c => ?_, fun _ => all_ok w.sz w.n w.j24 A ?_⟩
  · rw [decide_eq_true rfl] at c
    cases c
  refine ⟨fun c => ?_, fun _ => ?_⟩
  · rw [decide_eq_true rfl] at c
    cases c
  simp only [w0, w1, w2, w3, w4, w5, ed, few2, e1, rI]
  refine ⟨row_mul w.sz, fun c => ?_, fun _ => ?_⟩
  · simp at c
  refine take_b g2 (by omega) (by decide) (by decide) fun y3 b3 _ _ g3 => ?_
  refine allowed_ok w.sz (by omega) hj2 ?_
  rw [decide_eq_true (kept w.sz w.l)]
  refine ⟨fun c => (nomatch c), fun _ => ⟨fun c => ?_, fun c => ?_⟩⟩
  · have c := of_decide_eq_true c
    rw [sum] at c
    refine take_b g3 (by omega) (by decide) (by decide) fun y4 b4 _ _ g4 => ?_
    refine allowed_ok w.sz bl (by omega) ?_
    rw [decide_eq_false (met w.sz hs c)]
    exact ⟨bl_ok _, bl_ok _, decide_eq_true rfl, Gd.mono' g4 (by omega)⟩
  · refine allow_ok w.sz bl (by omega) ?_
    refine take_b g3 (by omega) (by decide) (by decide) fun y4 b4 _ _ g4 => ?_
    refine allowed_ok w.sz bl (by omega) ?_
    exact ⟨bl_ok _, bl_ok _, decide_eq_true rfl, Gd.mono' g4 (by omega)⟩
end
end L68

namespace L68
open PySem L2 Mir
theorem box_ok (great : Int) {Q : Box → Unit → Prop} (q : ∀ b, Gd 0 b → Q b ()) : (m__law_box great ()).st Q := by
  unfold m__law_box
  refine st_mp.mpr (q _ ⟨?_, ?_, ?_, ?_, ?_⟩)
  · show 0 ≤ (if great < 0 then -great else great)
    split <;> omega
  · show 0 ≤ (if great < 0 then -great else great) % 2147483629
    omega
  · show (if great < 0 then -great else great) % 2147483629 < 2147483648
    omega
  · exact Int.le_refl _
  · exact Int.le_refl _
def Mk (w : List Int) (a : C_Array) : Prop := ∃ (d f m k j : Nat) (q : Int), w = WL d f m k j q ∧ Wo d f m k j q ∧ Ar d f m k j a
theorem make_ok {w : List Int} (h : Wd w) : ∃ a, Mk w a ∧ ∀ s : Box, ((mb (mb (mo (atI w (0 : Int))) fun x_665 => mb (mb (mo (atI w (1 : Int))) fun x_663 => mb (mb (mo (atI w (2 : Int))) fun x_661 => mb (mb (mo (atI w (3 : Int))) fun x_659 => mb (mb (mo (atI w (4 : Int))) fun x_657 => mb (mp ()) fun z658 => mp (x_657, z658)) fun z660 => mp (x_659, z660)) fun z662 => mp (x_661, z662)) fun z664 => mp (x_663, z664)) fun z666 => mp (x_665, z666)) fun z667 => mu (m_Array z667.1 z667.2.1 z667.2.2.1 z667.2.2.2.1 z667.2.2.2.2.1) : Mn Box C_Array) s).st fun x s' => x = a ∧ s' = s := by
  obtain ⟨d, f, m, k, j, q, rfl, W⟩ := h
  have g : (m_Array ((d + f : Nat) : Int) f m k q ()).st fun x _ => Ar d f m k j x := array_ok W.sz W.n W.pr W.nq W.j24 W.t fun a A => A
  revert g
  generalize hr : m_Array ((d + f : Nat) : Int) f m k q () = r
  intro g
  cases r with
  | bad => exact absurd g.to (by intro x; exact x)
  | ok a u =>
    refine ⟨a, ⟨d, f, m, k, j, q, rfl, W, g.to⟩, fun s => ?_⟩
    simp only [st_mb, st_mp, st_mo, st_mu]
    refine ⟨_, rfl, _, rfl, _, rfl, _, rfl, _, rfl, ?_⟩
    rw [hr]
    exact ⟨rfl, trivial⟩
theorem law_st (ns : List Int) (hl : ns.length ≤ 63) : (m_law ⟨ns⟩ ()).st fun b _ => b = true := by
  unfold m_law
  simp only [st_mb, st_mp, st_mc]
  generalize hk : (if (if ((ns.length : Nat) : Int) < (6 : Int) then ((ns.length : Nat) : Int) else (6 : Int)) > (2 : Int) then (if ((ns.length : Nat) : Int) < (6 : Int) then ((ns.length : Nat) : Int) else (6 : Int)) else (2 : Int)) = k
  have hk1 : 1 ≤ k ∧ k ≤ 6 := by
    subst hk
    split
    · split <;> omega
    · omega
  refine ⟨b62_of (by omega) (by omega), ?_⟩
  refine st_forC (Q := fun c s => (ctk (fun t682 => (mp true)) (fun _ => mbad) c s).st fun b _ => b = true) (Inv := fun xs _ _ => ∀ x ∈ xs, 0 ≤ x) ?_ (fun _ _ _ => st_mp.mpr rfl) (fun x hx => (mem_rng.mp hx).1)
  intro x xs _ _ hI
  have hx0 := hI x (List.mem_cons_self ..)
  have hI' : ∀ x ∈ xs, 0 ≤ x := fun y hy => hI y (List.mem_cons_of_mem _ hy)
  have cell : ∀ Q : Int → Unit → Prop, (∀ c, Q c ()) → (m__law_cell ⟨ns⟩ x ()).st Q := by
    intro Q q
    unfold m__law_cell
    simp only [st_mb, st_mp, st_mi, st_mo]
    refine ⟨fun c => ?_, fun _ => q _⟩
    obtain ⟨y, e, _⟩ := atI_some hx0 (of_decide_eq_true c)
    exact ⟨y, e, q y⟩
  refine st_mb.mpr (R.st_imp (Q := fun b _ => Gd 0 b) ?_ fun b _ hb => ?_)
  · simp only [st_mb, st_mp, st_mu]
    exact cell _ fun c => box_ok c fun b hb => hb
  refine st_mrun.mpr (st_mb.mpr (R.st_imp (Q := fun ws b' => (∃ w1 w2, ws = [w1, w2] ∧ Wd w1 ∧ Wd w2) ∧ Gd 40 b') ?_ ?_))
  · simp only [st_mb, st_mp]
    refine R.st_imp (world_ok hb (by decide)) fun w1 b1 ⟨s1, g1⟩ => ?_
    refine R.st_imp (world_ok g1 (by decide)) fun w2 b2 ⟨s2, g2⟩ => ?_
    exact ⟨⟨w1, w2, rfl, s1, s2⟩, Gd.mono' g2 (by decide)⟩
  rintro _ b2 ⟨⟨w1, w2, rfl, s1, s2⟩, g2⟩
  obtain ⟨a1, m1, r1⟩ := make_ok s1
  obtain ⟨a2, m2, r2⟩ := make_ok s2
  have gw : ∃ g : List Int → C_Array, Mk w1 (g w1) ∧ Mk w2 (g w2) ∧ g w1 = a1 ∧ (g w2 = a2 ∨ (w2 = w1 ∧ g w2 = a1)) := ⟨fun w => if w = w1 then a1 else a2, by
    show Mk w1 (if w1 = w1 then a1 else a2)
    rw [if_pos rfl]
    exact m1, by
    show Mk w2 (if w2 = w1 then a1 else a2)
    by_cases h : w2 = w1
    · rw [if_pos h, h]
      exact m1
    · rw [if_neg h]
      exact m2, if_pos rfl, by
    by_cases h : w2 = w1
    · exact Or.inr ⟨h, if_pos h⟩
    · exact Or.inl (if_neg h)⟩
  obtain ⟨g, k1, k2, e1, e2⟩ := gw
  refine st_mb.mpr (R.st_imp (Q := fun ms b' => ms = [g w1, g w2] ∧ b2 = b') ?_ ?_)
  · refine st_mb.mpr (st_mp.mpr (st_cmP (p := fun _ => true) (g := g) (by show 2 ≤ 16000000; decide) (fun y hy => st_mp.mpr ⟨rfl, rfl⟩) (fun y hy _ => ?_) ⟨rfl, rfl⟩))
    simp only [List.mem_cons, List.not_mem_nil, or_false] at hy
    rcases hy with rfl | rfl
    · rw [e1]
      exact r1 b2
    · rcases e2 with e2 | ⟨h, e2⟩
      · rw [e2]
        exact r2 b2
      · rw [e2, h]
        exact r1 b2
  rintro _ _ ⟨rfl, rfl⟩
  simp only [st_mb, st_mp, st_mc]
  refine ⟨b62_of (by omega) (by omega), ?_⟩
  have e4 : (rng 0 (3 : Int).toNat).length = 3 := by rw [rng_len]; rfl
  have e4' : ∀ x ∈ rng 0 (3 : Int).toNat, 0 ≤ x := fun x hx => (mem_rng.mp hx).1
  generalize rng 0 (3 : Int).toNat = xs4 at e4 e4' ⊢
  refine st_forC (Inv := fun ys _ s => (∀ x ∈ ys, 0 ≤ x) ∧ ys.length ≤ 3 ∧ Gd (40 + 4 * (3 - (ys.length : Int))) s) ?_ ?_ ⟨e4', by omega, Gd.mono' g2 (by omega)⟩
  · intro a as _ s hI2
    have h1 := hI2.1 a (List.mem_cons_self ..)
    have h1' : ∀ x ∈ as, 0 ≤ x := fun y hy => hI2.1 y (List.mem_cons_of_mem _ hy)
    have h2 : (a :: as).length ≤ 3 := hI2.2.1
    have h3 : Gd (40 + 4 * (3 - ((a :: as).length : Int))) s := hI2.2.2
    rw [List.length_cons] at h2 h3
    simp only [st_mb, st_mp, st_mi, st_mo, st_mu, st_mc]
    have pick : ∃ w b, atI [w1, w2] (a % 2) = some w ∧ atI [g w1, g w2] (a % 2) = some b ∧ Mk w b := by
      rcases (show a % 2 = 0 ∨ a % 2 = 1 by omega) with h | h
      · rw [h]
        exact ⟨w1, g w1, rfl, rfl, k1⟩
      · rw [h]
        exact ⟨w2, g w2, rfl, rfl, k2⟩
    obtain ⟨w, mk, hw, hm, d, f, m, k, j, q, rfl, W, A⟩ := pick
    refine ⟨_, hw, _, hm, ?_⟩
    refine R.st_imp (right_ok W A h3 (by omega)) fun y b6 ⟨hy, g6⟩ => ?_
    subst hy
    exact ⟨fun h => (nomatch h), fun _ => ⟨h1', by omega, Gd.mono' g6 (by omega)⟩⟩
  · intro _ s hI2
    exact st_mp.mpr hI'
theorem law_ok (ns : List Int) (hl : ns.length ≤ 63) : (m_law ⟨ns⟩ ()).sat fun b _ => b = true := (law_st ns hl).to
end L68

namespace L68
open PySem PySem.Spec PyProof.Rows L2 Mir
def dD (x : Str) (i : Nat) : He.DefD := ⟨(x, none), x, x, defArgs (top i), defBody (top i), defScope (top i), [], []⟩
abbrev RWL := PySem.Challenge.rw_sparesum_k68_whole_met
def fn : List He.DefD := [dD "is_whole" 11, dD "is_between" 12, dD "is_prime" 15, dD "prime_below" 16, dD "choose" 20, dD "spread" 21, dD "telling" 22, dD "check_shape" 23, dD "is_disk" 25, dD "check_disk" 26, dD "heads_on" 27, dD "blocks_on" 28, dD "all_blocks" 29, dD "power" 32, dD "check_contents" 33, dD "check_sizes" 34, dD "enough" 35, dD "count_wishes" 36, dD "lines_allow" 37, dD "least_symbols" 38, dD "heads_needed" 39, dD "least_told" 40, dD "is_exact" 41, dD "_law_cell" 43, dD "_law_box" 44, dD "_law_take" 45, dD "_law_power" 46, dD "_law_row" 47, dD "_law_allow" 48, dD "_law_least" 49, dD "_law_prime" 50, dD "_law_prime_from" 51, dD "_law_symbols" 52, dD "_law_world" 53, dD "_law_allowed" 54, dD "_law_numbers" 55, dD "_law_right" 56, dD "law" 57, ⟨("Array", some "__init__"), "__init__", "Array.__init__", defArgs (inClass (top 24) 0), defBody (inClass (top 24) 0), defScope (inClass (top 24) 0), [], []⟩]
def fa : List He.Fa := [.glo "is_whole", .glo "is_between", .glo "is_prime", .glo "prime_below", .glo "choose", .glo "spread", .glo "telling", .glo "check_shape", .glo "is_disk", .glo "check_disk", .glo "heads_on", .glo "blocks_on", .glo "all_blocks", .glo "power", .glo "check_contents", .glo "check_sizes", .glo "enough", .glo "count_wishes", .glo "lines_allow", .glo "least_symbols", .glo "heads_needed", .glo "least_told", .glo "is_exact", .glo "_law_cell", .glo "_law_box", .glo "_law_take", .glo "_law_power", .glo "_law_row", .glo "_law_allow", .glo "_law_least", .glo "_law_prime", .glo "_law_prime_from", .glo "_law_symbols", .glo "_law_world", .glo "_law_allowed", .glo "_law_numbers", .glo "_law_right", .glo "law", .free "bool", .free "int", .free "isinstance", .free "all", .free "min", .free "range", .free "list", .free "len", .free "sum", .free "abs", .free "max", .free "repr", .free "sorted", .int "MOST_PRIME" 997, .int "MOST_DISKS" 12, .int "MOST_RECORDS" 24, .int "MOST_BLOCKS" 1000, .glo "Array", .cls "Array", .mkr "Array", .noat "Array" "disks", .noat "Array" "lost", .noat "Array" "records", .noat "Array" "changes", .noat "Array" "contents", .noat "Array" "need", .noat "Array" "lots", .noat "Array" "symbols", .noat "Array" "prime", .noat "Array" "heads"]
def names : List Str := "SumError" :: "InvalidDisks" :: "InvalidLost" :: "InvalidRecords" :: "InvalidChanges" :: "InvalidContents" :: "InvalidDisk" :: "InvalidBlocks" :: "NoHeads" :: "is_whole" :: "is_between" :: "MOST_PRIME" :: "is_prime" :: "prime_below" :: "MOST_DISKS" :: "MOST_RECORDS" :: "choose" :: "spread" :: "telling" :: "check_shape" :: "Array" :: "is_disk" :: "check_disk" :: "heads_on" :: "blocks_on" :: "all_blocks" :: "MOST_BLOCKS" :: "power" :: "check_contents" :: "check_sizes" :: "enough" :: "count_wishes" :: "lines_allow" :: "least_symbols" :: "heads_needed" :: "least_told" :: "is_exact" :: "_law_cell" :: "_law_box" :: "_law_take" :: "_law_power" :: "_law_row" :: "_law_allow" :: "_law_least" :: "_law_prime" :: "_law_prime_from" :: "_law_symbols" :: "_law_world" :: "_law_allowed" :: "_law_numbers" :: "_law_right" :: []
abbrev R : PySem.W.OpenRow := PySem.W.OpenLaw.row RWL
abbrev hk : PySem.W.Hook := He.hookD 4 fa fn
def ob (s : PySem.W.SharedT) : He.AlD := He.obsDG 4 fa fn (HandSHeadRun.getT s)
theorem ob_eq (s : PySem.W.SharedT) : ob s = hk.obs s.abs := He.obsDG_eq (HandSHeadRun.getT_eq s)
set_option maxHeartbeats 0 in
theorem run (w : World) : HandSHeadRun.RunEq R (PySem.W.view R.prog [57]) hk ob 20000 names w := by
  intro os
  kernel_rfl
theorem facts {P : Program} {w : World} {K : PySem.W.Frag} {h : Heap} {mg : Str → Option Value} {f : Addr} (X : K.In h) (G : h.Ns mainGlobals mg) (hfa : mg ("law" : Str) = some (.ref f)) (c : He.SaysD fa fn K) :
    ∃ fd : FuncData, (∀ (s : Shared) (v : Value), BindsTo s fd ⟨[v], []⟩ [("script", v)]) ∧ ∀ base : Heap, K.In base → base.Ns mainGlobals mg → FnG P w K mg base CX0 12 f fd ["script"] (sp_law K) := by
  obtain ⟨fd_is_whole, F_is_whole⟩ := c.def_ 0 (d := dD "is_whole" 11) rfl
  have g_is_whole := He.glo_ok X G (c.fact 0 (f := .glo "is_whole") rfl)
  obtain ⟨fd_is_between, F_is_between⟩ := c.def_ 1 (d := dD "is_between" 12) rfl
  have g_is_between := He.glo_ok X G (c.fact 1 (f := .glo "is_between") rfl)
  obtain ⟨fd_is_prime, F_is_prime⟩ := c.def_ 2 (d := dD "is_prime" 15) rfl
  have g_is_prime := He.glo_ok X G (c.fact 2 (f := .glo "is_prime") rfl)
  obtain ⟨fd_prime_below, F_prime_below⟩ := c.def_ 3 (d := dD "prime_below" 16) rfl
  have g_prime_below := He.glo_ok X G (c.fact 3 (f := .glo "prime_below") rfl)
  obtain ⟨fd_choose, F_choose⟩ := c.def_ 4 (d := dD "choose" 20) rfl
  have g_choose := He.glo_ok X G (c.fact 4 (f := .glo "choose") rfl)
  obtain ⟨fd_spread, F_spread⟩ := c.def_ 5 (d := dD "spread" 21) rfl
  have g_spread := He.glo_ok X G (c.fact 5 (f := .glo "spread") rfl)
  obtain ⟨fd_telling, F_telling⟩ := c.def_ 6 (d := dD "telling" 22) rfl
  have g_telling := He.glo_ok X G (c.fact 6 (f := .glo "telling") rfl)
  obtain ⟨fd_check_shape, F_check_shape⟩ := c.def_ 7 (d := dD "check_shape" 23) rfl
  have g_check_shape := He.glo_ok X G (c.fact 7 (f := .glo "check_shape") rfl)
  obtain ⟨fd_is_disk, F_is_disk⟩ := c.def_ 8 (d := dD "is_disk" 25) rfl
  have g_is_disk := He.glo_ok X G (c.fact 8 (f := .glo "is_disk") rfl)
  obtain ⟨fd_check_disk, F_check_disk⟩ := c.def_ 9 (d := dD "check_disk" 26) rfl
  have g_check_disk := He.glo_ok X G (c.fact 9 (f := .glo "check_disk") rfl)
  obtain ⟨fd_heads_on, F_heads_on⟩ := c.def_ 10 (d := dD "heads_on" 27) rfl
  have g_heads_on := He.glo_ok X G (c.fact 10 (f := .glo "heads_on") rfl)
  obtain ⟨fd_blocks_on, F_blocks_on⟩ := c.def_ 11 (d := dD "blocks_on" 28) rfl
  have g_blocks_on := He.glo_ok X G (c.fact 11 (f := .glo "blocks_on") rfl)
  obtain ⟨fd_all_blocks, F_all_blocks⟩ := c.def_ 12 (d := dD "all_blocks" 29) rfl
  have g_all_blocks := He.glo_ok X G (c.fact 12 (f := .glo "all_blocks") rfl)
  obtain ⟨fd_power, F_power⟩ := c.def_ 13 (d := dD "power" 32) rfl
  have g_power := He.glo_ok X G (c.fact 13 (f := .glo "power") rfl)
  obtain ⟨fd_check_contents, F_check_contents⟩ := c.def_ 14 (d := dD "check_contents" 33) rfl
  have g_check_contents := He.glo_ok X G (c.fact 14 (f := .glo "check_contents") rfl)
  obtain ⟨fd_check_sizes, F_check_sizes⟩ := c.def_ 15 (d := dD "check_sizes" 34) rfl
  have g_check_sizes := He.glo_ok X G (c.fact 15 (f := .glo "check_sizes") rfl)
  obtain ⟨fd_enough, F_enough⟩ := c.def_ 16 (d := dD "enough" 35) rfl
  have g_enough := He.glo_ok X G (c.fact 16 (f := .glo "enough") rfl)
  obtain ⟨fd_count_wishes, F_count_wishes⟩ := c.def_ 17 (d := dD "count_wishes" 36) rfl
  have g_count_wishes := He.glo_ok X G (c.fact 17 (f := .glo "count_wishes") rfl)
  obtain ⟨fd_lines_allow, F_lines_allow⟩ := c.def_ 18 (d := dD "lines_allow" 37) rfl
  have g_lines_allow := He.glo_ok X G (c.fact 18 (f := .glo "lines_allow") rfl)
  obtain ⟨fd_least_symbols, F_least_symbols⟩ := c.def_ 19 (d := dD "least_symbols" 38) rfl
  have g_least_symbols := He.glo_ok X G (c.fact 19 (f := .glo "least_symbols") rfl)
  obtain ⟨fd_heads_needed, F_heads_needed⟩ := c.def_ 20 (d := dD "heads_needed" 39) rfl
  have g_heads_needed := He.glo_ok X G (c.fact 20 (f := .glo "heads_needed") rfl)
  obtain ⟨fd_least_told, F_least_told⟩ := c.def_ 21 (d := dD "least_told" 40) rfl
  have g_least_told := He.glo_ok X G (c.fact 21 (f := .glo "least_told") rfl)
  obtain ⟨fd_is_exact, F_is_exact⟩ := c.def_ 22 (d := dD "is_exact" 41) rfl
  have g_is_exact := He.glo_ok X G (c.fact 22 (f := .glo "is_exact") rfl)
  obtain ⟨fd__law_cell, F__law_cell⟩ := c.def_ 23 (d := dD "_law_cell" 43) rfl
  have g__law_cell := He.glo_ok X G (c.fact 23 (f := .glo "_law_cell") rfl)
  obtain ⟨fd__law_box, F__law_box⟩ := c.def_ 24 (d := dD "_law_box" 44) rfl
  have g__law_box := He.glo_ok X G (c.fact 24 (f := .glo "_law_box") rfl)
  obtain ⟨fd__law_take, F__law_take⟩ := c.def_ 25 (d := dD "_law_take" 45) rfl
  have g__law_take := He.glo_ok X G (c.fact 25 (f := .glo "_law_take") rfl)
  obtain ⟨fd__law_power, F__law_power⟩ := c.def_ 26 (d := dD "_law_power" 46) rfl
  have g__law_power := He.glo_ok X G (c.fact 26 (f := .glo "_law_power") rfl)
  obtain ⟨fd__law_row, F__law_row⟩ := c.def_ 27 (d := dD "_law_row" 47) rfl
  have g__law_row := He.glo_ok X G (c.fact 27 (f := .glo "_law_row") rfl)
  obtain ⟨fd__law_allow, F__law_allow⟩ := c.def_ 28 (d := dD "_law_allow" 48) rfl
  have g__law_allow := He.glo_ok X G (c.fact 28 (f := .glo "_law_allow") rfl)
  obtain ⟨fd__law_least, F__law_least⟩ := c.def_ 29 (d := dD "_law_least" 49) rfl
  have g__law_least := He.glo_ok X G (c.fact 29 (f := .glo "_law_least") rfl)
  obtain ⟨fd__law_prime, F__law_prime⟩ := c.def_ 30 (d := dD "_law_prime" 50) rfl
  have g__law_prime := He.glo_ok X G (c.fact 30 (f := .glo "_law_prime") rfl)
  obtain ⟨fd__law_prime_from, F__law_prime_from⟩ := c.def_ 31 (d := dD "_law_prime_from" 51) rfl
  have g__law_prime_from := He.glo_ok X G (c.fact 31 (f := .glo "_law_prime_from") rfl)
  obtain ⟨fd__law_symbols, F__law_symbols⟩ := c.def_ 32 (d := dD "_law_symbols" 52) rfl
  have g__law_symbols := He.glo_ok X G (c.fact 32 (f := .glo "_law_symbols") rfl)
  obtain ⟨fd__law_world, F__law_world⟩ := c.def_ 33 (d := dD "_law_world" 53) rfl
  have g__law_world := He.glo_ok X G (c.fact 33 (f := .glo "_law_world") rfl)
  obtain ⟨fd__law_allowed, F__law_allowed⟩ := c.def_ 34 (d := dD "_law_allowed" 54) rfl
  have g__law_allowed := He.glo_ok X G (c.fact 34 (f := .glo "_law_allowed") rfl)
  obtain ⟨fd__law_numbers, F__law_numbers⟩ := c.def_ 35 (d := dD "_law_numbers" 55) rfl
  have g__law_numbers := He.glo_ok X G (c.fact 35 (f := .glo "_law_numbers") rfl)
  obtain ⟨fd__law_right, F__law_right⟩ := c.def_ 36 (d := dD "_law_right" 56) rfl
  have g__law_right := He.glo_ok X G (c.fact 36 (f := .glo "_law_right") rfl)
  obtain ⟨fd_law, F_law⟩ := c.def_ 37 (d := dD "law" 57) rfl
  have g_law := He.glo_ok X G (c.fact 37 (f := .glo "law") rfl)
  have b_bool := He.free_ok X G (c.fact 38 (f := .free "bool") rfl)
  have b_int := He.free_ok X G (c.fact 39 (f := .free "int") rfl)
  have b_isinstance := He.free_ok X G (c.fact 40 (f := .free "isinstance") rfl)
  have b_all := He.free_ok X G (c.fact 41 (f := .free "all") rfl)
  have b_min := He.free_ok X G (c.fact 42 (f := .free "min") rfl)
  have b_range := He.free_ok X G (c.fact 43 (f := .free "range") rfl)
  have b_list := He.free_ok X G (c.fact 44 (f := .free "list") rfl)
  have b_len := He.free_ok X G (c.fact 45 (f := .free "len") rfl)
  have b_sum := He.free_ok X G (c.fact 46 (f := .free "sum") rfl)
  have b_abs := He.free_ok X G (c.fact 47 (f := .free "abs") rfl)
  have b_max := He.free_ok X G (c.fact 48 (f := .free "max") rfl)
  have b_repr := He.free_ok X G (c.fact 49 (f := .free "repr") rfl)
  have b_sorted := He.free_ok X G (c.fact 50 (f := .free "sorted") rfl)
  have c_MOST_PRIME := He.int_ok X G (c.fact 51 (f := .int "MOST_PRIME" 997) rfl)
  have c_MOST_DISKS := He.int_ok X G (c.fact 52 (f := .int "MOST_DISKS" 12) rfl)
  have c_MOST_RECORDS := He.int_ok X G (c.fact 53 (f := .int "MOST_RECORDS" 24) rfl)
  have c_MOST_BLOCKS := He.int_ok X G (c.fact 54 (f := .int "MOST_BLOCKS" 1000) rfl)
  obtain ⟨fd_Array, F_Array⟩ := c.def_ 38 (d := ⟨("Array", some "__init__"), "__init__", "Array.__init__", defArgs (inClass (top 24) 0), defBody (inClass (top 24) 0), defScope (inClass (top 24) 0), [], []⟩) rfl
  have g_Array := He.glo_ok X G (c.fact 55 (f := .glo "Array") rfl)
  have M_Array := He.mkr_ok (c.fact 57 (f := .mkr "Array") rfl)
  have L_Array := He.cls_ok (c.fact 56 (f := .cls "Array") rfl)
  have A_Array_disks := He.noat_ok (c.fact 58 (f := .noat "Array" "disks") rfl)
  have A_Array_lost := He.noat_ok (c.fact 59 (f := .noat "Array" "lost") rfl)
  have A_Array_records := He.noat_ok (c.fact 60 (f := .noat "Array" "records") rfl)
  have A_Array_changes := He.noat_ok (c.fact 61 (f := .noat "Array" "changes") rfl)
  have A_Array_contents := He.noat_ok (c.fact 62 (f := .noat "Array" "contents") rfl)
  have A_Array_need := He.noat_ok (c.fact 63 (f := .noat "Array" "need") rfl)
  have A_Array_lots := He.noat_ok (c.fact 64 (f := .noat "Array" "lots") rfl)
  have A_Array_symbols := He.noat_ok (c.fact 65 (f := .noat "Array" "symbols") rfl)
  have A_Array_prime := He.noat_ok (c.fact 66 (f := .noat "Array" "prime") rfl)
  have A_Array_heads := He.noat_ok (c.fact 67 (f := .noat "Array" "heads") rfl)
  have N_Array : ClsN K _ n_Array := ⟨L_Array, fun y hy => by
    simp only [n_Array, List.mem_cons, List.not_mem_nil, or_false] at hy
    rcases hy with rfl | rfl | rfl | rfl | rfl | rfl | rfl | rfl | rfl | rfl
    · exact A_Array_disks
    · exact A_Array_lost
    · exact A_Array_records
    · exact A_Array_changes
    · exact A_Array_contents
    · exact A_Array_need
    · exact A_Array_lots
    · exact A_Array_symbols
    · exact A_Array_prime
    · exact A_Array_heads⟩
  have e := hfa.symm.trans g_law
  cases e
  have b := FunD.bindsA (ps := ["script"]) F_law fun _ _ _ _ _ _ us hl => match us, hl with | [_], _ => rfl
  refine ⟨fd_law, fun s v => b s [v] rfl, fun base _ _ => ?_⟩
  have C_is_whole := ok_is_whole (P := P) (w := w) (base := base) F_is_whole g_is_whole b_bool b_int b_isinstance
  have C_is_between := ok_is_between (P := P) (w := w) (base := base) F_is_between g_is_between C_is_whole
  have C_is_prime := ok_is_prime (P := P) (w := w) (base := base) F_is_prime g_is_prime b_all b_min b_range c_MOST_PRIME C_is_between
  have C_prime_below := ok_prime_below (P := P) (w := w) (base := base) F_prime_below g_prime_below C_is_prime
  have C_choose := ok_choose (P := P) (w := w) (base := base) F_choose g_choose b_range
  have C_spread := ok_spread (P := P) (w := w) (base := base) F_spread g_spread
  have C_telling := ok_telling (P := P) (w := w) (base := base) F_telling g_telling C_prime_below C_spread
  have C_check_shape := ok_check_shape (P := P) (w := w) (base := base) F_check_shape g_check_shape c_MOST_DISKS c_MOST_RECORDS C_is_between
  have C_is_disk := ok_is_disk (P := P) (w := w) (base := base) F_is_disk g_is_disk C_is_between
  have C_check_disk := ok_check_disk (P := P) (w := w) (base := base) F_check_disk g_check_disk C_is_disk
  have C_heads_on := ok_heads_on (P := P) (w := w) (base := base) F_heads_on g_heads_on b_list b_range C_check_disk
  have C_blocks_on := ok_blocks_on (P := P) (w := w) (base := base) F_blocks_on g_blocks_on b_len C_heads_on
  have C_all_blocks := ok_all_blocks (P := P) (w := w) (base := base) F_all_blocks g_all_blocks b_range b_sum C_blocks_on
  have C_power := ok_power (P := P) (w := w) (base := base) F_power g_power b_range
  have C_check_contents := ok_check_contents (P := P) (w := w) (base := base) F_check_contents g_check_contents c_MOST_PRIME C_is_between
  have C_check_sizes := ok_check_sizes (P := P) (w := w) (base := base) F_check_sizes g_check_sizes C_check_shape C_check_contents
  have K_Array := ok_Array (P := P) (w := w) (base := base) F_Array g_Array M_Array N_Array C_check_shape C_is_prime C_choose C_telling C_spread
  have C_enough := ok_enough (P := P) (w := w) (base := base) F_enough g_enough C_all_blocks K_Array
  have D_enough__records_contents_lost_changes_disks := okK_enough__records_contents_lost_changes_disks (P := P) (w := w) (base := base) F_enough g_enough C_all_blocks K_Array
  have C_count_wishes := ok_count_wishes (P := P) (w := w) (base := base) F_count_wishes g_count_wishes b_range C_power C_choose
  have C_lines_allow := ok_lines_allow (P := P) (w := w) (base := base) F_lines_allow g_lines_allow c_MOST_BLOCKS C_is_between C_check_sizes C_power C_count_wishes
  have D_lines_allow__records_contents_need_changes_blocks := okK_lines_allow__records_contents_need_changes_blocks (P := P) (w := w) (base := base) F_lines_allow g_lines_allow c_MOST_BLOCKS C_is_between C_check_sizes C_power C_count_wishes
  have C_least_symbols := ok_least_symbols (P := P) (w := w) (base := base) F_least_symbols g_least_symbols C_choose
  have C_heads_needed := ok_heads_needed (P := P) (w := w) (base := base) F_heads_needed g_heads_needed C_choose C_power C_least_symbols C_spread
  have C_least_told := ok_least_told (P := P) (w := w) (base := base) F_least_told g_least_told C_check_shape C_check_contents C_heads_needed
  have D_least_told__lost_contents_changes_disks_records := okK_least_told__lost_contents_changes_disks_records (P := P) (w := w) (base := base) F_least_told g_least_told C_check_shape C_check_contents C_heads_needed
  have C_is_exact := ok_is_exact (P := P) (w := w) (base := base) F_is_exact g_is_exact C_enough C_least_told
  have D_is_exact__contents_changes_records_lost_disks := okK_is_exact__contents_changes_records_lost_disks (P := P) (w := w) (base := base) F_is_exact g_is_exact C_enough C_least_told
  have C__law_cell := ok__law_cell (P := P) (w := w) (base := base) F__law_cell g__law_cell b_int b_len b_sum
  have C__law_box := ok__law_box (P := P) (w := w) (base := base) F__law_box g__law_box b_abs b_int
  have C__law_take := ok__law_take (P := P) (w := w) (base := base) F__law_take g__law_take b_int
  have C__law_power := ok__law_power (P := P) (w := w) (base := base) F__law_power g__law_power b_range
  have C__law_row := ok__law_row (P := P) (w := w) (base := base) F__law_row g__law_row b_len b_range
  have C__law_allow := ok__law_allow (P := P) (w := w) (base := base) F__law_allow g__law_allow b_range C__law_row C__law_power
  have C__law_least := ok__law_least (P := P) (w := w) (base := base) F__law_least g__law_least b_max b_range C__law_row C__law_power
  have C__law_prime := ok__law_prime (P := P) (w := w) (base := base) F__law_prime g__law_prime b_int b_min b_range
  have C__law_prime_from := ok__law_prime_from (P := P) (w := w) (base := base) F__law_prime_from g__law_prime_from b_min b_range C__law_prime
  have C__law_symbols := ok__law_symbols (P := P) (w := w) (base := base) F__law_symbols g__law_symbols b_len b_max b_range C__law_prime C__law_power
  have C__law_world := ok__law_world (P := P) (w := w) (base := base) F__law_world g__law_world b_len b_max b_min C__law_take C__law_prime_from C__law_row C__law_symbols
  have C__law_allowed := ok__law_allowed (P := P) (w := w) (base := base) F__law_allowed g__law_allowed C_lines_allow D_lines_allow__records_contents_need_changes_blocks
  have C__law_numbers := ok__law_numbers (P := P) (w := w) (base := base) F__law_numbers g__law_numbers C_enough D_enough__records_contents_lost_changes_disks C_least_told D_least_told__lost_contents_changes_disks_records C_is_exact D_is_exact__contents_changes_records_lost_disks
  have C__law_right := ok__law_right (P := P) (w := w) (base := base) F__law_right g__law_right b_len b_list b_range b_repr b_sorted b_sum C__law_least C__law_take C_blocks_on C__law_numbers C_all_blocks C__law_allowed C__law_allow
  exact fo_law F_law b_int b_len b_max b_min b_range C__law_box C__law_cell C__law_world C__law_right K_Array
theorem ov_emp (H : Hp) : ov emp H = H := rfl
theorem sp_law_ok {K : PySem.W.Frag} (H : Hp) (a : Addr) (ns : List Int) (hl : ns.length ≤ 63) (hS : SqL K H a (ns.map V.int)) : sp_law K [.ref a] H (fun v _ => v = .bl true) fun _ _ _ => False :=
  ⟨⟨ns⟩, (), H, emp, emp, rfl, fun _ => .inl rfl, .im ⟨a, rfl, hS⟩ .nil, R.sat_imp (law_ok ns hl) fun b s' hb v H' I' N' _ _ hr => by
    have h : v = V.bl b := hr.2.2
    rw [h, hb]⟩
end L68
open PySem PySem.W PySem.Calls PyProof.Rows
theorem PySem.Challenge.cw_sparesum_k68_whole_met_holds : PySem.Challenge.rw_sparesum_k68_whole_met.Holds := by
  w_on; o_law
  refine HandSHeadRun.head_any (r := OpenLaw.row PySem.Challenge.rw_sparesum_k68_whole_met) (q := view (OpenLaw.row PySem.Challenge.rw_sparesum_k68_whole_met).prog [57]) (H := L68.hk) (ob := L68.ob) (M := 20000) (loose := L68.names) (d := HandSHeadRun.topDef (OpenLaw.row PySem.Challenge.rw_sparesum_k68_whole_met).prog 57) (kwd := []) L68.ob_eq
    (by kernel_rfl) (fun s => by kernel_rfl) L68.run (by kernel_rfl) (by kernel_rfl) (by kernel_rfl) (by rfl) (by first | assumption | decide +kernel) (by decide +kernel) ⟨rfl, rfl, rfl, rfl, rfl, by decide +kernel⟩ ?hw ?hc
  case hw => w_witness2
  case hc =>
    refine Mir.walk_G (l := PySem.Challenge.rw_sparesum_k68_whole_met) (n := 63) (k := 12) (x := "script") (CX := L2.CX0) rfl (by decide) (by kernel_rfl) ⟨rfl, by decide, by decide⟩ ?F (fun _ _ _ _ z => z)
    intro w mg fa h Y G hmg0
    obtain ⟨K, KX, c⟩ := Y
    have hmg : mg ("law" : PySem.Str) = some (.ref fa) := by
      have e : (HandSHeadRun.topDef (OpenLaw.row PySem.Challenge.rw_sparesum_k68_whole_met).prog 57).name = ("law" : PySem.Str) := by kernel_rfl
      rw [← e]
      exact hmg0
    obtain ⟨fd, hb, hF⟩ := L68.facts (P := (PySem.Challenge.rw_sparesum_k68_whole_met).prog) (w := w) KX G hmg c
    exact ⟨K, fd, L68.sp_law K, KX, hb, fun H a ns hl _ hS => L68.sp_law_ok H a ns hl hS, hF⟩
