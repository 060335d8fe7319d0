import PyProof.Rows.All
import Wide.All
import OpenK.AllK
import Wide.FinOn
import KE.KStateDown
import Lean
import HandS.ForMost
import HandS.Steps
import HandS.IsInst
import HandS.More
import HandS.Exc
import HandS.WordsExc
import HandS.Defaults
import HandS.Head0
import HandS.Head1
import HandS.Head2
import HandS.HeadEnd
import HandS.HeadHook1
import HandS.HeadHook2
import HandS.Style
import HandS.TupLe
import HandS.Rev
import HandS.RevRange
import HandS.DictTup
import HandS.RaiseFrom
import HandS.SuiteRaise
import HandS.SetKeys
import HandS.ExcInit
import HandS.ExcField
import HandS.Walk
import KE.KxText
import HandS.CallSlots
import HandS.ExcIs
import KE.KExcIs
import HandS.TryOnly
import HandS.TryMany
import HandS.ExcOwn
import PySem.Challenge.RW_inningsbook_k09_refusals_apart
set_option Elab.async false
set_option linter.all false
set_option maxRecDepth 100000
set_option maxHeartbeats 4000000

namespace L2.A
open PySem PySem.Spec PyProof.Rows
/-! a layer of our own over HandS: defs by name, operators for every kind of value, one step a construct -/
/-- what is at fp may change, the rest stays -/
def Kp (fp : Addr → Prop) (H H' : Hp) : Prop := ∀ a o, H a = some o → ¬ fp a → H' a = some o
theorem Kp.same {fp : Addr → Prop} {H H' : Hp} (h : Same H H') : Kp fp H H' := fun a o e _ => h a o e
theorem Kp.refl {fp : Addr → Prop} {H : Hp} : Kp fp H H := fun _ _ e _ => e
theorem Kp.trans {fp : Addr → Prop} {H H1 H2 : Hp} (a : Kp fp H H1) (b : Kp fp H1 H2) : Kp fp H H2 := fun x o e n => b x o (a x o e n) n
theorem Kp.upd {H : Hp} {p : Addr} {o : HO} : Kp (fun a => a = p) H (upd H p o) := fun a u e n => by rw [upd_ne n]; exact e
theorem same_new {H : Hp} {p : Addr} {o : HO} (h : H p = none) : Same H (upd H p o) := fun a u e => by rw [upd_ne (ne_of_none e h)]; exact e
theorem same_new2 {H H' : Hp} {p : Addr} {o : HO} (s : Same H H') (h : H' p = none) : Same H (upd H' p o) := s.trans (same_new h)
/-- an object that H does not know may change -/
theorem same_mut {H H' : Hp} {p : Addr} {o : HO} (s : Same H H') (h : H p = none) : Same H (upd H' p o) := fun a u e => by rw [upd_ne (ne_of_none e h)]; exact s a u e
theorem same_kp {H H1 H2 : Hp} {p : Addr} (s : Same H H1) (k : Kp (fun a => a = p) H1 H2) (h : H p = none) : Same H H2 := fun a o e => k a o (s a o e) (ne_of_none e h)
theorem ge_same {H H' : Hp} {a : Addr} {o : HO} (s : Same H H') (h : H a = some o) : H' a = some o := s a o h

section
variable {P : Program} {w : World} {K : PySem.W.Frag} {mg : Str → Option Value} {base : Heap} {CX : CXT} {k : Nat}
/-- a def of the top by its name -/
structure Dn (P : Program) (w : World) (K : PySem.W.Frag) (mg : Str → Option Value) (base : Heap) (CX : CXT) (k : Nat) (x : Str) (ps : List Str) (dvs : List V) (sp : Sp) : Prop where
  ex : ∃ (f : Addr) (fd : FuncData) (ds : List Value), FnOk P w K mg base CX k f fd ps sp ∧ mg x = some (.ref f) ∧ PySem.W.keepIn K (.ref f) = true ∧ Binds K fd ps ds ∧ Vals dvs ds
end
section
variable {X : Cx} {CX : CXT} {k : Nat} {ps : List Str} {dvs : List V} {sp : Sp} {E : XK} {x : Str} {p pos : Pos} {e : Expr} {es : List Expr} {t : TA}
theorem pe_d (D : Dn X.prog X.w X.K X.mg X.base CX k x ps dvs sp) (hr : Room k X.A) (hg : Gl X x) (hx : Passes CX X E) (ha : PA X (e :: es) t) (hdb : (x == ("__debug__" : Str)) = false := by decide)
    (he : starEach (e :: es) X.env = (false, eval e X.env) :: starEach es X.env := by rfl) (hpl : (backTo pos (starEach es X.env)).any (·.1) = false := by rfl) : PE X (.Call (.Name x p) (e :: es) [] pos) (tCall sp dvs E t) := by
  obtain ⟨f, fd, ds, F, hm, hk, hb, hv⟩ := D.ex
  exact pe_call F hr hg hm hk hb hv hx ha hdb he hpl
theorem pe_d0 (D : Dn X.prog X.w X.K X.mg X.base CX k x ps dvs sp) (hr : Room k X.A) (hg : Gl X x) (hx : Passes CX X E) (hdb : (x == ("__debug__" : Str)) = false := by decide) : PE X (.Call (.Name x p) [] [] pos) (tCall sp dvs E tNil) := by
  obtain ⟨f, fd, ds, F, hm, hk, hb, hv⟩ := D.ex
  exact pe_call0 F hr hg hm hk hb hv hx hdb
end

/-! ### steps -/
section
variable {t u : TS} {D : Ends} {σ σ' : St} {H : Hp} {te ta tb tc : TE} {g : TG} {v : V} {i : Nat} {Q : VK} {r r' : R2} {tt tu : TT} {QB : Bool → Hp → Prop} {QS : St → Hp → Prop} {ts : TA} {QL : List V → Hp → Prop} {K : PySem.W.Frag}
theorem go_seq (h : t { D with nx := u D } σ H) : tSeq t u D σ H := h
theorem go_asg (h : te σ H fun x H1 => g x σ H1 D.nx) : tAsg te g D σ H := h
theorem go_name (e : σ.set i (some v) = σ') (h : QS σ' H) : gName i v σ H QS := by show QS (σ.set i (some v)) H; rw [e]; exact h
theorem go_var (e : σ[i]? = some (some v)) (h : Q v H) : tVar i σ H Q := ⟨v, e, h⟩
theorem go_c (h : Q v H) : tC v σ H Q := h
theorem go_op (h : ta σ H fun x H1 => tb σ H1 fun y H2 => r x y H2 Q) : tOp r ta tb σ H Q := h
theorem go_un {ru : V → Hp → VK → Prop} (h : ta σ H fun x H1 => ru x H1 Q) : tUn ru ta σ H Q := h
theorem go_I0 {f : Int → Int → V} {a b : Int} (h : Q (f a b) H) : rI0 f (.int a) (.int b) H Q := ⟨a, b, rfl, rfl, h⟩
theorem go_I {C : Int → Int → Prop} {f : Int → Int → V} {a b : Int} (c : C a b) (h : Q (f a b) H) : rI C f (.int a) (.int b) H Q := ⟨a, b, rfl, rfl, c, h⟩
theorem go_U {f : Int → V} {a : Int} (h : Q (f a) H) : rU f (.int a) H Q := ⟨a, rfl, h⟩
theorem go_ret (h : te σ H D.rt) : tRet te D σ H := h
theorem go_retN (h : D.rt .non H) : tRetN D σ H := h
theorem go_next (h : D.nx σ H) : tNext D σ H := h
theorem go_brk (h : D.bk σ H) : tBreak D σ H := h
theorem go_ct (h : D.ct σ H) : tCont D σ H := h
theorem go_if (h : tt σ H fun b H1 => if b = true then t D σ H1 else u D σ H1) : tIfS tt t u D σ H := h
theorem go_ifx (h : tt σ H fun c H1 => if c = true then ta σ H1 Q else tb σ H1 Q) : tIf tt ta tb σ H Q := h
def KB (x : V) (H : Hp) (QB : Bool → Hp → Prop) : Prop := ∃ k, x = .bl k ∧ QB k H
theorem go_test (h : te σ H fun x H' => KB x H' QB) : tTest te σ H QB := h
theorem go_B (h : te σ H fun x H' => KB x H' QB) : tB te σ H QB := h
theorem go_bl {b : Bool} (h : QB b H) : KB (.bl b) H QB := ⟨b, rfl, h⟩
theorem go_not (h : tt σ H fun c H1 => QB (!c) H1) : tNot tt σ H QB := h
theorem go_and (h : tt σ H fun c H1 => if c = true then tu σ H1 QB else QB false H1) : tAnd tt tu σ H QB := h
theorem go_or (h : tt σ H fun c H1 => if c = true then QB true H1 else tu σ H1 QB) : tOr tt tu σ H QB := h
theorem go_andV (h : ta σ H fun x H1 => KB x H1 fun c H1 => if c = true then tb σ H1 Q else Q (.bl false) H1) : tAndV ta tb σ H Q := h
theorem go_orV (h : ta σ H fun x H1 => KB x H1 fun c H1 => if c = true then Q (.bl true) H1 else tb σ H1 Q) : tOrV ta tb σ H Q := h
theorem go_notV (h : ta σ H fun x H1 => KB x H1 fun c H1 => Q (.bl (!c)) H1) : tNotV ta σ H Q := h
theorem go_drop (h : te σ H fun _ H1 => D.nx σ H1) : tDrop te D σ H := h
theorem go_nil (h : QL [] H) : tNil σ H QL := h
theorem go_cons (h : te σ H fun x H1 => ts σ H1 fun xs H2 => QL (x :: xs) H2) : tCons te ts σ H QL := h
def NewO (o : HO) (H : Hp) (Q : VK) : Prop := ∀ p, H p = none → Q (.ref p) (upd H p o)
def NewT (xs : List V) (H : Hp) (Q : VK) : Prop := xs.length ≤ sizeLine ∧ NewO (.tup xs) H Q
def NewL (xs : List V) (H : Hp) (Q : VK) : Prop := xs.length ≤ sizeLine ∧ NewO (.lst xs) H Q
theorem go_tup (h : ts σ H fun xs H1 => NewT xs H1 Q) : tTup ts σ H Q := h
theorem go_lst (h : ts σ H fun xs H1 => NewL xs H1 Q) : tLst ts σ H Q := h
theorem go_newT {xs : List V} (e : Nat.ble xs.length 1000 = true) (h : NewO (.tup xs) H Q) : NewT xs H Q := ⟨Nat.le_trans (Nat.le_of_ble_eq_true e) (by decide), h⟩
theorem go_newL {xs : List V} (e : Nat.ble xs.length 1000 = true) (h : NewO (.lst xs) H Q) : NewL xs H Q := ⟨Nat.le_trans (Nat.le_of_ble_eq_true e) (by decide), h⟩
theorem go_CB {rc : List V → Hp → VK → Prop} (h : ts σ H fun vs H1 => rc vs H1 Q) : tCB rc ts σ H Q := h
theorem go_call {sp : Sp} {dvs : List V} {E : XK} (h : ts σ H fun vs H1 => sp (vs ++ dvs) H1 Q E) : tCall sp dvs E ts σ H Q := h
theorem go_eq {x y : V} (e : scal x y = true) (h : Q (.bl (decide (x = y))) H) : rEq x y H Q := ⟨e, h⟩
theorem go_ne {x y : V} (e : scal x y = true) (h : Q (.bl (!decide (x = y))) H) : rNe x y H Q := ⟨e, h⟩
theorem go_chain (h : ta σ H fun x H1 => tb σ H1 fun y H2 => r x y H2 fun z H3 => KB z H3 fun k H3 => (if k = true then tc σ H3 fun w' H4 => r' y w' H4 Q else Q (.bl false) H3)) : tChain r r' ta tb tc σ H Q := h
theorem go_gtup {n : Nat} {tg : TGs} {a : Addr} {xs : List V} (hs : SqT K H a xs) (hl : xs.length = n) (h : tg xs σ H QS) : gTup K n tg (.ref a) σ H QS := ⟨a, xs, rfl, hs, hl, h⟩
theorem go_gcons {tg : TGs} {vs : List V} (h : g v σ H fun σ' H' => tg vs σ' H' QS) : gCons g tg (v :: vs) σ H QS := ⟨v, vs, rfl, h⟩
theorem go_gnil (h : QS σ H) : gNil [] σ H QS := ⟨rfl, h⟩
theorem go_nx {a : St → Hp → Prop} {b : VK} {c d : St → Hp → Prop} (h : a σ H) : Ends.nx ⟨a, b, c, d⟩ σ H := h
theorem go_rt {a : St → Hp → Prop} {b : VK} {c d : St → Hp → Prop} (h : b v H) : Ends.rt ⟨a, b, c, d⟩ v H := h
theorem go_bk {a : St → Hp → Prop} {b : VK} {c d : St → Hp → Prop} (h : c σ H) : Ends.bk ⟨a, b, c, d⟩ σ H := h
theorem go_ctx {a : St → Hp → Prop} {b : VK} {c d : St → Hp → Prop} (h : d σ H) : Ends.ct ⟨a, b, c, d⟩ σ H := h
theorem go_sub {to ti : TE} {ps : TSet} (h : to σ H fun o H1 => ti σ H1 fun i H2 => ps o i v H2 fun H3 => QS σ H3) : gSub to ti ps v σ H QS := h
theorem iteNT {A B : Prop} (h : B) : if (!true) = true then A else B := by rw [if_neg (by decide)]; exact h
theorem iteNF {A B : Prop} (h : A) : if (!false) = true then A else B := by rw [if_pos (by decide)]; exact h
theorem if2 {b : Bool} {A B : Prop} (h1 : b = true → A) (h2 : b = false → B) : if b = true then A else B := by
  cases b with
  | true => exact h1 rfl
  | false => exact h2 rfl
end
end L2.A

namespace L2.A
open PySem PySem.Spec PyProof.Rows
/-! ### operators for every kind of value -/
theorem boot_len : bootBuiltins "len" = some (.builtin "len") := by decide +kernel
theorem boot_isinstance : bootBuiltins "isinstance" = some (.builtin "isinstance") := by decide +kernel
theorem boot_sum : bootBuiltins "sum" = some (.builtin "sum") := by decide +kernel
theorem boot_max : bootBuiltins "max" = some (.builtin "max") := by decide +kernel
theorem boot_min : bootBuiltins "min" = some (.builtin "min") := by decide +kernel
theorem boot_all : bootBuiltins "all" = some (.builtin "all") := by decide +kernel
theorem boot_any : bootBuiltins "any" = some (.builtin "any") := by decide +kernel
theorem boot_abs : bootBuiltins "abs" = some (.builtin "abs") := by decide +kernel
theorem boot_sorted : bootBuiltins "sorted" = some (.builtin "sorted") := by decide +kernel
theorem boot_int : bootBuiltins "int" = some (.type "int") := by decide +kernel
theorem boot_str : bootBuiltins "str" = some (.type "str") := by decide +kernel
theorem boot_bool : bootBuiltins "bool" = some (.type "bool") := by decide +kernel
theorem boot_list : bootBuiltins "list" = some (.type "list") := by decide +kernel
theorem boot_tuple : bootBuiltins "tuple" = some (.type "tuple") := by decide +kernel
theorem boot_dict : bootBuiltins "dict" = some (.type "dict") := by decide +kernel
theorem boot_set : bootBuiltins "set" = some (.type "set") := by decide +kernel
theorem boot_ValueError : bootBuiltins "ValueError" = some (.type "ValueError") := by decide +kernel
section
variable {X : Cx} {K : PySem.W.Frag} {H : Hp} {Q : VK} {v : V}
abbrev rStrA : R2 := fun x y H Q => ∃ i j, x = .str i ∧ y = .str j ∧ i.length + j.length ≤ sizeLine ∧ Q (.str (i ++ j)) H
abbrev rIntB : R2 := fun x y H Q => ∃ i k, x = .int i ∧ y = .bl k ∧ Q (.int (i + b2i k)) H
def rAddX (K : PySem.W.Frag) : R2 := fun x y H Q => rI0 (fun i j => .int (i + j)) x y H Q ∨ rStrA x y H Q ∨ rCat x y H Q ∨ rCatT K x y H Q ∨ rIntB x y H Q
theorem op_addX : OpR X (binaryOp .Add) (rAddX X.K) := op_add.or (op_add_str.or (op_cat.or (op_catT.or op_add_ib)))
theorem go_addI {a b : Int} (h : Q (.int (a + b)) H) : rAddX K (.int a) (.int b) H Q := .inl ⟨a, b, rfl, rfl, h⟩
theorem go_addS {a b : Str} (z : a.length + b.length ≤ sizeLine) (h : Q (.str (a ++ b)) H) : rAddX K (.str a) (.str b) H Q := .inr (.inl ⟨a, b, rfl, rfl, z, h⟩)
theorem go_addB {a : Int} {b : Bool} (h : Q (.int (a + b2i b)) H) : rAddX K (.int a) (.bl b) H Q := .inr (.inr (.inr (.inr ⟨a, b, rfl, rfl, h⟩)))
theorem go_addL {p q : Addr} {xs ys : List V} (hp : H p = some (.lst xs)) (hq : H q = some (.lst ys)) (z : xs.length + ys.length ≤ sizeLine) (h : NewO (.lst (xs ++ ys)) H Q) : rAddX K (.ref p) (.ref q) H Q :=
  .inr (.inr (.inl ⟨p, q, xs, ys, rfl, rfl, hp, hq, z, h⟩))
theorem go_addT {p q : Addr} {x : V} {xs : List V} {y : V} {ys : List V} (hp : SqT K H p (x :: xs)) (hq : SqT K H q (y :: ys)) (z : (x :: xs).length + (y :: ys).length ≤ sizeLine) (h : NewO (.tup (x :: xs ++ y :: ys)) H Q) : rAddX K (.ref p) (.ref q) H Q :=
  .inr (.inr (.inr (.inl ⟨p, q, _, _, rfl, rfl, hp, hq, by simp, z, (fun e => nomatch e), fun _ => h⟩)))
/-- whole numbers, or a list so many times -/
def rMulS : R2 := fun x y H Q => ∃ a n, x = .str a ∧ y = .int n ∧ MulOk a n ∧ Q (.str (Txt.mul a n)) H
theorem op_mulS : OpR X (binaryOp .Mult) rMulS := by
  intro pins s σ H x y v u Q I rx ry h
  obtain ⟨a, n, rfl, rfl, ok, q⟩ := h
  obtain ⟨t, rfl⟩ := rx
  obtain ⟨t', rfl⟩ := ry
  exact SB.mul ok fun t' k => ⟨.str _, H, I.tok k, ⟨t', rfl⟩, q⟩
def rMulX : R2 := fun x y H Q => rI CMul (fun i j => .int (i * j)) x y H Q ∨ rRep x y H Q ∨ rMulS x y H Q
theorem op_mulX : OpR X (binaryOp .Mult) rMulX := op_mul.or (op_rep.or op_mulS)
theorem go_mulS {a : Str} {n : Int} (ok : MulOk a n) (h : Q (.str (Txt.mul a n)) H) : rMulX (.str a) (.int n) H Q := .inr (.inr ⟨a, n, rfl, rfl, ok, h⟩)
theorem go_mulI {a b : Int} (c : CMul a b) (h : Q (.int (a * b)) H) : rMulX (.int a) (.int b) H Q := .inl ⟨a, b, rfl, rfl, c, h⟩
/-- == -/
def rEqX (K : PySem.W.Frag) : R2 := fun x y H Q => rEq x y H Q ∨ rEqD K x y H Q
def rNeX (K : PySem.W.Frag) : R2 := fun x y H Q => rNe x y H Q ∨ rNeD K x y H Q
theorem op_eqX (hu : X.A.units + 64 < cLine) : OpR X (compareOp .Eq) (rEqX X.K) := op_eq.or (op_eqD hu)
theorem op_neX (hu : X.A.units + 64 < cLine) : OpR X (compareOp .NotEq) (rNeX X.K) := op_ne.or (op_neD hu)
theorem go_eqS {x y : V} (e : scal x y = true) (h : Q (.bl (decide (x = y))) H) : rEqX K x y H Q := .inl ⟨e, h⟩
theorem go_neS {x y : V} (e : scal x y = true) (h : Q (.bl (!decide (x = y))) H) : rNeX K x y H Q := .inl ⟨e, h⟩
/-- in -/
theorem op_in_d (hu : X.A.units + 1 < cLine) : OpR X (compareOp .In) (fun y x H Q => ∃ a o, x = .ref a ∧ DGet H a y o ∧ Q (.bl o.isSome) H) := by
  intro pins s σ H y x iv u Q I ry rx h
  obtain ⟨a, o, rfl, g, q⟩ := h
  cases rx
  exact d_in hu I g ry fun s3 I3 => ⟨.bl o.isSome, H, I3, rfl, q⟩
theorem op_notIn_d (hu : X.A.units + 1 < cLine) : OpR X (compareOp .NotIn) (fun y x H Q => ∃ a o, x = .ref a ∧ DGet H a y o ∧ Q (.bl (!o.isSome)) H) := by
  intro pins s σ H y x iv u Q I ry rx h
  obtain ⟨a, o, rfl, g, q⟩ := h
  cases rx
  exact d_notIn hu I g ry fun s3 I3 => ⟨.bl (!o.isSome), H, I3, rfl, q⟩
abbrev rInD : R2 := fun y x H Q => ∃ a o, x = .ref a ∧ DGet H a y o ∧ Q (.bl o.isSome) H
abbrev rNotInD : R2 := fun y x H Q => ∃ a o, x = .ref a ∧ DGet H a y o ∧ Q (.bl (!o.isSome)) H
def rInX (K : PySem.W.Frag) : R2 := fun x y H Q => rIn K false x y H Q ∨ rInS x y H Q ∨ rInD x y H Q
def rNotInX (K : PySem.W.Frag) : R2 := fun x y H Q => rIn K true x y H Q ∨ rNotInS x y H Q ∨ rNotInD x y H Q
theorem op_inX (hu : X.A.units + 1 < cLine) : OpR X (compareOp .In) (rInX X.K) := op_in_seq.or (op_inS.or (op_in_d hu))
theorem op_notInX (hu : X.A.units + 1 < cLine) : OpR X (compareOp .NotIn) (rNotInX X.K) := op_notIn_seq.or (op_notInS.or (op_notIn_d hu))
theorem go_inL {x : V} {p : Addr} {xs : List V} (hp : SqL K H p xs) (fx : flatV x = true) (fs : xs.all flatV = true) (h : Q (.bl (inV x xs)) H) : rInX K x (.ref p) H Q := .inl ⟨p, xs, rfl, .inl hp, fx, fs, h⟩
theorem go_inT {x : V} {p : Addr} {xs : List V} (hp : SqT K H p xs) (fx : flatV x = true) (fs : xs.all flatV = true) (h : Q (.bl (inV x xs)) H) : rInX K x (.ref p) H Q := .inl ⟨p, xs, rfl, .inr hp, fx, fs, h⟩
theorem go_inSg {c : Nat} {z : Str} (h : Q (.bl (decide (c ∈ z.cps.toList))) H) : rInX K (.str ⟨#[c]⟩) (.str z) H Q := .inr (.inl ⟨c, z, rfl, rfl, h⟩)
theorem go_inK {p : Addr} {kvs : List (Key × V)} (k : Key) (hp : H p = some (.dK kvs)) (h : Q (.bl (valV kvs k).isSome) H) : rInX K (kV k) (.ref p) H Q := .inr (.inr ⟨p, _, rfl, DGet.k hp, h⟩)
theorem go_ninL {x : V} {p : Addr} {xs : List V} (hp : SqL K H p xs) (fx : flatV x = true) (fs : xs.all flatV = true) (h : Q (.bl (!inV x xs)) H) : rNotInX K x (.ref p) H Q := .inl ⟨p, xs, rfl, .inl hp, fx, fs, h⟩
theorem go_ninT {x : V} {p : Addr} {xs : List V} (hp : SqT K H p xs) (fx : flatV x = true) (fs : xs.all flatV = true) (h : Q (.bl (!inV x xs)) H) : rNotInX K x (.ref p) H Q := .inl ⟨p, xs, rfl, .inr hp, fx, fs, h⟩
theorem go_ninSg {c : Nat} {z : Str} (h : Q (.bl (!decide (c ∈ z.cps.toList))) H) : rNotInX K (.str ⟨#[c]⟩) (.str z) H Q := .inr (.inl ⟨c, z, rfl, rfl, h⟩)
theorem go_ninK {p : Addr} {kvs : List (Key × V)} (k : Key) (hp : H p = some (.dK kvs)) (h : Q (.bl (!(valV kvs k).isSome)) H) : rNotInX K (kV k) (.ref p) H Q := .inr (.inr ⟨p, _, rfl, DGet.k hp, h⟩)
/-- is: None alone, or a truth -/
abbrev rIsO : R2 := fun x y H Q => ∃ a b oa ob, x = .ref a ∧ y = .ref b ∧ H a = some oa ∧ isObj oa = true ∧ H b = some ob ∧ isObj ob = true ∧ Q (.bl (decide (a = b))) H
abbrev rNotO : R2 := fun x y H Q => ∃ a b oa ob, x = .ref a ∧ y = .ref b ∧ H a = some oa ∧ isObj oa = true ∧ H b = some ob ∧ isObj ob = true ∧ Q (.bl (!decide (a = b))) H
abbrev rIsC (K : PySem.W.Frag) : R2 := fun x y H Q => ∃ a b, x = V.ref a ∧ y = V.ref b ∧ (a = b ∨ (PySem.W.makesIn K a = true ∧ PySem.W.makesIn K b = true)) ∧ Q (.bl (decide (a = b))) H
abbrev rNotC (K : PySem.W.Frag) : R2 := fun x y H Q => ∃ a b, x = V.ref a ∧ y = V.ref b ∧ (a = b ∨ (PySem.W.makesIn K a = true ∧ PySem.W.makesIn K b = true)) ∧ Q (.bl (!decide (a = b))) H
def rIsX (K : PySem.W.Frag) : R2 := fun x y H Q => rIsN x y H Q ∨ rIsB x y H Q ∨ rIsO x y H Q ∨ rIsC K x y H Q
def rIsNotX (K : PySem.W.Frag) : R2 := fun x y H Q => rNotN x y H Q ∨ rNotB x y H Q ∨ rNotO x y H Q ∨ rNotC K x y H Q
theorem op_isX : OpR X (compareOp .Is) (rIsX X.K) := op_isN1.or (op_isBl.or (op_is_ref.or op_is_cls))
theorem op_isNotX : OpR X (compareOp .IsNot) (rIsNotX X.K) := op_notN1.or (op_notBl.or (op_isnot_ref.or op_isnot_cls))
theorem go_isN {x : V} (h : Q (.bl (decide (x = .non))) H) : rIsX K x .non H Q := .inl ⟨rfl, h⟩
theorem go_notN {x : V} (h : Q (.bl (!decide (x = .non))) H) : rIsNotX K x .non H Q := .inl ⟨rfl, h⟩
theorem go_isB {a b : Bool} (h : Q (.bl (decide (a = b))) H) : rIsX K (.bl a) (.bl b) H Q := .inr (.inl ⟨_, _, rfl, rfl, h⟩)
theorem go_notB {a b : Bool} (h : Q (.bl (!decide (a = b))) H) : rIsNotX K (.bl a) (.bl b) H Q := .inr (.inl ⟨_, _, rfl, rfl, h⟩)
/-- o[i] -/
abbrev rIxD : R2 := fun x y H Q => ∃ a v, x = .ref a ∧ DGet H a y (some v) ∧ Q v H
theorem ix_dict (hu : X.A.units + 1 < cLine) : IxR X rIxD := by
  intro value slice pins s σ H x y v u Q I rx ry h hs
  obtain ⟨a, z, rfl, g, q⟩ := h
  cases rx
  exact tail_any (dict_typeIs I g) PySem.F.slot_dict_getitem.lookup (d_getItem hu I g ry fun w' s3 I3 rw' => ⟨z, H, I3, rw', q⟩) hs
def rIxX (K : PySem.W.Frag) : R2 := fun x y H Q => rIxL K x y H Q ∨ rIxT K x y H Q ∨ rIxS x y H Q ∨ rIxD x y H Q
theorem ix_X (hu : X.A.units + 1 < cLine) : IxR X (rIxX X.K) := ix_list.or (ix_tup.or (ix_str.or (ix_dict hu)))
theorem go_xL {p : Addr} {xs : List V} {j : Int} (hp : SqL K H p xs) (ha : atI xs j = some v) (h : Q v H) : rIxX K (.ref p) (.int j) H Q := .inl ⟨p, xs, j, v, rfl, rfl, hp, ha, h⟩
theorem go_xT {p : Addr} {xs : List V} {j : Int} (hp : SqT K H p xs) (ha : atI xs j = some v) (h : Q v H) : rIxX K (.ref p) (.int j) H Q := .inr (.inl ⟨p, xs, j, v, rfl, rfl, hp, ha, h⟩)
theorem go_xS {z : Str} {j : Int} {c : Nat} (hz : z.length ≤ sizeLine) (ha : atI z.cps.toList j = some c) (h : Q (.str ⟨#[c]⟩) H) : rIxX K (.str z) (.int j) H Q := .inr (.inr (.inl ⟨z, j, c, rfl, rfl, hz, ha, h⟩))
theorem go_xK {p : Addr} {kvs : List (Key × V)} (k : Key) (hp : H p = some (.dK kvs)) (hv : valV kvs k = some v) (h : Q v H) : rIxX K (.ref p) (kV k) H Q := .inr (.inr (.inr ⟨p, v, rfl, hv ▸ DGet.k hp, h⟩))
theorem go_xKs {p : Addr} {kvs : List (Key × V)} {z : Str} (hp : H p = some (.dK kvs)) (hv : valV kvs (Sum.inr z) = some v) (h : Q v H) : rIxX K (.ref p) (.str z) H Q := go_xK (Sum.inr z) hp hv h
/-- o[i] = e -/
theorem PSet.or {r r' : TSet} (h : PSet X r) (h' : PSet X r') : PSet X (fun o i v H Q => r o i v H Q ∨ r' o i v H Q) := by
  intro pins s σ H o i v ov iv u Q I ro ri rv q
  rcases q with q | q
  · exact h pins s σ H o i v ov iv u Q I ro ri rv q
  · exact h' pins s σ H o i v ov iv u Q I ro ri rv q
abbrev rSetD : TSet := fun o i v H Q => ∃ a H4, o = .ref a ∧ DPut H a i v H4 ∧ Q H4
theorem set_dict (hu : X.A.units + 1 < cLine) : PSet X rSetD := by
  intro pins s σ H o i v ov iv u Q I ro ri rv h
  obtain ⟨a, H4, rfl, g, q⟩ := h
  cases ro
  exact d_setItem hu I g ri rv fun s4 I4 => ⟨H4, I4, q⟩
def rSetX : TSet := fun o i v H Q => rSetL o i v H Q ∨ rSetD o i v H Q
theorem set_X (hu : X.A.units + 1 < cLine) : PSet X rSetX := PSet.or set_list (set_dict hu)
variable {QH : Hp → Prop}
theorem go_sL {l : Addr} {xs : List V} {j : Int} {n : Nat} (hl : H l = some (.lst xs)) (hj : ixN xs.length j = some n) (h : QH (upd H l (.lst (xs.set n v)))) : rSetX (.ref l) (.int j) v H QH := .inl ⟨l, xs, j, n, rfl, rfl, hl, hj, h⟩
theorem go_sK {p : Addr} {kvs : List (Key × V)} (k : Key) (hp : H p = some (.dK kvs)) (z : kvs.length < sizeLine) (h : QH (upd H p (.dK (putK kvs k v)))) : rSetX (.ref p) (kV k) v H QH := .inr ⟨p, _, rfl, DPut.k hp z, h⟩
theorem go_sKs {p : Addr} {kvs : List (Key × V)} {x : Str} (hp : H p = some (.dK kvs)) (z : kvs.length < sizeLine) (h : QH (upd H p (.dK (putK kvs (Sum.inr x) v)))) : rSetX (.ref p) (.str x) v H QH := go_sK (Sum.inr x) hp z h
/-- slices -/
abbrev rSlS : V → Option Int → Option Int → Hp → VK → Prop := fun x lo hi H Q => ∃ z, x = .str z ∧ z.length ≤ sizeLine ∧ Q (.str (cutS z lo hi)) H
def rSlX (K : PySem.W.Frag) : V → Option Int → Option Int → Hp → VK → Prop := fun x lo hi H Q => rSlL K x lo hi H Q ∨ rSlT K x lo hi H Q ∨ rSlS x lo hi H Q
theorem sl_X : SlR X (rSlX X.K) := sl_list.or (sl_tup.or sl_str)
/-- len, int, isinstance, truth -/
abbrev rLenD : List V → Hp → VK → Prop := fun xs H Q => ∃ a kvs, xs = [V.ref a] ∧ H a = some (.dK kvs) ∧ Q (.int kvs.length) H
abbrev rLenV (K : PySem.W.Frag) : List V → Hp → VK → Prop := fun xs H Q => ∃ x n, xs = [x] ∧ LenV K x H n ∧ Q (.int n) H
def rLenX (K : PySem.W.Frag) : List V → Hp → VK → Prop := fun xs H Q => rLenV K xs H Q ∨ rLenD xs H Q
theorem call_lenX : CallR X (.builtin "len") (rLenX X.K) := call_len.or call_lenD
theorem go_lenL {p : Addr} {xs : List V} (hp : SqL K H p xs) (h : Q (.int xs.length) H) : rLenX K [.ref p] H Q := .inl ⟨_, _, rfl, .inl ⟨xs, hp, rfl⟩, h⟩
theorem go_lenT {p : Addr} {xs : List V} (hp : SqT K H p xs) (h : Q (.int xs.length) H) : rLenX K [.ref p] H Q := .inl ⟨_, _, rfl, .inr ⟨xs, hp, rfl⟩, h⟩
theorem go_lenS {z : Str} (hz : z.length ≤ sizeLine) (h : Q (.int z.length) H) : rLenX K [.str z] H Q := .inl ⟨.str z, z.length, rfl, ⟨hz, rfl⟩, h⟩
theorem go_lenD {p : Addr} {kvs : List (Key × V)} (hp : H p = some (.dK kvs)) (h : Q (.int kvs.length) H) : rLenX K [.ref p] H Q := .inr ⟨p, kvs, rfl, hp, h⟩
abbrev rInt1 : List V → Hp → VK → Prop := fun xs H Q => (∃ i, xs = [.int i] ∧ Q (.int i) H) ∨ ∃ k, xs = [.bl k] ∧ Q (.int (if k then 1 else 0)) H
abbrev rIntS : List V → Hp → VK → Prop := fun xs H Q => ∃ a n, xs = [.str a] ∧ PySem.intText? a = some n ∧ a.length ≤ 640 ∧ Q (.int n) H
def rIntX : List V → Hp → VK → Prop := fun xs H Q => rInt1 xs H Q ∨ rIntS xs H Q
theorem call_intX : CallR X (.type "int") rIntX := call_int1.or call_int_str
theorem go_intI {i : Int} (h : Q (.int i) H) : rIntX [.int i] H Q := .inl (.inl ⟨i, rfl, h⟩)
theorem go_intB {k : Bool} (h : Q (.int (if k then 1 else 0)) H) : rIntX [.bl k] H Q := .inl (.inr ⟨k, rfl, h⟩)
theorem go_intS {a : Str} {n : Int} (e : PySem.intText? a = some n) (z : a.length ≤ 640) (h : Q (.int n) H) : rIntX [.str a] H Q := .inr ⟨a, n, rfl, e, z, h⟩
def rIsiX (K : PySem.W.Frag) : List V → Hp → VK → Prop := fun xs H Q => rIsi K xs H Q ∨ rIsiT K xs H Q
theorem call_isiX : CallR X (.builtin "isinstance") (rIsiX X.K) := call_isi.or call_isiT
theorem go_isi {x : V} {T U : String} {b : Bool} (ty : TyX K H x (.type U)) (e : kitB U T = some b) (h : Q (.bl b) H) : rIsiX K [x, .ty T] H Q := .inl ⟨x, .ty T, .type U, .type T, b, rfl, .ty T, ty, kit_ty e, h⟩
def rListO (K : PySem.W.Frag) : List V → Hp → VK → Prop := fun xs H Q => ∃ p ys, xs = [.ref p] ∧ (SqL K H p ys ∨ SqT K H p ys) ∧ ∀ l, H l = none → Q (.ref l) (upd H l (.lst ys))
theorem call_listO : CallR X (.type "list") (rListO X.K) := call_list_of
def rTupO (K : PySem.W.Frag) : List V → Hp → VK → Prop := fun xs H Q => ∃ p ys, xs = [.ref p] ∧ ((SqL K H p ys ∧ ∀ l, H l = none → Q (.ref l) (upd H l (.tup ys))) ∨ (SqT K H p ys ∧ Q (.ref p) H))
theorem call_tupO : CallR X (.type "tuple") (rTupO X.K) := call_tuple_of
def rMx2 : List V → Hp → VK → Prop := fun xs H Q => ∃ i j, xs = [.int i, .int j] ∧ Q (.int (if j > i then j else i)) H
def rMn2 : List V → Hp → VK → Prop := fun xs H Q => ∃ i j, xs = [.int i, .int j] ∧ Q (.int (if j < i then j else i)) H
theorem call_mx2 (hc : X.calm = true) : CallR X (.builtin "max") rMx2 := call_max2 hc
theorem call_mn2 (hc : X.calm = true) : CallR X (.builtin "min") rMn2 := call_min2 hc
def rAbsI : List V → Hp → VK → Prop := fun xs H Q => ∃ i, xs = [.int i] ∧ Q (.int (if i < 0 then -i else i)) H
theorem call_absI : CallR X (.builtin "abs") rAbsI := call_abs
def rStrI : List V → Hp → VK → Prop := fun xs H Q => ∃ i, xs = [.int i] ∧ i.natAbs.log2 < 1920 ∧ Q (.str (toString i)) H
theorem call_strI : CallR X (.type "str") rStrI := call_str_int
theorem go_listL {l : Addr} {xs : List V} (hS : SqL K H l xs) (h : NewO (.lst xs) H Q) : rListO K [V.ref l] H Q := ⟨l, xs, rfl, .inl hS, h⟩
theorem go_listT {l : Addr} {xs : List V} (hS : SqT K H l xs) (h : NewO (.lst xs) H Q) : rListO K [V.ref l] H Q := ⟨l, xs, rfl, .inr hS, h⟩
theorem go_tupL {l : Addr} {xs : List V} (hS : SqL K H l xs) (h : NewO (.tup xs) H Q) : rTupO K [V.ref l] H Q := ⟨l, xs, rfl, .inl ⟨hS, h⟩⟩
theorem go_tupT {l : Addr} {xs : List V} (hS : SqT K H l xs) (h : Q (.ref l) H) : rTupO K [V.ref l] H Q := ⟨l, xs, rfl, .inr ⟨hS, h⟩⟩
theorem go_max {a b : Int} (h : Q (.int (max a b)) H) : rMx2 [V.int a, V.int b] H Q := ⟨a, b, rfl, by
  have e : (if b > a then b else a) = max a b := by
    by_cases c : b > a
    · rw [if_pos c]; omega
    · rw [if_neg c]; omega
  rw [e]; exact h⟩
theorem go_min {a b : Int} (h : Q (.int (min a b)) H) : rMn2 [V.int a, V.int b] H Q := ⟨a, b, rfl, by
  have e : (if b < a then b else a) = min a b := by
    by_cases c : b < a
    · rw [if_pos c]; omega
    · rw [if_neg c]; omega
  rw [e]; exact h⟩
theorem go_abs {a : Int} (h : Q (.int a.natAbs) H) : rAbsI [V.int a] H Q := ⟨a, rfl, by
  have e : (if a < 0 then -a else a) = (a.natAbs : Int) := by
    by_cases c : a < 0
    · rw [if_pos c]; omega
    · rw [if_neg c]; omega
  rw [e]; exact h⟩
theorem go_str {a : Int} (z : a.natAbs.log2 < 1920) (h : Q (.str (toString a)) H) : rStrI [V.int a] H Q := ⟨a, rfl, z, h⟩
def tTruX (K : PySem.W.Frag) (te : TE) : TT := fun σ H Q => te σ H fun x H' => ∃ k, TruV K x H' k ∧ Q k H'
theorem pt_truX {a : Expr} {ta : TE} (ha : PE X a ta) (he : ∀ whole, isTrue a X.env whole = (do let v ← whole; standAt a.pos; holding [v] (truthy v)) := by intro _; rfl) : PT X a (tTruX X.K ta) := pt_truth ha he
def KT (K : PySem.W.Frag) (x : V) (H : Hp) (QB : Bool → Hp → Prop) : Prop := ∃ k, TruV K x H k ∧ QB k H
theorem go_tru {te : TE} {σ : St} {QB : Bool → Hp → Prop} (h : te σ H fun x H' => KT K x H' QB) : tTruX K te σ H QB := h
theorem go_truB {b : Bool} {QB : Bool → Hp → Prop} (h : QB b H) : KT K (.bl b) H QB := ⟨b, rfl, h⟩
theorem go_truI {i : Int} {QB : Bool → Hp → Prop} (h : QB (i != 0) H) : KT K (.int i) H QB := ⟨_, rfl, h⟩
theorem go_truN {QB : Bool → Hp → Prop} (h : QB false H) : KT K .non H QB := ⟨_, rfl, h⟩
theorem kit_ii : kitB "int" "int" = some true := by decide +kernel
theorem kit_ib : kitB "int" "bool" = some false := by decide +kernel
theorem kit_bb : kitB "bool" "bool" = some true := by decide +kernel
theorem kit_bi : kitB "bool" "int" = some true := by decide +kernel
theorem kit_ss : kitB "str" "str" = some true := by decide +kernel
theorem kit_nb : kitB "NoneType" "bool" = some false := by decide +kernel
theorem kit_ni : kitB "NoneType" "int" = some false := by decide +kernel
theorem kit_ns : kitB "NoneType" "str" = some false := by decide +kernel
theorem kit_nt : kitB "NoneType" "tuple" = some false := by decide +kernel
theorem kit_is : kitB "int" "str" = some false := by decide +kernel
theorem kit_si : kitB "str" "int" = some false := by decide +kernel
theorem kit_sb : kitB "str" "bool" = some false := by decide +kernel
theorem kit_tt : kitB "tuple" "tuple" = some true := by decide +kernel
theorem kit_ll : kitB "list" "list" = some true := by decide +kernel
theorem kit_tl : kitB "tuple" "list" = some false := by decide +kernel
theorem kit_lt : kitB "list" "tuple" = some false := by decide +kernel
theorem kit_bs : kitB "bool" "str" = some false := by decide +kernel
/-- a list or a tuple that is walked -/
def IX (K : PySem.W.Frag) (x : V) (H1 : Hp) (R : It → Hp → Prop) : Prop := (∃ a, x = .ref a ∧ (∃ xs, SqL K H1 a xs) ∧ R (Itl K a) H1) ∨ (∃ a, x = .ref a ∧ (∃ xs, SqT K H1 a xs) ∧ R (Itt K a) H1) ∨ (∃ z, x = .str z ∧ R (Its z) H1)
def iX (K : PySem.W.Frag) (tl : TE) : TI := fun σ H R => tl σ H fun x H1 => (∃ a, x = .ref a ∧ (∃ xs, SqL K H1 a xs) ∧ R (Itl K a) H1) ∨ (∃ a, x = .ref a ∧ (∃ xs, SqT K H1 a xs) ∧ R (Itt K a) H1) ∨ (∃ z, x = .str z ∧ R (Its z) H1)
theorem pi_X {tg l : Expr} {tl : TE} (hl : PE X l tl) : PI X tg l (iX X.K tl) := by
  refine ⟨fun pins s σ H R I h => ?_⟩
  refine thn (hl.run pins s σ H _ I h) fun v s1 ⟨x, H1, I1, r1, q1⟩ => ?_
  rcases q1 with ⟨a, ex, ⟨xs, hq⟩, q⟩ | ⟨a, ex, ⟨xs, hq⟩, q⟩ | ⟨z, ex, q⟩
  · subst ex
    cases r1
    obtain ⟨its, rv, p, hz⟩ := I1.list hq
    refine wpAny_pyIter_list p.isList ?_
    refine ⟨s1.heap.objs.size, [s1.heap.objs.size], _, _, H1, rfl, I1.kept (t' := s1.toks) fun b o e => Heap.get?_push_of_some _ e, turn_list a _, ⟨_, Heap.get?_push_size _ rfl, rfl, rfl⟩, fun b hb => ?_, q⟩
    have e : b = s1.heap.objs.size := by simpa using hb
    subst e
    exact I1.fpOk (Nat.le_refl _) (I1.hok.fresh (Nat.le_refl _))
  · subst ex
    cases r1
    obtain ⟨its, rv, p, hz⟩ := I1.tuple hq
    refine wpAny_pyIter_tuple (show s1.heap.IsTuple a its.toArray from p) ?_
    refine ⟨s1.heap.objs.size, [s1.heap.objs.size], _, _, H1, rfl, I1.kept (t' := s1.toks) fun b o e => Heap.get?_push_of_some _ e, turn_tuple a _, ⟨_, Heap.get?_push_size _ rfl, rfl, rfl⟩, fun b hb => ?_, q⟩
    have e : b = s1.heap.objs.size := by simpa using hb
    subst e
    exact I1.fpOk (Nat.le_refl _) (I1.hok.fresh (Nat.le_refl _))
  · subst ex
    obtain ⟨t, rfl⟩ := r1
    cases ha : z.cps.all (· < 128)
    · exact wpAny_pyIter_wide ha (pi_one (tk := s1.toks) I1 _ (turn_str _ z t "str_iterator" (.inr rfl)) ⟨_, Heap.get?_push_size _ rfl, rfl, rfl⟩ q)
    · exact wpAny_pyIter_ascii ha (pi_one (tk := s1.toks) I1 _ (turn_str _ z t "str_ascii_iterator" (.inl rfl)) ⟨_, Heap.get?_push_size _ rfl, rfl, rfl⟩ q)
end
end L2.A

namespace L2.A
open PySem PySem.Spec PyProof.Rows
theorem go_start {t : TS} {D : Ends} {N : List Str} {vs : List V} {σ : St} {H : Hp} (e : start N vs = σ) (h : t D σ H) : t D (start N vs) H := by rw [e]; exact h
theorem ite_T {b : Bool} {A B : Prop} (e : b = true) (h : A) : if b = true then A else B := by rw [if_pos e]; exact h
theorem ite_F {b : Bool} {A B : Prop} (e : b = false) (h : B) : if b = true then A else B := by rw [e]; exact iteF h
/-- promises by the number of arguments -/
def Sp0 (R : Hp → VK → XK → Prop) : Sp := fun vs H Q E => vs = [] ∧ R H Q E
def Sp1 (R : V → Hp → VK → XK → Prop) : Sp := fun vs H Q E => ∃ a, vs = [a] ∧ R a H Q E
def Sp2 (R : V → V → Hp → VK → XK → Prop) : Sp := fun vs H Q E => ∃ a b, vs = [a, b] ∧ R a b H Q E
def Sp3 (R : V → V → V → Hp → VK → XK → Prop) : Sp := fun vs H Q E => ∃ a b c, vs = [a, b, c] ∧ R a b c H Q E
def Sp4 (R : V → V → V → V → Hp → VK → XK → Prop) : Sp := fun vs H Q E => ∃ a b c d, vs = [a, b, c, d] ∧ R a b c d H Q E
def Sp5 (R : V → V → V → V → V → Hp → VK → XK → Prop) : Sp := fun vs H Q E => ∃ a b c d e, vs = [a, b, c, d, e] ∧ R a b c d e H Q E
section
variable {vs : List V} {H : Hp} {Q : VK} {E : XK} {a b c d e : V}
theorem len0 {R} (h : Sp0 R vs H Q E) : vs.length = 0 := by obtain ⟨rfl, _⟩ := h; rfl
theorem len1 {R} (h : Sp1 R vs H Q E) : vs.length = 1 := by obtain ⟨_, rfl, _⟩ := h; rfl
theorem len2 {R} (h : Sp2 R vs H Q E) : vs.length = 2 := by obtain ⟨_, _, rfl, _⟩ := h; rfl
theorem len3 {R} (h : Sp3 R vs H Q E) : vs.length = 3 := by obtain ⟨_, _, _, rfl, _⟩ := h; rfl
theorem len4 {R} (h : Sp4 R vs H Q E) : vs.length = 4 := by obtain ⟨_, _, _, _, rfl, _⟩ := h; rfl
theorem len5 {R} (h : Sp5 R vs H Q E) : vs.length = 5 := by obtain ⟨_, _, _, _, _, rfl, _⟩ := h; rfl
theorem go_sp0 {R} (h : R H Q E) : Sp0 R ([] ++ []) H Q E := ⟨rfl, h⟩
theorem go_sp1 {R} (h : R a H Q E) : Sp1 R ([a] ++ []) H Q E := ⟨a, rfl, h⟩
theorem go_sp2 {R} (h : R a b H Q E) : Sp2 R ([a, b] ++ []) H Q E := ⟨a, b, rfl, h⟩
theorem go_sp3 {R} (h : R a b c H Q E) : Sp3 R ([a, b, c] ++ []) H Q E := ⟨a, b, c, rfl, h⟩
theorem go_sp4 {R} (h : R a b c d H Q E) : Sp4 R ([a, b, c, d] ++ []) H Q E := ⟨a, b, c, d, rfl, h⟩
theorem go_sp5 {R} (h : R a b c d e H Q E) : Sp5 R ([a, b, c, d, e] ++ []) H Q E := ⟨a, b, c, d, e, rfl, h⟩
end
end L2.A
namespace L2.A
open PySem PySem.Spec PyProof.Rows
section
variable {K : PySem.W.Frag} {H : Hp} {Q : VK} {v : V} {σ : St} {D : Ends}
def ForW (J : It) (g : TG) (tb : TS) (D : Ends) (σ : St) (H1 : Hp) : Prop := ∃ W : Nat → Nat → St → Hp → Prop, (∃ m, W 0 m σ H1) ∧ ∀ i m σ H, W i m σ H →
  (J.stop i H ∧ D.nx σ H) ∨ (J.go i H ∧ ∃ N : St → Hp → Prop, (∀ σ' H', N σ' H' → ∃ m', m' < m ∧ W (i + 1) m' σ' H') ∧ ∀ x H', J.yld i H x H' → g x σ H' fun σ2 H2 => tb { D with nx := N, ct := N, bk := D.nx } σ2 H2)
theorem go_for {wi : TI} {g : TG} {tb : TS} (h : wi σ H fun J H1 => ForW J g tb D σ H1) : tFor wi g tb D σ H := h
theorem ForW.list {a : Addr} {xs : List V} {g : TG} {tb : TS} (Pv : Nat → St → Hp → Prop) (h0 : Pv 0 σ H) (hl : ∀ i σ H, i ≤ xs.length → Pv i σ H → SqL K H a xs)
    (hs : ∀ i x σ H, xs[i]? = some x → Pv i σ H → g x σ H fun σ2 H2 => tb { D with nx := Pv (i + 1), ct := Pv (i + 1), bk := D.nx } σ2 H2) (hd : ∀ σ H, Pv xs.length σ H → D.nx σ H) : ForW (Itl K a) g tb D σ H := for_list Pv h0 hl hs hd
theorem ForW.tup {a : Addr} {xs : List V} {g : TG} {tb : TS} (Pv : Nat → St → Hp → Prop) (h0 : Pv 0 σ H) (hl : ∀ i σ H, i ≤ xs.length → Pv i σ H → SqT K H a xs)
    (hs : ∀ i x σ H, xs[i]? = some x → Pv i σ H → g x σ H fun σ2 H2 => tb { D with nx := Pv (i + 1), ct := Pv (i + 1), bk := D.nx } σ2 H2) (hd : ∀ σ H, Pv xs.length σ H → D.nx σ H) : ForW (Itt K a) g tb D σ H := for_tup Pv h0 hl hs hd
theorem ForW.range {lo : Int} {n : Nat} {g : TG} {tb : TS} (Pv : Nat → St → Hp → Prop) (h0 : Pv 0 σ H)
    (hs : ∀ i σ H, i < n → Pv i σ H → g (.int (lo + i)) σ H fun σ2 H2 => tb { D with nx := Pv (i + 1), ct := Pv (i + 1), bk := D.nx } σ2 H2) (hd : ∀ σ H, Pv n σ H → D.nx σ H) : ForW (Itr lo n) g tb D σ H := for_range Pv h0 hs hd
theorem ForW.str {z : Str} {g : TG} {tb : TS} (Pv : Nat → St → Hp → Prop) (h0 : Pv 0 σ H)
    (hs : ∀ i c σ H, z.cps.toList[i]? = some c → Pv i σ H → g (.str ⟨#[c]⟩) σ H fun σ2 H2 => tb { D with nx := Pv (i + 1), ct := Pv (i + 1), bk := D.nx } σ2 H2) (hd : ∀ σ H, Pv z.cps.toList.length σ H → D.nx σ H) : ForW (Its z) g tb D σ H := by
  refine ⟨fun i m σ H => m = z.cps.size - i ∧ i ≤ z.cps.size ∧ Pv i σ H, ⟨z.cps.size, by simp, Nat.zero_le _, h0⟩, ?_⟩
  rintro i m σ H ⟨rfl, hi, p⟩
  by_cases hlt : i < z.cps.size
  · refine .inr ⟨hlt, Pv (i + 1), fun σ' H' p' => ⟨z.cps.size - (i + 1), by omega, rfl, hlt, p'⟩, fun x H' y => ?_⟩
    obtain ⟨e, c, hc, hx⟩ := y
    subst e hx
    exact hs i c σ _ (by simpa using hc) p
  · have e : i = z.cps.size := by omega
    subst e
    exact .inl ⟨Nat.le_refl _, hd σ H (by simpa using p)⟩
theorem go_iX {tl : TE} {R : It → Hp → Prop} (h : tl σ H fun x H1 => IX K x H1 R) : iX K tl σ H R := h
theorem go_iL {a : Addr} {xs : List V} {R : It → Hp → Prop} (hS : SqL K H a xs) (h : R (Itl K a) H) : IX K (.ref a) H R := .inl ⟨a, rfl, ⟨xs, hS⟩, h⟩
theorem go_iT {a : Addr} {xs : List V} {R : It → Hp → Prop} (hS : SqT K H a xs) (h : R (Itt K a) H) : IX K (.ref a) H R := .inr (.inl ⟨a, rfl, ⟨xs, hS⟩, h⟩)
theorem go_iS {z : Str} {R : It → Hp → Prop} (h : R (Its z) H) : IX K (.str z) H R := .inr (.inr ⟨z, rfl, h⟩)
def LcW (J : It) (g : TG) (tt : TT) (te : TE) (vs : List Nat) (σ : St) (H1 : Hp) (Q : VK) : Prop := ∀ D, H1 D = none → ∃ W : Nat → Nat → Hp → Prop, (∃ m, W 0 m (upd H1 D (.lst []))) ∧ ∀ i m H, W i m H →
  (J.stop i H ∧ Q (.ref D) H) ∨ (J.go i H ∧ ∃ Nx : Hp → Prop, (∀ H', Nx H' → ∃ m', m' < m ∧ W (i + 1) m' H') ∧ ∀ x H', J.yld i H x H' → g x (wipe σ vs) H' fun σ2 H2 => wipe σ2 vs = wipe σ vs ∧ tt σ2 H2 fun b H3 =>
    if b = true then te σ2 H3 fun y H4 => ∃ acc, H4 D = some (.lst acc) ∧ acc.length < sizeLine ∧ Nx (upd H4 D (.lst (acc ++ [y]))) else Nx H3)
theorem go_lc {wi : TI} {g : TG} {tt : TT} {te : TE} {vs : List Nat} (h : wi σ H fun J H1 => LcW J g tt te vs σ H1 Q) : tLc wi g tt te vs σ H Q := h
/-- the same relation at other targets -/
structure LcS (g : TG) (tt : TT) (te : TE) (vs : List Nat) (σ : St) (x : V) (H : Hp) (yes : V → Hp → Prop) (no : Hp → Prop) : Prop where
  run : g x (wipe σ vs) H fun σ2 H2 => wipe σ2 vs = wipe σ vs ∧ tt σ2 H2 fun b H3 => if b = true then te σ2 H3 yes else no H3
/-- GENERAL: over a list; R i ys H' what holds of the items made so far; D is the new list's own place -/
theorem LcW.list {a : Addr} {xs : List V} {H1 : Hp} {g : TG} {tt : TT} {te : TE} {vs : List Nat} (R : Addr → Nat → List V → Hp → Prop) (hz : xs.length ≤ 100000) (hS : SqL K H1 a xs) (h0 : ∀ D, H1 D = none → R D 0 [] (upd H1 D (.lst [])))
    (hs : ∀ D i x ys H', H1 D = none → xs[i]? = some x → ys.length ≤ i → R D i ys H' → Same H1 H' → H' D = some (.lst ys) → ∀ (yes : V → Hp → Prop) (no : Hp → Prop),
      (∀ y H'', Same H' H'' → R D (i + 1) (ys ++ [y]) (upd H'' D (.lst (ys ++ [y]))) → yes y H'') → (∀ H'', Same H' H'' → R D (i + 1) ys H'' → no H'') →
      g x (wipe σ vs) H' fun σ2 H2 => wipe σ2 vs = wipe σ vs ∧ tt σ2 H2 fun b H3 => if b = true then te σ2 H3 yes else no H3)
    (hd : ∀ D ys H', H1 D = none → Same H1 H' → H' D = some (.lst ys) → ys.length ≤ xs.length → R D xs.length ys H' → Q (.ref D) H') : LcW (Itl K a) g tt te vs σ H1 Q := by
  intro D hD
  refine lc_list (xs := xs) (fun i H' => Same H1 H' ∧ ∃ ys, H' D = some (.lst ys) ∧ ys.length ≤ i ∧ R D i ys H') ⟨same_new hD, [], upd_same, Nat.le_refl _, h0 D hD⟩ (fun i H' _ ⟨s, _⟩ => s.seq hS) (fun i x H' hi ⟨s, ys, e, hl, r⟩ => ?_) fun H' ⟨s, ys, e, hl, r⟩ => hd D ys H' hD s e hl r
  have hil : i < xs.length := (List.getElem?_eq_some_iff.mp hi).1
  refine hs D i x ys H' hD hi hl r s e _ _ (fun y H'' s2 r2 => ⟨ys, s2 _ _ e, ?_, same_mut (s.trans s2) hD, ys ++ [y], upd_same, by rw [List.length_append]; show ys.length + 1 ≤ _; omega, r2⟩) fun H'' s2 r2 => ⟨s.trans s2, ys, s2 _ _ e, by omega, r2⟩
  exact Nat.lt_of_le_of_lt hl (Nat.lt_of_lt_of_le hil (Nat.le_trans hz (by decide)))
theorem LcW.tup {a : Addr} {xs : List V} {H1 : Hp} {g : TG} {tt : TT} {te : TE} {vs : List Nat} (R : Addr → Nat → List V → Hp → Prop) (hz : xs.length ≤ 100000) (hS : SqT K H1 a xs) (h0 : ∀ D, H1 D = none → R D 0 [] (upd H1 D (.lst [])))
    (hs : ∀ D i x ys H', H1 D = none → xs[i]? = some x → ys.length ≤ i → R D i ys H' → Same H1 H' → H' D = some (.lst ys) → ∀ (yes : V → Hp → Prop) (no : Hp → Prop),
      (∀ y H'', Same H' H'' → R D (i + 1) (ys ++ [y]) (upd H'' D (.lst (ys ++ [y]))) → yes y H'') → (∀ H'', Same H' H'' → R D (i + 1) ys H'' → no H'') →
      g x (wipe σ vs) H' fun σ2 H2 => wipe σ2 vs = wipe σ vs ∧ tt σ2 H2 fun b H3 => if b = true then te σ2 H3 yes else no H3)
    (hd : ∀ D ys H', H1 D = none → Same H1 H' → H' D = some (.lst ys) → ys.length ≤ xs.length → R D xs.length ys H' → Q (.ref D) H') : LcW (Itt K a) g tt te vs σ H1 Q := by
  intro D hD
  have seqT : ∀ {H' : Hp}, Same H1 H' → SqT K H' a xs := fun {H'} s => by
    rcases hS with (h | ⟨o, h⟩) | h
    · exact .inl (.inl (s _ _ h))
    · exact .inl (.inr ⟨o, s _ _ h⟩)
    · exact .inr h
  refine lc_tup (xs := xs) (fun i H' => Same H1 H' ∧ ∃ ys, H' D = some (.lst ys) ∧ ys.length ≤ i ∧ R D i ys H') ⟨same_new hD, [], upd_same, Nat.le_refl _, h0 D hD⟩ (fun i H' _ ⟨s, _⟩ => seqT s) (fun i x H' hi ⟨s, ys, e, hl, r⟩ => ?_) fun H' ⟨s, ys, e, hl, r⟩ => hd D ys H' hD s e hl r
  have hil : i < xs.length := (List.getElem?_eq_some_iff.mp hi).1
  refine hs D i x ys H' hD hi hl r s e _ _ (fun y H'' s2 r2 => ⟨ys, s2 _ _ e, ?_, same_mut (s.trans s2) hD, ys ++ [y], upd_same, by rw [List.length_append]; show ys.length + 1 ≤ _; omega, r2⟩) fun H'' s2 r2 => ⟨s.trans s2, ys, s2 _ _ e, by omega, r2⟩
  exact Nat.lt_of_le_of_lt hl (Nat.lt_of_lt_of_le hil (Nat.le_trans hz (by decide)))
/-- elements are plain values, no test -/
theorem LcW.listV {a : Addr} {xs : List V} {H1 : Hp} {g : TG} {te : TE} {vs : List Nat} (out : Nat → V) (hz : xs.length ≤ 100000) (hS : SqL K H1 a xs)
    (hs : ∀ i x H', xs[i]? = some x → Same H1 H' → ∀ Q' : VK, (∀ H'', Same H' H'' → Q' (out i) H'') → g x (wipe σ vs) H' fun σ2 H2 => wipe σ2 vs = wipe σ vs ∧ te σ2 H2 Q')
    (mono : ∀ (x : V) (σ : St) (H : Hp) (Q Q' : St → Hp → Prop), (∀ σ H, Q σ H → Q' σ H) → g x σ H Q → g x σ H Q')
    (hd : ∀ D H', H1 D = none → Same H1 H' → H' D = some (.lst ((List.range xs.length).map out)) → Q (.ref D) H') : LcW (Itl K a) g tYes te vs σ H1 Q := by
  refine LcW.list (fun D i ys H' => ys = (List.range i).map out) hz hS (fun _ _ => rfl) (fun D i x ys H' hD hi hl r s e yes no hy hn => ?_) fun D ys H' hD s e _ r => hd D H' hD s (by rw [e, r])
  refine mono x _ _ _ _ (fun σ2 H2 q => q) (hs i x H' hi s yes fun H'' s2 => hy _ _ s2 ?_)
  rw [r, List.range_succ, List.map_append]
  rfl
theorem gname_mono {i : Nat} (x : V) (σ : St) (H : Hp) (Q Q' : St → Hp → Prop) (h : ∀ σ H, Q σ H → Q' σ H) (q : gName i x σ H Q) : gName i x σ H Q' := h _ _ q
theorem go_all {l : Addr} {bs : List Bool} (hS : SqL K H l (bs.map V.bl)) (h : Q (.bl (bs.all id)) H) : rAll K [.ref l] H Q := ⟨l, bs, rfl, hS, h⟩
theorem go_any {l : Addr} {bs : List Bool} (hS : SqL K H l (bs.map V.bl)) (h : Q (.bl (bs.any id)) H) : rAny K [.ref l] H Q := ⟨l, bs, rfl, hS, h⟩
theorem go_sum {l : Addr} {ns : List Int} (hS : SqL K H l (ns.map V.int)) (h : Q (.int ns.sum) H) : rSum K [.ref l] H Q := ⟨l, ns, rfl, hS, h⟩
theorem go_yes {QB : Bool → Hp → Prop} (h : QB true H) : tYes σ H QB := h
end
theorem range_map_const {n : Nat} {v : V} : (List.range n).map (fun _ => v) = List.replicate n v := by
  induction n with
  | zero => rfl
  | succ n ih => rw [List.range_succ, List.map_append, ih, List.replicate_succ'] <;> rfl
theorem all_true {n : Nat} : (List.replicate n true).all id = true := by simp
theorem szl {n : Nat} (h : n ≤ 100000) : n ≤ sizeLine := Nat.le_trans h (by decide)
theorem bl_ok {b : Bool} {Q : VK} {H : Hp} (e : b = true) (h : Q (.bl true) H) : Q (.bl b) H := by rw [e]; exact h
end L2.A
namespace L2.A
open PySem PySem.Spec PyProof.Rows
theorem ret_V {v v' : V} {Q : VK} {H : Hp} (e : v' = v) (h : Q v' H) : Q v H := by rw [← e]; exact h
theorem dec_int {i j : Int} : decide (V.int i = V.int j) = decide (i = j) := by simp
theorem dec_str {i j : Str} : decide (V.str i = V.str j) = decide (i = j) := by simp
theorem dec_bl {i j : Bool} : decide (V.bl i = V.bl j) = decide (i = j) := by simp
/-- the head and the items of a list of whole numbers -/
theorem int_at {ns : List Int} {i : Nat} {x : V} (h : (ns.map V.int)[i]? = some x) : ∃ z, x = V.int z ∧ ns[i]? = some z := by
  rw [List.getElem?_map] at h
  cases e : ns[i]? with
  | none => rw [e] at h; cases h
  | some z => rw [e] at h; exact ⟨z, (Option.some.inj h).symm, rfl⟩
theorem iteS_bl {b : Bool} {Q : VK} {H : Hp} {v1 v2 : V} (h1 : b = true → Q v1 H) (h2 : b = false → Q v2 H) : if b = true then Q v1 H else Q v2 H := if2 h1 h2
end L2.A
namespace L2.A
open PySem PySem.Spec PyProof.Rows
def RN1 (vs : List V) (H1 : Hp) (R : It → Hp → Prop) : Prop := ∃ j : Int, vs = [.int j] ∧ -(2 ^ 62) ≤ j ∧ j < 2 ^ 62 ∧ R (Itr 0 j.toNat) H1
def RN2 (vs : List V) (H1 : Hp) (R : It → Hp → Prop) : Prop := ∃ i j : Int, vs = [.int i, .int j] ∧ (-(2 ^ 62) ≤ i ∧ i < 2 ^ 62 ∧ -(2 ^ 62) ≤ j ∧ j < 2 ^ 62) ∧ R (Itr i (j - i).toNat) H1
theorem go_rng1 {ta : TA} {σ : St} {H : Hp} {R : It → Hp → Prop} (h : ta σ H fun vs H1 => RN1 vs H1 R) : iRng1 ta σ H R := h
theorem go_rng2 {ta : TA} {σ : St} {H : Hp} {R : It → Hp → Prop} (h : ta σ H fun vs H1 => RN2 vs H1 R) : iRng2 ta σ H R := h
theorem go_rn1 {j : Int} {H : Hp} {R : It → Hp → Prop} (h1 : -100000 ≤ j ∧ j ≤ 100000) (h : R (Itr 0 j.toNat) H) : RN1 [.int j] H R := ⟨j, rfl, by omega, by omega, h⟩
theorem go_rn2 {i j : Int} {H : Hp} {R : It → Hp → Prop} (h1 : -100000 ≤ i ∧ i ≤ 100000 ∧ -100000 ≤ j ∧ j ≤ 100000) (h : R (Itr i (j - i).toNat) H) : RN2 [.int i, .int j] H R := ⟨i, j, rfl, ⟨by omega, by omega, by omega, by omega⟩, h⟩
/-- an item of a written list at a drawn place -/
theorem at_some {α : Type} {xs : List α} {r : Int} (h0 : 0 ≤ r) (h1 : r < xs.length) : ∃ v, atI xs r = some v ∧ v ∈ xs := by
  obtain ⟨j, rfl⟩ : ∃ j : Nat, r = (j : Int) := ⟨r.toNat, by omega⟩
  have hj : j < xs.length := by omega
  exact ⟨xs[j], atI_nat (List.getElem?_eq_getElem hj), List.getElem_mem hj⟩
theorem menuS {L : List Str} {r : Int} (h0 : 0 ≤ r) (h1 : r < L.length) : ∃ k, atI (L.map V.str) r = some (.str k) ∧ k ∈ L := by
  obtain ⟨v, e, m⟩ := at_some (xs := L.map V.str) h0 (by rw [List.length_map]; exact h1)
  obtain ⟨k, hk, rfl⟩ := List.mem_map.mp m
  exact ⟨k, e, hk⟩
theorem menuI {L : List Int} {r : Int} (h0 : 0 ≤ r) (h1 : r < L.length) : ∃ k, atI (L.map V.int) r = some (.int k) ∧ k ∈ L := by
  obtain ⟨v, e, m⟩ := at_some (xs := L.map V.int) h0 (by rw [List.length_map]; exact h1)
  obtain ⟨k, hk, rfl⟩ := List.mem_map.mp m
  exact ⟨k, e, hk⟩
/-- a sign of a written text at a drawn place -/
theorem sign_some {z : Str} {r : Int} (h0 : 0 ≤ r) (h1 : r < z.cps.toList.length) : ∃ c, atI z.cps.toList r = some c ∧ c ∈ z.cps.toList := at_some h0 h1
theorem len_app (a b : Str) : (a ++ b).length = a.length + b.length := by
  have h := congrArg List.length (TL.tl_append a b)
  rw [List.length_append, ← TL.len_tl, ← TL.len_tl, ← TL.len_tl] at h
  exact h
theorem len_one {c : Nat} : (⟨#[c]⟩ : Str).length = 1 := rfl
end L2.A

namespace L2.A
open PySem PySem.Spec PyProof.Rows
section
variable {σ : St} {H : Hp} {Q : VK} {QB : Bool → Hp → Prop} {tt tu : TT} {ta tb : TE} {c1 c2 : Bool} {v1 v2 : V}
/-! ### and, or whose parts lay nothing: one value, no two ways -/
theorem go_andP (h1 : ∀ QB' : Bool → Hp → Prop, QB' c1 H → tt σ H QB') (h2 : ∀ QB' : Bool → Hp → Prop, QB' c2 H → tu σ H QB') (h : QB (c1 && c2) H) : tAnd tt tu σ H QB := h1 _ (by
  cases c1 with
  | true => exact iteT (h2 _ h)
  | false => exact iteF h)
theorem go_orP (h1 : ∀ QB' : Bool → Hp → Prop, QB' c1 H → tt σ H QB') (h2 : ∀ QB' : Bool → Hp → Prop, QB' c2 H → tu σ H QB') (h : QB (c1 || c2) H) : tOr tt tu σ H QB := h1 _ (by
  cases c1 with
  | true => exact iteT h
  | false => exact iteF (h2 _ h))
theorem go_andVP (h1 : ∀ Q' : VK, Q' (.bl c1) H → ta σ H Q') (h2 : ∀ Q' : VK, Q' (.bl c2) H → tb σ H Q') (h : Q (.bl (c1 && c2)) H) : tAndV ta tb σ H Q := h1 _ ⟨c1, rfl, by
  cases c1 with
  | true => exact iteT (h2 _ h)
  | false => exact iteF h⟩
theorem go_orVP (h1 : ∀ Q' : VK, Q' (.bl c1) H → ta σ H Q') (h2 : ∀ Q' : VK, Q' (.bl c2) H → tb σ H Q') (h : Q (.bl (c1 || c2)) H) : tOrV ta tb σ H Q := h1 _ ⟨c1, rfl, by
  cases c1 with
  | true => exact iteT h
  | false => exact iteF (h2 _ h)⟩
theorem go_ifxP (h1 : ∀ QB' : Bool → Hp → Prop, QB' c1 H → tt σ H QB') (h2 : ∀ Q' : VK, Q' v1 H → ta σ H Q') (h3 : ∀ Q' : VK, Q' v2 H → tb σ H Q') (h : Q (if c1 = true then v1 else v2) H) : tIf tt ta tb σ H Q := h1 _ (by
  cases c1 with
  | true => exact iteT (h2 _ h)
  | false => exact iteF (h3 _ h))
theorem and_join (h2 : ∀ QB' : Bool → Hp → Prop, QB' c2 H → tu σ H QB') (h : QB (c1 && c2) H) : if c1 = true then tu σ H QB else QB false H := by
  cases c1 with
  | true => exact iteT (h2 _ h)
  | false => exact iteF h
theorem or_join (h2 : ∀ QB' : Bool → Hp → Prop, QB' c2 H → tu σ H QB') (h : QB (c1 || c2) H) : if c1 = true then QB true H else tu σ H QB := by
  cases c1 with
  | true => exact iteT h
  | false => exact iteF (h2 _ h)
theorem andV_join (h2 : ∀ Q' : VK, Q' (.bl c2) H → tb σ H Q') (h : Q (.bl (c1 && c2)) H) : if c1 = true then tb σ H Q else Q (.bl false) H := by
  cases c1 with
  | true => exact iteT (h2 _ h)
  | false => exact iteF h
theorem orV_join (h2 : ∀ Q' : VK, Q' (.bl c2) H → tb σ H Q') (h : Q (.bl (c1 || c2)) H) : if c1 = true then Q (.bl true) H else tb σ H Q := by
  cases c1 with
  | true => exact iteT h
  | false => exact iteF (h2 _ h)
/-- the same where the parts may lay new objects -/
theorem go_andS (h1 : ∀ QB' : Bool → Hp → Prop, (∀ H', Same H H' → QB' c1 H') → tt σ H QB') (h2 : ∀ H1, Same H H1 → ∀ QB' : Bool → Hp → Prop, (∀ H', Same H1 H' → QB' c2 H') → tu σ H1 QB') (h : ∀ H', Same H H' → QB (c1 && c2) H') : tAnd tt tu σ H QB := h1 _ fun H1 s1 => by
  cases c1 with
  | true => exact iteT (h2 _ s1 _ fun H2 s2 => h _ (s1.trans s2))
  | false => exact iteF (h _ s1)
theorem go_orS (h1 : ∀ QB' : Bool → Hp → Prop, (∀ H', Same H H' → QB' c1 H') → tt σ H QB') (h2 : ∀ H1, Same H H1 → ∀ QB' : Bool → Hp → Prop, (∀ H', Same H1 H' → QB' c2 H') → tu σ H1 QB') (h : ∀ H', Same H H' → QB (c1 || c2) H') : tOr tt tu σ H QB := h1 _ fun H1 s1 => by
  cases c1 with
  | true => exact iteT (h _ s1)
  | false => exact iteF (h2 _ s1 _ fun H2 s2 => h _ (s1.trans s2))
end
end L2.A

namespace L2.A
open PySem PySem.Spec PyProof.Rows
/-- a statement, then the rest, with a word between them: what follows is shown once, from Mid -/
def tCut (t u : TS) : TS := fun D σ H => ∃ Mid : St → Hp → Prop, t { D with nx := Mid } σ H ∧ ∀ σ' H', Mid σ' H' → u D σ' H'
theorem pss_cut {X : Cx} {st : Stmt} {rest : List Stmt} {t u : TS} (h1 : PS X st t) (h2 : PSs X rest u) : PSs X (st :: rest) (tCut t u) := by
  refine ⟨fun pins s σ H D I h => ?_⟩
  obtain ⟨Mid, hm, hu⟩ := h
  refine wpAny_execs_cons (thn (h1.run pins s σ H { D with nx := Mid } I hm) fun f s1 q => ?_)
  cases f with
  | next =>
    obtain ⟨σ', H', I', q⟩ := q
    exact h2.run pins s1 σ' H' D I' (hu σ' H' q)
  | ret v => exact q
  | brk => exact q
  | cont => exact q
theorem go_cut {t u : TS} {D : Ends} {σ : St} {H : Hp} (Mid : St → Hp → Prop) (h1 : t { D with nx := Mid } σ H) (h2 : ∀ σ' H', Mid σ' H' → u D σ' H') : tCut t u D σ H := ⟨Mid, h1, h2⟩
end L2.A

namespace L2.A
open PySem PySem.Spec PyProof.Rows
theorem seqT_same {K : PySem.W.Frag} {H H' : Hp} {p : Addr} {xs : List V} (h : SqT K H p xs) (s : Same H H') : SqT K H' p xs := by
  rcases h with (h | ⟨o, h⟩) | h
  · exact .inl (.inl (s _ _ h))
  · exact .inl (.inr ⟨o, s _ _ h⟩)
  · exact .inr h
theorem seqL_same {K : PySem.W.Frag} {H H' : Hp} {p : Addr} {xs : List V} (h : SqL K H p xs) (s : Same H H') : SqL K H' p xs := s.seq h
/-- == of scalars in short -/
abbrev eI (a b : Int) : Bool := decide (V.int a = V.int b)
abbrev eS (a b : Str) : Bool := decide (V.str a = V.str b)
theorem eI_eq (a b : Int) : eI a b = decide (a = b) := by simp
theorem eS_eq (a b : Str) : eS a b = decide (a = b) := by simp
end L2.A

namespace L2.A
open PySem PySem.Spec PyProof.Rows
section
variable {σ : St} {H : Hp} {Q : VK}
/-! ### displays of dicts -/
def kvOf (p : V × V) : Key × V := (match p.1 with | .str x => Sum.inr x | .int i => Sum.inl i | _ => Sum.inl 0, p.2)
def DispK (p : Addr) (ps : List (V × V)) (H2 : Hp) (Q : VK) : Prop := H2 p = some (.dK []) ∧ ∃ kvs : List (Key × V), ps = kvs.map (fun kv => (kV kv.1, kv.2)) ∧ kvs.length ≤ 15 ∧ Q (.ref p) (upd H2 p (.dK (mergeK [] kvs)))
def DispN (trs : List (TE × TE)) (σ : St) (H : Hp) (Q : VK) : Prop := ∀ p, H p = none → tPairs trs σ (upd H p (.dK [])) fun ps H2 => DispK p ps H2 Q
theorem go_disp {trs : List (TE × TE)} (h : DispN trs σ H Q) : tDisp trs σ H Q := h
theorem go_pairs {tk tv : TE} {r : List (TE × TE)} {R : List (V × V) → Hp → Prop} (h : tk σ H fun k H1 => tv σ H1 fun v H2 => tPairs r σ H2 fun ps H3 => R ((k, v) :: ps) H3) : tPairs ((tk, tv) :: r) σ H R := h
theorem go_pairs0 {R : List (V × V) → Hp → Prop} (h : R [] H) : tPairs [] σ H R := h
theorem go_dispK {p : Addr} {ps : List (V × V)} (h0 : H p = some (.dK [])) (e : ps = (ps.map kvOf).map (fun kv => (kV kv.1, kv.2))) (hl : Nat.ble (ps.map kvOf).length 15 = true) (h : Q (.ref p) (upd H p (.dK (mergeK [] (ps.map kvOf))))) : DispK p ps H Q :=
  ⟨h0, _, e, Nat.le_of_ble_eq_true hl, h⟩
end
end L2.A

namespace L2.A
open PySem PySem.Spec PyProof.Rows
theorem upd_free {H : Hp} {a b : Addr} {o : HO} (h : upd H a o b = none) : H b = none := by
  by_cases e : b = a
  · subst e; rw [upd_same] at h; cases h
  · rw [upd_ne e] at h; exact h
end L2.A

namespace L2.A
open PySem PySem.Spec PyProof.Rows
/-- a statement that lays nothing: the slots behind it told -/
theorem go_cutP {t u : TS} {D : Ends} {σ : St} {H : Hp} (σ1 : St) (h1 : t { D with nx := fun σ' H' => σ' = σ1 ∧ H' = H } σ H) (h2 : u D σ1 H) : tCut t u D σ H := ⟨_, h1, fun _ _ ⟨e1, e2⟩ => by rw [e1, e2]; exact h2⟩
/-- .. that may lay new objects -/
theorem go_cutS {t u : TS} {D : Ends} {σ : St} {H : Hp} (σ1 : St) (h1 : t { D with nx := fun σ' H' => σ' = σ1 ∧ Same H H' } σ H) (h2 : ∀ H', Same H H' → u D σ1 H') : tCut t u D σ H := ⟨_, h1, fun _ _ ⟨e1, e2⟩ => by rw [e1]; exact h2 _ e2⟩
end L2.A

namespace L2.A
open PySem PySem.Spec PyProof.Rows
section
variable {X : Cx} {K : PySem.W.Frag} {σ : St} {H : Hp} {Q : VK}
/-! ### slices -/
def PartI (x : V) (H : Hp) (R : Option Int → Hp → Prop) : Prop := ∃ i, x = .int i ∧ R (some i) H
theorem go_sl {r : V → Option Int → Option Int → Hp → VK → Prop} {te : TE} {tl th : TO} (h : te σ H fun x H1 => tl σ H1 fun l H2 => th σ H2 fun u H3 => r x l u H3 Q) : tSl r te tl th σ H Q := h
theorem go_nopart {R : Option Int → Hp → Prop} (h : R none H) : tNoPart σ H R := h
theorem go_part {t : TE} {R : Option Int → Hp → Prop} (h : t σ H fun x H1 => PartI x H1 R) : tPart t σ H R := h
theorem go_partI {i : Int} {R : Option Int → Hp → Prop} (h : R (some i) H) : PartI (.int i) H R := ⟨i, rfl, h⟩
theorem go_slT {p : Addr} {xs ys : List V} {lo hi : Option Int} (hp : SqT K H p xs) (e : cutV xs lo hi = ys) (n : (Nat.beq (HT.sIx xs.length 0 lo) 0 && Nat.beq (HT.sIx xs.length xs.length hi) xs.length) = false) (h : NewO (.tup ys) H Q) : rSlX K (.ref p) lo hi H Q :=
  .inr (.inl ⟨p, xs, rfl, hp, fun ⟨z1, z2⟩ => by rw [z1, z2] at n; simp at n, by rw [e]; exact h⟩)
theorem go_slL {p : Addr} {xs ys : List V} {lo hi : Option Int} (hp : SqL K H p xs) (e : cutV xs lo hi = ys) (h : NewO (.lst ys) H Q) : rSlX K (.ref p) lo hi H Q := .inl ⟨p, xs, rfl, hp, by rw [e]; exact h⟩
theorem go_slS {z : Str} {lo hi : Option Int} (hz : z.length ≤ sizeLine) (h : Q (.str (cutS z lo hi)) H) : rSlX K (.str z) lo hi H Q := .inr (.inr ⟨z, rfl, hz, h⟩)
/-! ### min, max of three -/
def rMn3 : List V → Hp → VK → Prop := fun xs H Q => ∃ i j k : Int, xs = [.int i, .int j, .int k] ∧ Q (.int (min i (min j k))) H
def rMx3 : List V → Hp → VK → Prop := fun xs H Q => ∃ i j k : Int, xs = [.int i, .int j, .int k] ∧ Q (.int (max i (max j k))) H
theorem vals3 {x y z : V} {us : List Value} (r : Vals [x, y, z] us) : ∃ u v w', us = [u, v, w'] ∧ RelV x u ∧ RelV y v ∧ RelV z w' := by
  cases r with
  | cons r1 r2 =>
    obtain ⟨u, v, rfl, a, b⟩ := vals2 r2
    exact ⟨_, _, _, rfl, r1, a, b⟩
theorem call_mn3 (hc : X.calm = true) : CallR X (.builtin "min") rMn3 := by
  intro pins s σ H xs us Q I r h
  obtain ⟨i, j, k, rfl, q⟩ := h
  obtain ⟨u, v, w', rfl, ⟨t, rfl⟩, ⟨t', rfl⟩, ⟨t2, rfl⟩⟩ := vals3 r
  refine min_three_ints (I.ok.hd hc) fun h' tk hk => ⟨_, H, I.kept hk, ?_, q⟩
  by_cases h1 : j < i
  · by_cases h2 : k < j
    · rw [if_pos h1, if_pos h2]; exact ⟨_, by rw [show min i (min j k) = k by omega]⟩
    · rw [if_pos h1, if_neg h2]; exact ⟨_, by rw [show min i (min j k) = j by omega]⟩
  · by_cases h2 : k < i
    · rw [if_neg h1, if_pos h2]; exact ⟨_, by rw [show min i (min j k) = k by omega]⟩
    · rw [if_neg h1, if_neg h2]; exact ⟨_, by rw [show min i (min j k) = i by omega]⟩
theorem call_mx3 (hc : X.calm = true) : CallR X (.builtin "max") rMx3 := by
  intro pins s σ H xs us Q I r h
  obtain ⟨i, j, k, rfl, q⟩ := h
  obtain ⟨u, v, w', rfl, ⟨t, rfl⟩, ⟨t', rfl⟩, ⟨t2, rfl⟩⟩ := vals3 r
  refine max_three_ints (I.ok.hd hc) fun h' tk hk => ⟨_, H, I.kept hk, ?_, q⟩
  by_cases h1 : j > i
  · by_cases h2 : k > j
    · rw [if_pos h1, if_pos h2]; exact ⟨_, by rw [show max i (max j k) = k by omega]⟩
    · rw [if_pos h1, if_neg h2]; exact ⟨_, by rw [show max i (max j k) = j by omega]⟩
  · by_cases h2 : k > i
    · rw [if_neg h1, if_pos h2]; exact ⟨_, by rw [show max i (max j k) = k by omega]⟩
    · rw [if_neg h1, if_neg h2]; exact ⟨_, by rw [show max i (max j k) = i by omega]⟩
theorem go_min3 {a b c : Int} (h : Q (.int (min a (min b c))) H) : rMn3 [V.int a, V.int b, V.int c] H Q := ⟨a, b, c, rfl, h⟩
theorem go_max3 {a b c : Int} (h : Q (.int (max a (max b c))) H) : rMx3 [V.int a, V.int b, V.int c] H Q := ⟨a, b, c, rfl, h⟩
end
end L2.A

namespace L2.A
open PySem PySem.Spec PyProof.Rows
theorem ge2 {H H' : Hp} {a : Addr} {o : HO} (h : H a = some o) (s : Same H H') : H' a = some o := s a o h
end L2.A


namespace L2.A
open PySem PySem.Spec PyProof.Rows
/-! ### == of data at any depth -/
mutual
theorem Dp.same {K : PySem.W.Frag} {H H' : Hp} (s : Same H H') : ∀ (d : PyData) (v : V), Dp K H v d → Dp K H' v d
  | .none, _, h => by cases h; exact .non
  | .bool b, _, h => by cases h; exact .bl b
  | .int i, _, h => by cases h; exact .int i
  | .str x, _, h => by cases h; exact .str x
  | .list ds, _, h => by
    cases h with
    | lst hs ha => exact .lst (s.seq hs) (Dp.sameAll s ds _ ha)
  | .tuple ds, _, h => by
    cases h with
    | tup hs ha => exact .tup (seqT_same hs s) (Dp.sameAll s ds _ ha)
  | .dict _, _, h => by cases h
theorem Dp.sameAll {K : PySem.W.Frag} {H H' : Hp} (s : Same H H') : ∀ (ds : List PyData) (vs : List V), DpAll K H vs ds → DpAll K H' vs ds
  | [], _, h => by cases h; exact .nil
  | d :: ds, _, h => by
    cases h with
    | cons h1 h2 => exact .cons (Dp.same s d _ h1) (Dp.sameAll s ds _ h2)
end
/-- the datum of a scalar -/
def dV : V → PyData
  | .bl b => .bool b
  | .int i => .int i
  | .str x => .str x
  | _ => .none
theorem Dp.flat {K : PySem.W.Frag} {H : Hp} : ∀ {v : V}, flatV v = true → Dp K H v (dV v)
  | .non, _ => .non
  | .bl b, _ => .bl b
  | .int i, _ => .int i
  | .str x, _ => .str x
theorem DpAll.flat {K : PySem.W.Frag} {H : Hp} : ∀ {vs : List V}, vs.all flatV = true → DpAll K H vs (vs.map dV)
  | [], _ => .nil
  | v :: vs, h => by
    have h' : flatV v = true ∧ vs.all flatV = true := by simpa using h
    exact .cons (Dp.flat h'.1) (DpAll.flat h'.2)
/-- a scalar whose text may be laid -/
def okV : V → Bool
  | .non | .bl _ | .int _ => true
  | .str x => PySem.PyData.strOk x
  | _ => false
theorem okV_flat {v : V} (h : okV v = true) : flatV v = true := by cases v <;> simp_all [okV, flatV]
theorem okV_all {vs : List V} (h : vs.all okV = true) : vs.all flatV = true := by
  rw [List.all_eq_true] at h ⊢
  exact fun v m => okV_flat (h v m)
theorem lay_flat {v : V} (h : okV v = true) : (dV v).canLay0 = true := by cases v <;> simp_all [okV, dV, PyData.canLay0]
theorem layAll_flat : ∀ {vs : List V}, vs.all okV = true → PyData.canLayAll0 (vs.map dV) = true
  | [], _ => rfl
  | v :: vs, h => by
    have h' : okV v = true ∧ vs.all okV = true := by simpa using h
    simp only [List.map_cons, PyData.canLayAll0, lay_flat h'.1, layAll_flat h'.2, Bool.and_self]
theorem depth_flat {v : V} : (dV v).depth = 0 := by cases v <;> simp [dV, PyData.depth]
theorem depthAll_flat : ∀ {vs : List V}, PyData.depthAll (vs.map dV) = 0
  | [] => rfl
  | v :: vs => by simp only [List.map_cons, PyData.depthAll, depth_flat, depthAll_flat]; rfl
theorem shaped_tup {vs : List V} (h : vs.all okV = true) : SeqAt.shaped (.tuple (vs.map dV)) = true := by
  simp only [SeqAt.shaped, PyData.canLay0, layAll_flat h, PyData.depth, depthAll_flat]; rfl
theorem shaped_lst {vs : List V} (h : vs.all okV = true) : SeqAt.shaped (.list (vs.map dV)) = true := by
  simp only [SeqAt.shaped, PyData.canLay0, layAll_flat h, PyData.depth, depthAll_flat]; rfl
/-- == of rows of scalars -/
def eqVs (xs ys : List V) : Bool := PyData.eqvAll (xs.map dV) (ys.map dV)
theorem eqVs_refl {vs : List V} (h : vs.all okV = true) : eqVs vs vs = true := SeqAt.eqvAll_refl _ (layAll_flat h)
section
variable {K : PySem.W.Frag} {H : Hp} {Q : VK}
theorem go_eqT {p q : Addr} {xs ys : List V} (hp : SqT K H p xs) (hq : SqT K H q ys) (ox : xs.all okV = true) (oy : ys.all okV = true) (h : Q (.bl (eqVs xs ys)) H) : rEqX K (.ref p) (.ref q) H Q :=
  .inr ⟨_, _, .tup hp (DpAll.flat (okV_all ox)), .tup hq (DpAll.flat (okV_all oy)), shaped_tup ox, shaped_tup oy, by rw [PyData.eqv]; exact h⟩
theorem go_neT {p q : Addr} {xs ys : List V} (hp : SqT K H p xs) (hq : SqT K H q ys) (ox : xs.all okV = true) (oy : ys.all okV = true) (h : Q (.bl (!eqVs xs ys)) H) : rNeX K (.ref p) (.ref q) H Q :=
  .inr ⟨_, _, .tup hp (DpAll.flat (okV_all ox)), .tup hq (DpAll.flat (okV_all oy)), shaped_tup ox, shaped_tup oy, by rw [PyData.eqv]; exact h⟩
theorem go_eqL {p q : Addr} {xs ys : List V} (hp : SqL K H p xs) (hq : SqL K H q ys) (ox : xs.all okV = true) (oy : ys.all okV = true) (h : Q (.bl (eqVs xs ys)) H) : rEqX K (.ref p) (.ref q) H Q :=
  .inr ⟨_, _, .lst hp (DpAll.flat (okV_all ox)), .lst hq (DpAll.flat (okV_all oy)), shaped_lst ox, shaped_lst oy, by rw [PyData.eqv]; exact h⟩
theorem go_neL {p q : Addr} {xs ys : List V} (hp : SqL K H p xs) (hq : SqL K H q ys) (ox : xs.all okV = true) (oy : ys.all okV = true) (h : Q (.bl (!eqVs xs ys)) H) : rNeX K (.ref p) (.ref q) H Q :=
  .inr ⟨_, _, .lst hp (DpAll.flat (okV_all ox)), .lst hq (DpAll.flat (okV_all oy)), shaped_lst ox, shaped_lst oy, by rw [PyData.eqv]; exact h⟩
end
end L2.A


namespace L2.A
open PySem PySem.Spec PyProof.Rows
section
variable {X : Cx} {K : PySem.W.Frag}
/-! ### the same rules with the fragment named (within a comprehension's own context) -/
theorem op_addK (hK : X.K = K) : OpR X (binaryOp .Add) (rAddX K) := hK ▸ op_addX
theorem op_eqK (hK : X.K = K) (hu : X.A.units + 64 < cLine) : OpR X (compareOp .Eq) (rEqX K) := hK ▸ op_eqX hu
theorem op_neK (hK : X.K = K) (hu : X.A.units + 64 < cLine) : OpR X (compareOp .NotEq) (rNeX K) := hK ▸ op_neX hu
theorem op_inK (hK : X.K = K) (hu : X.A.units + 1 < cLine) : OpR X (compareOp .In) (rInX K) := hK ▸ op_inX hu
theorem op_notInK (hK : X.K = K) (hu : X.A.units + 1 < cLine) : OpR X (compareOp .NotIn) (rNotInX K) := hK ▸ op_notInX hu
theorem op_isK' (hK : X.K = K) : OpR X (compareOp .Is) (rIsX K) := hK ▸ op_isX
theorem op_isNotK' (hK : X.K = K) : OpR X (compareOp .IsNot) (rIsNotX K) := hK ▸ op_isNotX
theorem ix_K (hK : X.K = K) (hu : X.A.units + 1 < cLine) : IxR X (rIxX K) := hK ▸ ix_X hu
theorem sl_K (hK : X.K = K) : SlR X (rSlX K) := hK ▸ sl_X
theorem call_lenK (hK : X.K = K) : CallR X (.builtin "len") (rLenX K) := hK ▸ call_lenX
theorem call_isiK (hK : X.K = K) : CallR X (.builtin "isinstance") (rIsiX K) := hK ▸ call_isiX
theorem call_listK (hK : X.K = K) : CallR X (.type "list") (rListO K) := hK ▸ call_listO
theorem call_tupK (hK : X.K = K) : CallR X (.type "tuple") (rTupO K) := hK ▸ call_tupO
theorem pt_truK (hK : X.K = K) {a : Expr} {ta : TE} (ha : PE X a ta) (he : ∀ whole, isTrue a X.env whole = (do let v ← whole; standAt a.pos; holding [v] (truthy v)) := by intro _; rfl) : PT X a (tTruX K ta) := hK ▸ pt_truX ha he
theorem pi_K (hK : X.K = K) {tg l : Expr} {tl : TE} (hl : PE X l tl) : PI X tg l (iX K tl) := hK ▸ pi_X hl
theorem cr_sumK (hK : X.K = K) (hc : X.calm = true) : CallR X (.builtin "sum") (rSum K) := hK ▸ cr_sum hc
theorem cr_allK (hK : X.K = K) (hc : X.calm = true) : CallR X (.builtin "all") (rAll K) := hK ▸ cr_all hc
theorem cr_anyK (hK : X.K = K) (hc : X.calm = true) : CallR X (.builtin "any") (rAny K) := hK ▸ cr_any hc
theorem pg_tupK (hK : X.K = K) {es : List Expr} {k : Nat} {t : TGs} {n : Nat} {pos : Pos} {i : ExprContext} (hc : X.calm = true) (h : PGs X es t)
    (hn : (assignEach es X.env).length = n := by rfl) (hst : (assignEach es X.env).findIdx? (·.1) = none := by rfl) : PG X (.Tuple es k pos) (gTup K n t) := hK ▸ pg_tup hc h hn hst
end
def BmW (K : PySem.W.Frag) (T : String) (rc : V → List V → Hp → VK → Prop) (ta : TA) (σ : St) (x : V) (H1 : Hp) (Q : VK) : Prop := tyV K T x H1 ∧ ta σ H1 fun vs H2 => rc x vs H2 Q
def BmW0 (K : PySem.W.Frag) (T : String) (rc : V → List V → Hp → VK → Prop) (x : V) (H1 : Hp) (Q : VK) : Prop := tyV K T x H1 ∧ rc x [] H1 Q
section
variable {K : PySem.W.Frag} {H : Hp} {Q : VK} {σ : St}
/-! ### bound methods -/
theorem go_bm {T : String} {rc : V → List V → Hp → VK → Prop} {te : TE} {ta : TA} (h : te σ H fun x H1 => BmW K T rc ta σ x H1 Q) : tBM K T rc te ta σ H Q := h
theorem go_bmW {T : String} {rc : V → List V → Hp → VK → Prop} {ta : TA} {x : V} (h1 : tyV K T x H) (h : ta σ H fun vs H2 => rc x vs H2 Q) : BmW K T rc ta σ x H Q := ⟨h1, h⟩
theorem go_bm0 {T : String} {rc : V → List V → Hp → VK → Prop} {te : TE} (h : te σ H fun x H1 => BmW0 K T rc x H1 Q) : tBM0 K T rc te σ H Q := h
theorem go_bmW0 {T : String} {rc : V → List V → Hp → VK → Prop} {x : V} (h1 : tyV K T x H) (h : rc x [] H Q) : BmW0 K T rc x H Q := ⟨h1, h⟩
theorem tyV_s {z : Str} : tyV K "str" (.str z) H := rfl
theorem tyV_l {p : Addr} {xs : List V} (h : SqL K H p xs) : tyV K "list" (.ref p) H := .inl ⟨rfl, xs, h⟩
theorem tyV_d {p : Addr} {kvs : List (Key × V)} (h : H p = some (.dK kvs)) : tyV K "dict" (.ref p) H := .inr (.inr (.inl ⟨rfl, .inl ⟨kvs, h⟩⟩))
theorem tyV_dT {p : Addr} {kvs} (h : H p = some (.dT kvs)) : tyV K "dict" (.ref p) H := .inr (.inr (.inl ⟨rfl, .inr ⟨kvs, h⟩⟩))
theorem go_append {l : Addr} {xs : List V} {y : V} (hl : H l = some (.lst xs)) (z : xs.length < 100000) (h : Q .non (upd H l (.lst (xs ++ [y])))) : rAppend (.ref l) [y] H Q := ⟨l, xs, y, rfl, rfl, hl, Nat.lt_of_lt_of_le z (by decide), h⟩
end
end L2.A

namespace L2.A
open PySem PySem.Spec PyProof.Rows
section
variable {σ σ' : St} {H : Hp} {D : Ends} {u v w : V} {i j l : Nat} {ta : TA}
def P3 (i j l : Nat) (σ : St) (D : Ends) (vs : List V) (H1 : Hp) : Prop := ∃ u v w, vs = [u, v, w] ∧ D.nx (((σ.set i (some u)).set j (some v)).set l (some w)) H1
def P2 (i j : Nat) (σ : St) (D : Ends) (vs : List V) (H1 : Hp) : Prop := ∃ u v, vs = [u, v] ∧ D.nx ((σ.set i (some u)).set j (some v)) H1
theorem go_par3 (h : ta σ H fun vs H1 => P3 i j l σ D vs H1) : tPar3 i j l ta D σ H := h
theorem go_par (h : ta σ H fun vs H1 => P2 i j σ D vs H1) : tPar i j ta D σ H := h
theorem go_p3 (e : ((σ.set i (some u)).set j (some v)).set l (some w) = σ') (h : D.nx σ' H) : P3 i j l σ D [u, v, w] H := ⟨u, v, w, rfl, by rw [e]; exact h⟩
theorem go_p2 (e : (σ.set i (some u)).set j (some v) = σ') (h : D.nx σ' H) : P2 i j σ D [u, v] H := ⟨u, v, rfl, by rw [e]; exact h⟩
end
theorem kp_mut {fp : Addr → Prop} {H H' : Hp} {l : Addr} {o : HO} (k : Kp fp H H') (h : H l = none) : Kp fp H (upd H' l o) := fun a u e n => by rw [upd_ne (ne_of_none e h)]; exact k a u e n
theorem kp_new {fp : Addr → Prop} {H H' : Hp} {l : Addr} {o : HO} (k : Kp fp H H') (h : H' l = none) : Kp fp H (upd H' l o) := k.trans (Kp.same (same_new h))
end L2.A

namespace L2.A
open PySem PySem.Spec PyProof.Rows
/-- a new object, the heap abstract -/
theorem go_new {o : HO} {H : Hp} {Q : VK} (h : ∀ p H', H p = none → Same H H' → H' p = some o → Q (.ref p) H') : NewO o H Q := fun p hp => h p _ hp (same_new hp) upd_same
/-- the same, from an earlier heap -/
theorem go_newS {o : HO} {H0 H : Hp} {Q : VK} (s : Same H0 H) (h : ∀ p H', H0 p = none → Same H0 H' → H' p = some o → Q (.ref p) H') : NewO o H Q := fun p hp => h p _ (s.free hp) (s.trans (same_new hp)) upd_same
end L2.A

namespace L2.A
open PySem PySem.Spec PyProof.Rows
section
variable {X : Cx} {K : PySem.W.Frag} {σ σ' : St} {H : Hp} {D : Ends} {Q : VK} {J : It} {n : Nat} {G : Hp → Prop} {Y : Nat → Hp → V → Hp → Prop}
/-! ### walks of any kind -/
theorem ForW.it (w : Walk J n G Y) {g : TG} {tb : TS} (Pv : Nat → St → Hp → Prop) (h0 : Pv 0 σ H) (hG : ∀ i σ H, i ≤ n → Pv i σ H → G H)
    (hs : ∀ i x σ H H', i < n → Pv i σ H → Y i H x H' → g x σ H' fun σ2 H2 => tb { D with nx := Pv (i + 1), ct := Pv (i + 1), bk := D.nx } σ2 H2) (hd : ∀ σ H, Pv n σ H → D.nx σ H) : ForW J g tb D σ H := for_it w Pv h0 hG hs hd
theorem LcW.it (w : Walk J n G Y) {H1 : Hp} {g : TG} {tt : TT} {te : TE} {vs : List Nat} (R : Addr → Nat → List V → Hp → Prop) (hz : n ≤ 100000) (h0 : ∀ D, H1 D = none → R D 0 [] (upd H1 D (.lst []))) (hG : ∀ D i ys H, H1 D = none → i ≤ n → H D = some (.lst ys) → R D i ys H → G H)
    (hs : ∀ D i x ys H H', H1 D = none → i < n → ys.length ≤ i → H D = some (.lst ys) → R D i ys H → Y i H x H' → ∀ (yes : V → Hp → Prop) (no : Hp → Prop),
      (∀ y H'', H'' D = some (.lst ys) → R D (i + 1) (ys ++ [y]) (upd H'' D (.lst (ys ++ [y]))) → yes y H'') → (∀ H'', H'' D = some (.lst ys) → R D (i + 1) ys H'' → no H'') →
      g x (wipe σ vs) H' fun σ2 H2 => wipe σ2 vs = wipe σ vs ∧ tt σ2 H2 fun b H3 => if b = true then te σ2 H3 yes else no H3)
    (hd : ∀ D ys H', H1 D = none → H' D = some (.lst ys) → ys.length ≤ n → R D n ys H' → Q (.ref D) H') : LcW J g tt te vs σ H1 Q := by
  intro D hD
  refine lc_it w (fun i H' => ∃ ys, H' D = some (.lst ys) ∧ ys.length ≤ i ∧ R D i ys H') ⟨[], upd_same, Nat.le_refl _, h0 D hD⟩ (fun i H' hi ⟨ys, e, _, r⟩ => hG D i ys H' hD hi e r) (fun i x H' H'' hi ⟨ys, e, hl, r⟩ y => ?_) fun H' ⟨ys, e, hl, r⟩ => hd D ys H' hD e hl r
  refine hs D i x ys H' H'' hD hi hl e r y _ _ (fun z H3 e3 r3 => ⟨ys, e3, ?_, ys ++ [z], upd_same, by rw [List.length_append]; show ys.length + 1 ≤ _; omega, r3⟩) fun H3 e3 r3 => ⟨ys, e3, by omega, r3⟩
  exact Nat.lt_of_le_of_lt hl (Nat.lt_of_lt_of_le hi (Nat.le_trans hz (by decide)))
/-! ### reversed(range), enumerate, zip -/
def RvR (a b : Int) (H1 : Hp) (R : It → Hp → Prop) : Prop := -(2 ^ 62) ≤ a ∧ a < 2 ^ 62 ∧ -(2 ^ 62) ≤ b ∧ b < 2 ^ 62 ∧ R (Itc (a + (((b - a).toNat : Nat) : Int) - 1) (-1) (b - a).toNat) H1
def Rg1 (x : V) (H1 : Hp) (Q : Int → Int → Hp → Prop) : Prop := ∃ n, x = .int n ∧ Q 0 n H1
theorem go_revR {tr : St → Hp → (Int → Int → Hp → Prop) → Prop} {R : It → Hp → Prop} (h : tr σ H fun a b H1 => RvR a b H1 R) : iRevR tr σ H R := h
theorem go_rg1 {ta : TE} {Q : Int → Int → Hp → Prop} (h : ta σ H fun x H1 => Rg1 x H1 Q) : tRg1 ta σ H Q := h
theorem go_rg1b {n : Int} {Q : Int → Int → Hp → Prop} (h : Q 0 n H) : Rg1 (.int n) H Q := ⟨n, rfl, h⟩
theorem go_rvR {b : Int} {R : It → Hp → Prop} (h1 : 0 ≤ b ∧ b ≤ 100000) (h : R (Itc (b - 1) (-1) b.toNat) H) : RvR 0 b H R := ⟨by omega, by omega, by omega, by omega, by rw [show (0 : Int) + (((b - 0).toNat : Nat) : Int) - 1 = b - 1 by omega, show (b - 0).toNat = b.toNat by omega]; exact h⟩
def EnW (K : PySem.W.Frag) (vs : List V) (H1 : Hp) (R : It → Hp → Prop) : Prop := ∃ a xs, vs = [.ref a] ∧ SqL K H1 a xs ∧ R (Ite K a) H1
theorem go_enum {ta : TA} {R : It → Hp → Prop} (h : ta σ H fun vs H1 => EnW K vs H1 R) : iEnum K ta σ H R := h
theorem go_enW {a : Addr} {xs : List V} {R : It → Hp → Prop} (hS : SqL K H a xs) (h : R (Ite K a) H) : EnW K [.ref a] H R := ⟨a, xs, rfl, hS, h⟩
def ZpW (K : PySem.W.Frag) (vs : List V) (H1 : Hp) (R : It → Hp → Prop) : Prop := ∃ a b xs ys, vs = [.ref a, .ref b] ∧ SqL K H1 a xs ∧ SqL K H1 b ys ∧ R (Itz K a b) H1
theorem go_zip {ta : TA} {R : It → Hp → Prop} (h : ta σ H fun vs H1 => ZpW K vs H1 R) : iZip K ta σ H R := h
theorem go_zpW {a b : Addr} {xs ys : List V} {R : It → Hp → Prop} (hS : SqL K H a xs) (hT : SqL K H b ys) (h : R (Itz K a b) H) : ZpW K [.ref a, .ref b] H R := ⟨a, b, xs, ys, rfl, hS, hT, h⟩
/-! ### name op= e, o[i] op= e -/
theorem ip_addX : PIp X .Add (fun x y H Q => rI0 (fun i j => .int (i + j)) x y H Q ∨ rStrA x y H Q ∨ rExt2 x y H Q) := iop_add.or (iop_add_str.or iop_ext)
def AugW (te : TE) (ti : TIp) (σ : St) (i : Nat) (D : Ends) (x : V) (H : Hp) : Prop := te σ H fun y H1 => ti x y H1 fun z H2 => D.nx (σ.set i (some z)) H2
theorem go_aug {i : Nat} {te : TE} {ti : TIp} {x : V} (e : σ[i]? = some (some x)) (h : te σ H fun y H1 => ti x y H1 fun z H2 => gName i z σ H2 D.nx) : tAug i te ti D σ H := ⟨x, e, h⟩
theorem go_ipI {f : Int → Int → Int} {a b : Int} (h : Q (.int (f a b)) H) : ipI f (.int a) (.int b) H Q := ⟨a, b, rfl, rfl, h⟩
theorem go_ipA {a b : Int} (h : Q (.int (a + b)) H) : (rI0 (fun i j => .int (i + j)) (.int a) (.int b) H Q ∨ rStrA (.int a) (.int b) H Q ∨ rExt2 (.int a) (.int b) H Q) := .inl ⟨a, b, rfl, rfl, h⟩
theorem go_ipS {a b : Str} (z : a.length + b.length ≤ sizeLine) (h : Q (.str (a ++ b)) H) : (rI0 (fun i j => .int (i + j)) (.str a) (.str b) H Q ∨ rStrA (.str a) (.str b) H Q ∨ rExt2 (.str a) (.str b) H Q) := .inr (.inl ⟨a, b, rfl, rfl, z, h⟩)
theorem go_ipL {a b : Addr} {xs ys : List V} (hp : H a = some (.lst xs)) (hq : H b = some (.lst ys)) (z : xs.length + ys.length ≤ sizeLine) (h : Q (.ref a) (upd H a (.lst (xs ++ ys)))) : (rI0 (fun i j => .int (i + j)) (.ref a) (.ref b) H Q ∨ rStrA (.ref a) (.ref b) H Q ∨ rExt2 (.ref a) (.ref b) H Q) := .inr (.inr ⟨a, b, xs, ys, rfl, rfl, hp, hq, z, h⟩)
end
/-! ### lists told by a function of the place -/
def lstF (n : Nat) (f : Nat → V) : List V := (List.range n).map f
theorem lstF_len {n : Nat} {f : Nat → V} : (lstF n f).length = n := by simp [lstF]
theorem lstF_at {n : Nat} {f : Nat → V} {i : Nat} (h : i < n) : (lstF n f)[i]? = some (f i) := by simp [lstF, h]
theorem lstF_atI {n : Nat} {f : Nat → V} {i : Int} (h0 : 0 ≤ i) (h1 : i < n) : atI (lstF n f) i = some (f i.toNat) := by
  obtain ⟨j, rfl⟩ : ∃ j : Nat, i = (j : Int) := ⟨i.toNat, by omega⟩
  exact atI_nat (lstF_at (by omega))
theorem lstF_last {n : Nat} {f : Nat → V} : atI (lstF (n + 1) f) (-1) = some (f n) := by
  have e : ixN (n + 1) (-1) = some n := by
    unfold ixN
    rw [if_neg (by omega), if_pos (by omega)]
    congr 1
    omega
  unfold atI
  rw [lstF_len, e]
  exact lstF_at (by omega)
theorem lstF_app {n : Nat} {f : Nat → V} {v : V} : lstF n f ++ [v] = lstF (n + 1) (fun i => if i = n then v else f i) := by
  unfold lstF
  rw [List.range_succ, List.map_append]
  congr 1
  · refine List.map_congr_left fun i hi => ?_
    rw [if_neg (by have := List.mem_range.mp hi; omega)]
  · simp
theorem lstF_set {n k : Nat} {f : Nat → V} {v : V} (h : k < n) : (lstF n f).set k v = lstF n (fun i => if i = k then v else f i) := by
  apply List.ext_getElem?
  intro i
  unfold lstF
  rw [List.getElem?_set]
  by_cases e : k = i
  · subst e
    simp [h]
  · rw [if_neg e]
    by_cases l : i < n
    · simp [l, Ne.symm e]
    · simp [l]
theorem lstF_congr {n : Nat} {f g : Nat → V} (h : ∀ i, i < n → f i = g i) : lstF n f = lstF n g := List.map_congr_left fun i hi => h i (List.mem_range.mp hi)
theorem lstF_cut {n m : Nat} {f : Nat → V} (h : m ≤ n) : cutV (lstF n f) none (some (m : Int)) = lstF m f := by
  unfold cutV
  rw [HT.sIx_nat, HT.sIx_none, lstF_len, Nat.min_eq_left h, List.drop_zero, Nat.sub_zero]
  unfold lstF
  rw [← List.map_take, List.take_range, Nat.min_eq_left h]
theorem lstF_of (xs : List V) (d : V) : xs = lstF xs.length (fun i => xs.getD i d) := by
  apply List.ext_getElem?
  intro i
  by_cases l : i < xs.length
  · rw [lstF_at l]; simp [l]
  · simp [lstF, l]
end L2.A

namespace L2.A
open PySem PySem.Spec PyProof.Rows
theorem DpAll.map {K : PySem.W.Frag} {H : Hp} {α : Type} {f : α → V} {g : α → PyData} : ∀ {xs : List α}, (∀ x ∈ xs, Dp K H (f x) (g x)) → DpAll K H (xs.map f) (xs.map g)
  | [], _ => .nil
  | x :: xs, h => .cons (h x (List.mem_cons_self ..)) (DpAll.map fun y m => h y (List.mem_cons_of_mem _ m))
theorem canAll_map {α : Type} {g : α → PyData} : ∀ {xs : List α}, (∀ x ∈ xs, (g x).canLay0 = true) → PyData.canLayAll0 (xs.map g) = true
  | [], _ => rfl
  | x :: xs, h => by
    simp only [List.map_cons, PyData.canLayAll0, h x (List.mem_cons_self ..), canAll_map fun y m => h y (List.mem_cons_of_mem _ m), Bool.and_self]
theorem depthAll_map {α : Type} {g : α → PyData} {d : Nat} : ∀ {xs : List α}, (∀ x ∈ xs, (g x).depth ≤ d) → PyData.depthAll (xs.map g) ≤ d
  | [], _ => Nat.zero_le _
  | x :: xs, h => by
    simp only [List.map_cons, PyData.depthAll]
    exact Nat.max_le.mpr ⟨h x (List.mem_cons_self ..), depthAll_map fun y m => h y (List.mem_cons_of_mem _ m)⟩
theorem shaped_of {d : PyData} (h1 : d.canLay0 = true) (h2 : d.depth ≤ 64) : SeqAt.shaped d = true := by
  unfold SeqAt.shaped
  rw [h1, decide_eq_true h2]; rfl
theorem go_eqD {K : PySem.W.Frag} {H : Hp} {Q : VK} {x y : V} {d e : PyData} (h1 : Dp K H x d) (h2 : Dp K H y e) (s1 : SeqAt.shaped d = true) (s2 : SeqAt.shaped e = true) (h : Q (.bl (PyData.eqv d e)) H) : rEqX K x y H Q := .inr ⟨d, e, h1, h2, s1, s2, h⟩
theorem go_neD {K : PySem.W.Frag} {H : Hp} {Q : VK} {x y : V} {d e : PyData} (h1 : Dp K H x d) (h2 : Dp K H y e) (s1 : SeqAt.shaped d = true) (s2 : SeqAt.shaped e = true) (h : Q (.bl (!PyData.eqv d e)) H) : rNeX K x y H Q := .inr ⟨d, e, h1, h2, s1, s2, h⟩
theorem go_eqDs {K : PySem.W.Frag} {H : Hp} {Q : VK} {x y : V} {d : PyData} (h1 : Dp K H x d) (h2 : Dp K H y d) (s1 : d.canLay0 = true) (s2 : d.depth ≤ 64) (h : Q (.bl true) H) : rEqX K x y H Q :=
  go_eqD h1 h2 (shaped_of s1 s2) (shaped_of s1 s2) (by rw [SeqAt.eqv_refl d s1]; exact h)
theorem go_neDs {K : PySem.W.Frag} {H : Hp} {Q : VK} {x y : V} {d : PyData} (h1 : Dp K H x d) (h2 : Dp K H y d) (s1 : d.canLay0 = true) (s2 : d.depth ≤ 64) (h : Q (.bl false) H) : rNeX K x y H Q :=
  go_neD h1 h2 (shaped_of s1 s2) (shaped_of s1 s2) (by rw [SeqAt.eqv_refl d s1]; exact h)
end L2.A

namespace L2.A
open PySem PySem.Spec PyProof.Rows
theorem lstF_cutM {n m : Nat} {f : Nat → V} : cutV (lstF n f) none (some (m : Int)) = lstF (min m n) f := by
  unfold cutV
  rw [HT.sIx_nat, HT.sIx_none, lstF_len, List.drop_zero, Nat.sub_zero]
  unfold lstF
  rw [← List.map_take, List.take_range, Nat.min_eq_left (Nat.min_le_right _ _)]
theorem cut_take {xs : List V} {k : Nat} (h : k ≤ xs.length) : cutV xs none (some (k : Int)) = xs.take k := by
  unfold cutV
  rw [HT.sIx_nat, HT.sIx_none, List.drop_zero, Nat.sub_zero, Nat.min_eq_left h]
theorem cut_drop {xs : List V} {k : Nat} (h : k ≤ xs.length) : cutV xs (some (k : Int)) none = xs.drop k := by
  unfold cutV
  rw [HT.sIx_nat, HT.sIx_none, Nat.min_eq_left h]
  exact List.take_of_length_le (by rw [List.length_drop]; omega)
theorem perm_eq : ∀ {xs ys : List Int}, xs.Perm ys → xs.Pairwise (· ≤ ·) → ys.Pairwise (· ≤ ·) → xs = ys
  | [], ys, p, _, _ => p.symm.eq_nil.symm
  | x :: xs, [], p, _, _ => p.eq_nil
  | x :: xs, y :: ys, p, hx, hy => by
    have h1 : x ≤ y := by
      rcases List.mem_cons.mp (p.symm.subset (List.mem_cons_self ..) : y ∈ x :: xs) with e | m
      · omega
      · exact List.rel_of_pairwise_cons hx m
    have h2 : y ≤ x := by
      rcases List.mem_cons.mp (p.subset (List.mem_cons_self ..) : x ∈ y :: ys) with e | m
      · omega
      · exact List.rel_of_pairwise_cons hy m
    obtain rfl : x = y := by omega
    rw [perm_eq ((List.perm_cons x).mp p) (List.Pairwise.of_cons hx) (List.Pairwise.of_cons hy)]
theorem ints_ok (ns : List Int) : (ns.map V.int).all okV = true := by
  rw [List.all_eq_true]
  intro v m
  obtain ⟨i, _, rfl⟩ := List.mem_map.mp m
  rfl
theorem go_sorted {K : PySem.W.Frag} {H : Hp} {Q : VK} {a : Addr} {ns : List Int} (hS : SqL K H a (ns.map V.int)) (hz : ns.length < 64) (h : ∀ (ns' : List Int) (p : Addr), ns'.Perm ns → ns'.Pairwise (· ≤ ·) → H p = none → Q (.ref p) (upd H p (.lst (ns'.map V.int)))) : rSorted K [.ref a] H Q := ⟨a, ns, rfl, hS, hz, h⟩
end L2.A

namespace L2.A
open PySem PySem.Spec PyProof.Rows
theorem go_mulL {H : Hp} {Q : VK} {l : Addr} {k : Int} {xs : List V} (hp : H l = some (.lst xs)) (h0 : 0 ≤ k ∧ k ≤ 1000) (z : xs.length ≤ 100) (h : NewO (.lst (List.replicate k.toNat xs).flatten) H Q) : rMulX (.ref l) (.int k) H Q :=
  (.inr ∘ .inl) ⟨l, k, xs, rfl, rfl, hp, by omega, by omega, Nat.le_trans (Nat.mul_le_mul z (show k.toNat ≤ 1000 by omega)) (by decide), h⟩
end L2.A

namespace L2.A
open PySem PySem.Spec PyProof.Rows
section
variable {K : PySem.W.Frag} {H : Hp} {Q : VK}
/-! ### methods of texts -/
theorem go_joinL {a : Str} {p : Addr} {ys : List Str} (hp : SqL K H p (ys.map V.str)) (z : (ys.map (·.length)).sum + ys.length * a.length ≤ 16777216) (h : Q (.str (Txt.join a ys)) H) :
    (∃ a' p', ∃ ys' : List Str, V.str a = .str a' ∧ [V.ref p] = [.ref p'] ∧ (SqL K H p' (ys'.map V.str) ∨ SqT K H p' (ys'.map V.str)) ∧ (ys'.map (·.length)).sum + ys'.length * a'.length ≤ 16777216 ∧ Q (.str (Txt.join a' ys')) H) := ⟨a, p, ys, rfl, rfl, .inl hp, z, h⟩
theorem go_split {a b : Str} (h1 : (b.length == 0) = false) (h2 : a.length ≤ 10000) (h : NewO (.lst ((Txt.split a b).map V.str)) H Q) :
    (∃ a' b', V.str a = .str a' ∧ [V.str b] = [.str b'] ∧ (b'.length == 0) = false ∧ a'.length + 2 ≤ sizeLine ∧ rNewStrs (Txt.split a' b') H Q) := ⟨a, b, rfl, rfl, h1, Nat.le_trans (show a.length + 2 ≤ 10002 by omega) (by decide), h⟩
theorem go_starts {a b : Str} (h : Q (.bl (Txt.startswith a b)) H) : (∃ a' b', V.str a = .str a' ∧ [V.str b] = [.str b'] ∧ Q (.bl (Txt.startswith a' b')) H) := ⟨a, b, rfl, rfl, h⟩
theorem go_find {a b : Str} (h : Q (.int (Txt.find a b)) H) : (∃ a' b', V.str a = .str a' ∧ [V.str b] = [.str b'] ∧ Q (.int (Txt.find a' b')) H) := ⟨a, b, rfl, rfl, h⟩
end
end L2.A

namespace L2.A
open PySem PySem.Spec PyProof.Rows
theorem cutS_le {z : Str} {lo hi : Option Int} : (cutS z lo hi).length ≤ z.length := by
  have e : (cutS z lo hi).length = ((z.cps.toList.drop (HT.sIx z.length 0 lo)).take (HT.sIx z.length z.length hi - HT.sIx z.length 0 lo)).length := by
    unfold cutS
    exact List.size_toArray ..
  rw [e, List.length_take, List.length_drop]
  have h : z.length = z.cps.toList.length := (Array.length_toList ..).symm
  omega
end L2.A

namespace L2.A
open PySem PySem.Spec PyProof.Rows
/-- a statement that is never reached -/
def tDead : TS := fun _ _ _ => False
theorem ps_dead {X : Cx} {st : Stmt} : PS X st tDead := ⟨fun _ _ _ _ _ _ h => False.elim h⟩
end L2.A


namespace L2.A
open PySem PySem.Spec PyProof.Rows
/-! ### B.__init__(self, ..), B an own exception class without __init__ -/
def biB (K : PySem.W.Frag) (B : Addr) : Bool :=
  decide (PySem.W.specialIn K (.ref B) "__getattribute__" = some (some (.builtin "type.__getattribute__"))) && (decide (PySem.W.typeIn K (.ref B) = some (.type "type")) && (PySem.W.readsIn K B (.type "type") &&
    (match PySem.W.findCls K (.ref B) (.type "type") "__init__" with
      | some (.val v) => decide (v = .builtin "ValueError.__init__")
      | _ => false)))
section
variable {X : Cx} {o e : Expr} {es : List Expr} {to te : TE} {ta : TA} {f : Str} {p p' p1 p2 pos : Pos} {x : Str} {B : Addr}
theorem pe_binit {pl : Sem Bool} (hg : Gl X x) (hm : X.mg x = some (.ref B)) (bb : biB X.K B = true) (ha : PA X (e :: es) ta) (hdb : (x == ("__debug__" : Str)) = false := by decide)
    (hc : eval (.Call (.Attribute (.Name x p1) "__init__" p2) (e :: es) [] pos) X.env = (do
      let ov ← eval (.Name x p1) X.env
      standAt p2.atName
      let (f, first) ← holding [ov] (getMethod ov "__init__" pl)
      callWith pos f first (backTo pos (starEach (e :: es) X.env)) (backToKw pos (keywordEach [] X.env))) := by rfl)
    (he : starEach (e :: es) X.env = (false, eval e X.env) :: starEach es X.env := by rfl) (hpl : (backTo pos (starEach es X.env)).any (·.1) = false := by rfl) :
    PE X (.Call (.Attribute (.Name x p1) "__init__" p2) (e :: es) [] pos) (tVeI X.K ta) := by
  unfold biB at bb
  rw [Bool.and_eq_true, Bool.and_eq_true, Bool.and_eq_true] at bb
  obtain ⟨b1, b2, b3, b4⟩ := bb
  have b1 := of_decide_eq_true b1
  have b2 := of_decide_eq_true b2
  have b5 : PySem.W.findCls X.K (.ref B) (.type "type") "__init__" = some (.val (.builtin "ValueError.__init__")) := by
    revert b4
    cases PySem.W.findCls X.K (.ref B) (.type "type") "__init__" with
    | none => intro h; cases h
    | some r =>
      cases r with
      | val v => intro h; rw [of_decide_eq_true h]
      | get _ _ _ _ => intro h; cases h
  refine ⟨fun pins s σ H Q I h => ?_⟩
  refine PySem.W.methodCall_KW (ld_glob I hg hm ?_ hdb) hc
  obtain ⟨m, fr⟩ := I.fr
  refine PySem.W.method_of_cls fr I.ok.mod.kin b1 ?_
  refine PySem.W.cls_val fr I.ok.mod.kin b2 b3 b5 (by decide +kernel) ?_
  show wpAny _ _ (callWith pos (Value.builtin "ValueError.__init__") [] (backTo pos (starEach (e :: es) X.env)) []) _ _ _
  refine PyProof.Rows.callWith_method1 (thn (ha.run pos pins _ σ H _ (I.tok _) h) fun us s1 ⟨vs, H1, I1, r1, a, C, ws, ev, hl, T, ea, q⟩ => ?_) he hpl
  subst ev
  cases r1 with
  | @cons _ u0 _ ur ra rw' =>
    obtain rfl : u0 = Value.ref a := ra
    have hlen : ur.length ≤ sizeLine := by
      rw [← Paired.length rw', sizeLine_eq]
      omega
    exact oinit_ok T I1 ea hlen fun s' J => ⟨.non, H1, J, rfl, q⟩
end
/-! ### a head by facts with any more that the fragment decides -/
def frX (n : Nat) (g : Addr → Option Obj) : PySem.W.Frag := He.frG g (cStatics :: He.asD g n)
def obsXG (n : Nat) (fa : List He.Fa) (fn : List He.DefD) (xs : List (PySem.W.Frag → Bool)) (g : Addr → Option Obj) : Bool × He.AlD := (xs.all fun f => f (frX n g), He.obsD fa fn (frX n g))
def hookX (n : Nat) (fa : List He.Fa) (fn : List He.DefD) (xs : List (PySem.W.Frag → Bool)) : PySem.W.Hook where
  α := Bool × He.AlD
  obs := fun s => obsXG n fa fn xs s.heap.get?
  val := fun _ => (true, He.valD fn)
  says := fun _ h => ∃ K : PySem.W.Frag, K.In h ∧ He.SaysD fa fn K ∧ (xs.all fun f => f K) = true
  of := fun _ _ e => ⟨_, He.frG_in, (Prod.ext_iff.mp e).2, (Prod.ext_iff.mp e).1⟩
  keeps := fun _ _ _ ⟨K, hK, c⟩ k => ⟨K, PySem.W.Frag.In.keeps hK k, c⟩
theorem obsXG_eq {n : Nat} {fa : List He.Fa} {fn : List He.DefD} {xs : List (PySem.W.Frag → Bool)} {g : Addr → Option Obj} {s : Shared} (h : ∀ a, g a = s.heap.get? a) : obsXG n fa fn xs g = (hookX n fa fn xs).obs s := by
  have e : g = s.heap.get? := funext h
  rw [e] <;> rfl
theorem more_fact {xs : List (PySem.W.Frag → Bool)} {K : PySem.W.Frag} (c : (xs.all fun f => f K) = true) (i : Nat) {f : PySem.W.Frag → Bool} (h : xs[i]? = some f := by rfl) : f K = true := List.all_eq_true.mp c f (List.mem_of_getElem? h)
end L2.A

namespace L2.A
open PySem PySem.Spec PyProof.Rows
/-- what the fragment must say of an own exception class, as a test -/
def oexB (K : PySem.W.Frag) (C : Addr) : Bool :=
  (match K.lookup C with
    | some ⟨.type "type", _, .cls cd, sl⟩ => (match cd.mro, sl.toList with
      | .ref C' :: bm, [_, _, _, _, some (.builtin n), _] => C' == C && n == "ValueError.__new__" && !cd.hasDel && cd.hasDict && PySem.HandSPX.refsVE bm
      | _, _ => false)
    | _ => false) && (decide (PySem.W.findIn K (.ref C) "__setattr__" = some (some (.builtin "object.__setattr__"))) && (decide (PySem.W.subIn K (.ref C) (.type "BaseException") = some true) && (decide (PySem.W.typeIn K (.ref C) = some (.type "type")) && PySem.W.keepIn K (.ref C))))
theorem oexB_ok {K : PySem.W.Frag} {C : Addr} (h : oexB K C = true) : OexC K C := by
  unfold oexB at h
  rw [Bool.and_eq_true, Bool.and_eq_true, Bool.and_eq_true, Bool.and_eq_true] at h
  obtain ⟨q, b1, b2, b3, b4⟩ := h
  refine ⟨?_, of_decide_eq_true b1, of_decide_eq_true b2, of_decide_eq_true b3, b4⟩
  split at q
  · rename_i dd cd sl ho
    split at q
    · rename_i C' bm k0 k1 k2 k3 n k5 hm hs
      simp only [Bool.and_eq_true, beq_iff_eq, Bool.not_eq_true'] at q
      obtain ⟨⟨⟨⟨rfl, rfl⟩, hdel⟩, hdct⟩, ht⟩ := q
      obtain ⟨nm, bs, mro, ns, qn, hd, sn, sub, ab, col, del⟩ := cd
      dsimp only at hm hdel hdct
      subst hm hdel hdct
      have hsl : sl = #[k0, k1, k2, k3, some (.builtin "ValueError.__new__"), k5] := by
        obtain ⟨l⟩ := sl
        simp only at hs
        rw [hs]
      subst hsl
      exact ⟨nm, qn, ns, bs, bm, sn, sub, ab, col, dd, k0, k1, k2, k3, k5, ho, ht⟩
    · cases q
  · cases q
end L2.A


namespace L2.A
open PySem PySem.Spec PyProof.Rows
/-! ### own classes: methods and instances by name -/
structure MtD (P : Program) (w : World) (K : PySem.W.Frag) (mg : Str → Option Value) (base : Heap) (CX : CXT) (k : Nat) (C : Addr) (m : Str) (ps : List Str) (dvs : List V) (sp : Sp) : Prop where
  ex : ∃ (f : Addr) (fd : FuncData) (ds : List Value), FnOk P w K mg base CX k f fd ps sp ∧ Meth K C m f ∧ Cls K C ∧ Binds K fd ps ds ∧ Vals dvs ds
structure MkD (P : Program) (w : World) (K : PySem.W.Frag) (mg : Str → Option Value) (base : Heap) (CX : CXT) (k : Nat) (C : Addr) (x : Str) (ps : List Str) (dvs : List V) (sp : Sp) : Prop where
  ex : ∃ (f : Addr) (fd : FuncData) (ds : List Value), FnOk P w K mg base CX k f fd ps sp ∧ Mk K C f ∧ mg x = some (.ref C) ∧ Binds K fd ps ds ∧ Vals dvs ds
section
variable {X : Cx} {CX : CXT} {k : Nat} {ps : List Str} {dvs : List V} {sp : Sp} {E : XK} {x m : Str} {p apos pos : Pos} {o e : Expr} {es : List Expr} {t : TA} {ta : TE} {C : Addr}
theorem pe_mth {pl : Sem Bool} (D : MtD X.prog X.w X.K X.mg X.base CX k C m ps dvs sp) (hr : Room k X.A) (hx : Passes CX X E) (he : PE X o ta) (ha : PA X (e :: es) t)
    (hst : starEach (e :: es) X.env = (false, eval e X.env) :: starEach es X.env := by rfl) (hpl : (backTo pos (starEach es X.env)).any (·.1) = false := by rfl)
    (ht : eval (.Call (.Attribute o m apos) (e :: es) [] pos) X.env = (do
      let ov ← eval o X.env
      standAt apos.atName
      let (f, first) ← holding [ov] (getMethod ov m pl)
      callWith pos f first (backTo pos (starEach (e :: es) X.env)) (backToKw pos (keywordEach [] X.env))) := by rfl) : PE X (.Call (.Attribute o m apos) (e :: es) [] pos) (tMeth C m sp dvs E ta t) := by
  obtain ⟨f, fd, ds, F, hm, c, hb, hv⟩ := D.ex
  exact pe_meth he c hm F hr hb hv hx ha hst hpl ht
theorem pe_mth0 {pl : Sem Bool} (D : MtD X.prog X.w X.K X.mg X.base CX k C m ps dvs sp) (hr : Room k X.A) (hx : Passes CX X E) (he : PE X o ta)
    (ht : eval (.Call (.Attribute o m apos) [] [] pos) X.env = (do
      let ov ← eval o X.env
      standAt apos.atName
      let (f, first) ← holding [ov] (getMethod ov m pl)
      callWith pos f first (backTo pos (starEach [] X.env)) (backToKw pos (keywordEach [] X.env))) := by rfl) : PE X (.Call (.Attribute o m apos) [] [] pos) (tMeth C m sp dvs E ta tNil) := by
  obtain ⟨f, fd, ds, F, hm, c, hb, hv⟩ := D.ex
  exact pe_meth0 he c hm F hr hb hv hx ht
theorem pe_mke (D : MkD X.prog X.w X.K X.mg X.base CX k C x ps dvs sp) (hr : Room (k + 1) X.A) (hg : Gl X x) (hx : Passes CX X E) (ha : PA X (e :: es) t) (hdb : (x == ("__debug__" : Str)) = false := by decide)
    (he : starEach (e :: es) X.env = (false, eval e X.env) :: starEach es X.env := by rfl) (hpl : (backTo pos (starEach es X.env)).any (·.1) = false := by rfl) : PE X (.Call (.Name x p) (e :: es) [] pos) (tMake C sp dvs E t) := by
  obtain ⟨f, fd, ds, F, M, hm, hb, hv⟩ := D.ex
  exact pe_make M F hr hg hm hb hv hx ha hdb he hpl
theorem pe_mke0 (D : MkD X.prog X.w X.K X.mg X.base CX k C x ps dvs sp) (hr : Room (k + 1) X.A) (hg : Gl X x) (hx : Passes CX X E) (hdb : (x == ("__debug__" : Str)) = false := by decide) : PE X (.Call (.Name x p) [] [] pos) (tMake C sp dvs E tNil) := by
  obtain ⟨f, fd, ds, F, M, hm, hb, hv⟩ := D.ex
  exact pe_make0 M F hr hg hm hb hv hx hdb
end
section
variable {K : PySem.W.Frag} {σ : St} {H : Hp} {D : Ends} {Q : VK} {ta tv : TE} {t : TA} {f m : Str} {a C dx : Addr} {fs fs' : List (Str × V)} {v y : V} {sp : Sp} {dvs : List V} {E : XK}
def FldW (K : PySem.W.Frag) (f : Str) (x : V) (H1 : Hp) (Q : VK) : Prop := ∃ a C dx fs v, x = .ref a ∧ H1 a = some (.ins C dx fs) ∧ Cls K C ∧ NoAttr K C f ∧ fs.lookup f = some v ∧ Q v H1
theorem go_fld (h : ta σ H fun x H1 => FldW K f x H1 Q) : tFld K ta f σ H Q := h
theorem go_fldW (hp : H a = some (.ins C dx fs)) (c : Cls K C) (n : NoAttr K C f) (l : fs.lookup f = some v) (h : Q v H) : FldW K f (.ref a) H Q := ⟨a, C, dx, fs, v, rfl, hp, c, n, l, h⟩
def SFldW (K : PySem.W.Frag) (f : Str) (y : V) (D : Ends) (σ : St) (x : V) (H2 : Hp) : Prop := ∃ a C dx fs, x = .ref a ∧ H2 a = some (.ins C dx fs) ∧ Cls K C ∧ NoAttr K C f ∧ fs.length < 1000 ∧ D.nx σ (upd H2 a (.ins C dx (putF f y fs)))
theorem go_sfld (h : tv σ H fun y H1 => ta σ H1 fun x H2 => SFldW K f y D σ x H2) : sFld K ta tv f D σ H := h
theorem go_sfldW (hp : H a = some (.ins C dx fs)) (c : Cls K C) (n : NoAttr K C f) (z : Nat.ble fs.length 900 = true) (e : putF f y fs = fs') (h : D.nx σ (upd H a (.ins C dx fs'))) : SFldW K f y D σ (.ref a) H :=
  ⟨a, C, dx, fs, rfl, hp, c, n, Nat.lt_of_le_of_lt (Nat.le_of_ble_eq_true z) (by decide), by rw [e]; exact h⟩
def MethW (C : Addr) (m : Str) (sp : Sp) (dvs : List V) (E : XK) (t : TA) (σ : St) (x : V) (H1 : Hp) (Q : VK) : Prop := ∃ a dx fs, x = .ref a ∧ H1 a = some (.ins C dx fs) ∧ fs.lookup m = none ∧ t σ H1 fun vs H2 => sp (x :: (vs ++ dvs)) H2 Q E
theorem go_meth (h : ta σ H fun x H1 => MethW C m sp dvs E t σ x H1 Q) : tMeth C m sp dvs E ta t σ H Q := h
theorem go_methW (hp : H a = some (.ins C dx fs)) (l : fs.lookup m = none) (h : t σ H fun vs H2 => sp (.ref a :: (vs ++ dvs)) H2 Q E) : MethW C m sp dvs E t σ (.ref a) H Q := ⟨a, dx, fs, rfl, hp, l, h⟩
def MakeW (C : Addr) (sp : Sp) (dvs : List V) (E : XK) (vs : List V) (H1 : Hp) (Q : VK) : Prop := ∀ x dx, H1 x = none → H1 dx = none → dx ≠ x → sp (.ref x :: (vs ++ dvs)) (upd (upd H1 dx (.own x)) x (.ins C dx [])) (fun v H2 => v = .non ∧ Q (.ref x) H2) E
theorem go_make (h : t σ H fun vs H1 => MakeW C sp dvs E vs H1 Q) : tMake C sp dvs E t σ H Q := h
/-- o.f op= e -/
def AFldW (K : PySem.W.Frag) (f : Str) (tv : TE) (rd : V → V → Hp → VK → Prop) (D : Ends) (σ : St) (x : V) (H1 : Hp) : Prop := ∃ a C dx fs v, x = .ref a ∧ H1 a = some (.ins C dx fs) ∧ Cls K C ∧ NoAttr K C f ∧ fs.lookup f = some v ∧ tv σ H1 fun y H2 => rd v y H2 fun z H3 => ∃ dx' fs', H3 a = some (.ins C dx' fs') ∧ fs'.length < 1000 ∧ D.nx σ (upd H3 a (.ins C dx' (putF f z fs')))
end
section
variable {a b c d e g h' : V} {R2' : V → V → Hp → VK → XK → Prop} {H : Hp} {Q : VK} {E : XK}
/-! ### a method's promise: self, then the rest -/
theorem go_ms1 {R} (h : R a H Q E) : Sp1 R (a :: ([] ++ [])) H Q E := ⟨a, rfl, h⟩
theorem go_ms2 {R} (h : R a b H Q E) : Sp2 R (a :: ([b] ++ [])) H Q E := ⟨a, b, rfl, h⟩
theorem go_ms3 {R} (h : R a b c H Q E) : Sp3 R (a :: ([b, c] ++ [])) H Q E := ⟨a, b, c, rfl, h⟩
theorem go_ms4 {R} (h : R a b c d H Q E) : Sp4 R (a :: ([b, c, d] ++ [])) H Q E := ⟨a, b, c, d, rfl, h⟩
theorem go_ms5 {R} (h : R a b c d e H Q E) : Sp5 R (a :: ([b, c, d, e] ++ [])) H Q E := ⟨a, b, c, d, e, rfl, h⟩
end
end L2.A

namespace L2.A
open PySem PySem.Spec PyProof.Rows
section
variable {K : PySem.W.Frag} {σ : St} {H : Hp} {D : Ends} {Q : VK} {ta tv : TE} {f : Str} {a C dx : Addr} {fs fs' : List (Str × V)} {v z : V} {rd : V → V → Hp → VK → Prop}
def AStW (C : Addr) (f : Str) (a : Addr) (D : Ends) (σ : St) (z : V) (H3 : Hp) : Prop := ∃ dx' fs', H3 a = some (.ins C dx' fs') ∧ fs'.length < 1000 ∧ D.nx σ (upd H3 a (.ins C dx' (putF f z fs')))
theorem go_faug (h : ta σ H fun x H1 => AFldW K f tv rd D σ x H1) : sFldAug K ta tv rd f D σ H := h
theorem go_faugW (hp : H a = some (.ins C dx fs)) (c : Cls K C) (n : NoAttr K C f) (l : fs.lookup f = some v) (h : tv σ H fun y H2 => rd v y H2 fun z H3 => AStW C f a D σ z H3) : AFldW K f tv rd D σ (.ref a) H := ⟨a, C, dx, fs, v, rfl, hp, c, n, l, h⟩
theorem go_astW (hp : H a = some (.ins C dx fs)) (s : Nat.ble fs.length 900 = true) (e : putF f z fs = fs') (h : D.nx σ (upd H a (.ins C dx fs'))) : AStW C f a D σ z H := ⟨dx, fs, hp, Nat.lt_of_le_of_lt (Nat.le_of_ble_eq_true s) (by decide), by rw [e]; exact h⟩
theorem go_rAdd {i j : Int} (h : Q (.int (i + j)) H) : rAdd (.int i) (.int j) H Q := ⟨i, j, rfl, rfl, h⟩
theorem go_rSub {i j : Int} (h : Q (.int (i - j)) H) : rSub (.int i) (.int j) H Q := ⟨i, j, rfl, rfl, h⟩
end
end L2.A

namespace L2.A
open PySem PySem.Spec PyProof.Rows
section
variable {X : Cx} {K : PySem.W.Frag} {σ : St} {H : Hp} {f : Str} {o : Expr} {ta : TE} {pos : Pos} {v : V} {QS : St → Hp → Prop} {a C dx : Addr} {fs fs' : List (Str × V)}
/-- o.f as a target -/
def GFldW (K : PySem.W.Frag) (f : Str) (v : V) (σ : St) (x : V) (H1 : Hp) (QS : St → Hp → Prop) : Prop := ∃ a C dx fs, x = .ref a ∧ H1 a = some (.ins C dx fs) ∧ Cls K C ∧ NoAttr K C f ∧ fs.length < 1000 ∧ QS σ (upd H1 a (.ins C dx (putF f v fs)))
def gFld (K : PySem.W.Frag) (ta : TE) (f : Str) : TG := fun v σ H QS => ta σ H fun x H1 => GFldW K f v σ x H1 QS
theorem pg_fld (ho : PE X o ta) : PG X (.Attribute o f pos) (gFld X.K ta f) := by
  refine ⟨fun pins s σ H v u Q I r h => ?_⟩
  rw [assign_Attribute]
  refine wpAny_bind (wpAny_holding (thn (ho.run pins s σ H _ I h) fun ov s1 ⟨x, H1, I1, r1, a, C, dx, fs, ex, ea, c, n, l, q⟩ => ?_))
  subst ex
  obtain rfl : ov = Value.ref a := r1
  refine wpAny_bind (wpAny_standAt ?_)
  refine wpAny_bind (wpAny_holding (setattr_ok I1 ea c n l r fun s2 I2 => ?_))
  exact wpAny_release ⟨σ, _, I2, q⟩
theorem go_gfld (h : ta σ H fun x H1 => GFldW K f v σ x H1 QS) : gFld K ta f v σ H QS := h
theorem go_gfldW (hp : H a = some (.ins C dx fs)) (c : Cls K C) (n : NoAttr K C f) (z : Nat.ble fs.length 900 = true) (e : putF f v fs = fs') (h : QS σ (upd H a (.ins C dx fs'))) : GFldW K f v σ (.ref a) H QS :=
  ⟨a, C, dx, fs, rfl, hp, c, n, Nat.lt_of_le_of_lt (Nat.le_of_ble_eq_true z) (by decide), by rw [e]; exact h⟩
end
end L2.A

namespace L2.A
open PySem PySem.Spec PyProof.Rows
/-- an instance or a dict: what may change -/
def isMut : HO → Prop
  | .ins _ _ _ => True
  | .dK _ => True
  | .lst _ => True
  | _ => False
theorem seqT_kp {K : PySem.W.Frag} {fp : Addr → Prop} {H H' : Hp} {q : Addr} {xs : List V} (h : SqT K H q xs) (k : Kp fp H H') (hn : ∀ a o, H a = some o → fp a → isMut o) : SqT K H' q xs := by
  rcases h with (h | ⟨o, h⟩) | h
  · exact .inl (.inl (k _ _ h fun f => (hn _ _ h f).elim))
  · exact .inl (.inr ⟨o, k _ _ h fun f => (hn _ _ h f).elim⟩)
  · exact .inr h
theorem Kp.imp {fp fp' : Addr → Prop} {H H' : Hp} (k : Kp fp H H') (h : ∀ a, fp a → fp' a) : Kp fp' H H' := fun a o e n => k a o e fun f => n (h a f)
end L2.A

namespace L2.A
open PySem PySem.Spec PyProof.Rows
section
variable {σ : St} {H : Hp} {Q : VK} {td ty tx : TE} {a : Addr} {kvs : List (Key × V)} {z : V} {s : Str}
/-! ### d.get(k, x) -/
def Dg2W (ty tx : TE) (σ : St) (x : V) (H1 : Hp) (Q : VK) : Prop := ∃ a, x = .ref a ∧ IsD H1 a ∧ ty σ H1 fun y H2 => tx σ H2 fun z H3 => ∃ o, DGet H3 a y o ∧ Q (o.getD z) H3
def Dg2K (a : Addr) (y z : V) (H3 : Hp) (Q : VK) : Prop := ∃ o, DGet H3 a y o ∧ Q (o.getD z) H3
theorem go_dget2 (h : td σ H fun x H1 => Dg2W ty tx σ x H1 Q) : tDGet2 td ty tx σ H Q := h
theorem go_dg2W (hp : IsD H a) (h : ty σ H fun y H2 => tx σ H2 fun z H3 => Dg2K a y z H3 Q) : Dg2W ty tx σ (.ref a) H Q := ⟨a, rfl, hp, h⟩
theorem go_dg2S (hp : H a = some (.dK kvs)) (h : Q ((valV kvs (Sum.inr s)).getD z) H) : Dg2K a (.str s) z H Q := ⟨_, DGet.k (k := Sum.inr s) hp, h⟩
end
end L2.A

namespace L2.A
open PySem PySem.Spec PyProof.Rows
theorem pe_fldK {X : Cx} {K : PySem.W.Frag} {e : Expr} {f : Str} {pos : Pos} {ta : TE} (hK : X.K = K) (he : PE X e ta) (hb : attributeBase e f X.env (eval e X.env) = eval e X.env) : PE X (.Attribute e f pos) (tFld K ta f) := hK ▸ pe_fld he hb
end L2.A

namespace L2.A
open PySem PySem.Spec PyProof.Rows
theorem go_dnewK {σ : St} {H : Hp} {Q : VK} (h : NewO (.dK []) H Q) : tDNewK σ H Q := h
end L2.A


namespace L2.A
open PySem PySem.Spec PyProof.Rows
/-! ### calls that may raise: what is raised is wished for at the caller's slots -/
section
variable {X : Cx} {CX : CXT} {k : Nat} {ps : List Str} {dvs : List V} {sp : Sp} {E : St → XK} {x m : Str} {p apos pos : Pos} {o e : Expr} {es : List Expr} {t : TA} {ta : TE} {C : Addr}
def tMethS (C : Addr) (m : Str) (sp : Sp) (dvs : List V) (E : St → XK) (ta : TE) (t : TA) : TE := fun σ H Q => ta σ H fun x H1 => ∃ a dx fs, x = .ref a ∧ H1 a = some (.ins C dx fs) ∧ fs.lookup m = none ∧
  t σ H1 fun vs H2 => sp (x :: (vs ++ dvs)) H2 Q (E σ)
theorem pe_dS (D : Dn X.prog X.w X.K X.mg X.base CX k x ps dvs sp) (hr : Room k X.A) (hg : Gl X x) (hx : ∀ σ, PassesAt CX X σ (E σ)) (ha : PA X (e :: es) t) (hdb : (x == ("__debug__" : Str)) = false := by decide)
    (he : starEach (e :: es) X.env = (false, eval e X.env) :: starEach es X.env := by rfl) (hpl : (backTo pos (starEach es X.env)).any (·.1) = false := by rfl) : PE X (.Call (.Name x p) (e :: es) [] pos) (tCallSD sp dvs E t) := by
  obtain ⟨f, fd, ds, F, hm, hk, hb, hv⟩ := D.ex
  exact pe_callSD F hr hg hm hk hb hv hx ha hdb he hpl
theorem pe_mthS {pl : Sem Bool} (D : MtD X.prog X.w X.K X.mg X.base CX k C m ps dvs sp) (hr : Room k X.A) (hx : ∀ σ, PassesAt CX X σ (E σ)) (he : PE X o ta) (ha : PA X (e :: es) t)
    (hst : starEach (e :: es) X.env = (false, eval e X.env) :: starEach es X.env := by rfl) (hpl : (backTo pos (starEach es X.env)).any (·.1) = false := by rfl)
    (ht : eval (.Call (.Attribute o m apos) (e :: es) [] pos) X.env = (do
      let ov ← eval o X.env
      standAt apos.atName
      let (f, first) ← holding [ov] (getMethod ov m pl)
      callWith pos f first (backTo pos (starEach (e :: es) X.env)) (backToKw pos (keywordEach [] X.env))) := by rfl) : PE X (.Call (.Attribute o m apos) (e :: es) [] pos) (tMethS C m sp dvs E ta t) := by
  obtain ⟨f, fd, ds, F, hm, c, hb, hd⟩ := D.ex
  refine ⟨fun pins s σ H Q I h => ?_⟩
  refine PySem.W.methodCall_KW (pl := pl) (thn (he.run pins s σ H _ I h) fun u s1 ⟨x, H1, I1, rx, a, dx, fs, ex, ea, l, q⟩ => ?_) ht
  subst ex
  obtain rfl : u = Value.ref a := rx
  refine getmeth_ok I1 ea c hm l ?_
  refine PySem.W.callWith_K (first := [.ref a]) (h₀ := X.base) I.ok.mod.kin hm.kp (thn (ha.run pos pins s1 σ H1 _ I1 q) fun us s2 ⟨vs, H2, I2, r, q2⟩ => ⟨I2.kIn, ?_⟩) hst hpl
  exact run_fnSD (us := .ref a :: us) (vs := .ref a :: vs) F hr hb hd (hx σ) I2 (.cons rfl r) q2
end
section
variable {K : PySem.W.Frag} {σ : St} {H : Hp} {Q : VK} {E : St → XK} {sp : Sp} {dvs : List V} {t : TA} {ta : TE} {C a dx : Addr} {m : Str} {fs : List (Str × V)}
theorem go_callS (h : t σ H fun vs H1 => sp (vs ++ dvs) H1 Q (E σ)) : tCallSD sp dvs E t σ H Q := h
def MethSW (C : Addr) (m : Str) (sp : Sp) (dvs : List V) (E : XK) (t : TA) (σ : St) (x : V) (H1 : Hp) (Q : VK) : Prop := ∃ a dx fs, x = .ref a ∧ H1 a = some (.ins C dx fs) ∧ fs.lookup m = none ∧ t σ H1 fun vs H2 => sp (x :: (vs ++ dvs)) H2 Q E
theorem go_methS (h : ta σ H fun x H1 => MethSW C m sp dvs (E σ) t σ x H1 Q) : tMethS C m sp dvs E ta t σ H Q := h
theorem go_methSW {E : XK} (hp : H a = some (.ins C dx fs)) (l : fs.lookup m = none) (h : t σ H fun vs H2 => sp (.ref a :: (vs ++ dvs)) H2 Q E) : MethSW C m sp dvs E t σ (.ref a) H Q := ⟨a, dx, fs, rfl, hp, l, h⟩
end
/-! ### an own exception class with its own __init__ -/
structure XkD (P : Program) (w : World) (K : PySem.W.Frag) (mg : Str → Option Value) (base : Heap) (k : Nat) (C : Addr) (x : Str) (ps : List Str) (dvs : List V) (sp : Sp) : Prop where
  ex : ∃ (fI : Addr) (fd : FuncData) (ds : List Value), FnOk P w K mg base CX0 k fI fd ps sp ∧ OexC K C ∧ PySem.W.findIn K (.ref C) "__init__" = some (some (.ref fI)) ∧ PySem.W.typeIn K (.ref fI) = some (.type "function") ∧ mg x = some (.ref C) ∧ Binds K fd ps ds ∧ Vals dvs ds
section
variable {X : Cx} {k : Nat} {ps : List Str} {dvs : List V} {sp : Sp} {x : Str} {p pos : Pos} {e : Expr} {es : List Expr} {ta : TA} {C : Addr}
theorem pmk_x (D : XkD X.prog X.w X.K X.mg X.base k C x ps dvs sp) (hr : Room (k + 1) X.A) (hg : Gl X x) (ha : PA X (e :: es) ta) (hdb : (x == ("__debug__" : Str)) = false := by decide)
    (he : starEach (e :: es) X.env = (false, eval e X.env) :: starEach es X.env := by rfl) (hpl : (backTo pos (starEach es X.env)).any (·.1) = false := by rfl) : PMk X (.Call (.Name x p) (e :: es) [] pos) (tMkO C sp dvs ta) := by
  obtain ⟨fI, fd, ds, F, T, iC, tI, hm, hb, hv⟩ := D.ex
  exact pmk_oex T iC tI F hr hb hv pass0 hg hm ha hdb he hpl
end
/-- the __init__ of an exception class: it leaves the fields fs -/
def IniW (C : Addr) (fs : List (Str × V)) (a0 : V) (H : Hp) (Q : VK) : Prop := ∃ a, a0 = .ref a ∧ OexA C a H ∧ ∀ d H', H d = none → Kp (fun x => x = a) H H' → H' a = some (exo a C (some d)) → H' d = some (exd d fs) → Q .non H'
where OexA (C a : Addr) (H : Hp) : Prop := H a = some (exo a C none)
section
variable {K : PySem.W.Frag} {σ : St} {H : Hp} {D : Ends} {Q : VK} {t : TA} {ta te to : TE} {C a dx : Addr} {f : Str} {fs : List (Str × V)} {y : V}
def VeIW (K : PySem.W.Frag) (vs : List V) (H1 : Hp) (Q : VK) : Prop := ∃ (a C : Addr) (ws : List V), vs = .ref a :: ws ∧ ws.length ≤ 1000 ∧ OexC K C ∧ H1 a = some (exo a C none) ∧ Q .non H1
theorem go_veI (h : t σ H fun vs H1 => VeIW K vs H1 Q) : tVeI K t σ H Q := h
theorem go_veIW {ws : List V} (T : OexC K C) (ha : H a = some (exo a C none)) (z : Nat.ble ws.length 1000 = true) (h : Q .non H) : VeIW K (.ref a :: ws) H Q := ⟨a, C, ws, rfl, Nat.le_of_ble_eq_true z, T, ha, h⟩
def OstW (K : PySem.W.Frag) (f : Str) (y : V) (D : Ends) (σ : St) (x : V) (H2 : Hp) : Prop := ∃ a C : Addr, x = .ref a ∧ OexC K C ∧ PySem.W.findIn K (.ref C) f = some none ∧
  ((H2 a = some (exo a C none) ∧ ∀ dx, H2 dx = none → dx ≠ a → D.nx σ (upd (upd H2 dx (exd dx [(f, y)])) a (exo a C (some dx)))) ∨
    ∃ (dx : Addr) (fs : List (Str × V)), H2 a = some (exo a C (some dx)) ∧ H2 dx = some (exd dx fs) ∧ fs.length ≤ 900 ∧ D.nx σ (upd H2 dx (exd dx ((f, y) :: fs))))
theorem go_ost (h : te σ H fun y H1 => to σ H1 fun x H2 => OstW K f y D σ x H2) : tOst K f to te D σ H := h
theorem go_ost1 (T : OexC K C) (n : PySem.W.findIn K (.ref C) f = some none) (ha : H a = some (exo a C none))
    (h : ∀ d H', H d = none → Kp (fun x => x = a) H H' → H' a = some (exo a C (some d)) → H' d = some (exd d [(f, y)]) → D.nx σ H') : OstW K f y D σ (.ref a) H :=
  ⟨a, C, rfl, T, n, .inl ⟨ha, fun d hd ne => h d _ hd (fun b o e n => by rw [upd_ne n, upd_ne (ne_of_none e hd)]; exact e) upd_same (by rw [upd_ne ne]; exact upd_same)⟩⟩
theorem go_ost2 (T : OexC K C) (n : PySem.W.findIn K (.ref C) f = some none) (ha : H a = some (exo a C (some dx))) (hd : H dx = some (exd dx fs)) (z : Nat.ble fs.length 900 = true)
    (h : ∀ H', (∀ b o, H b = some o → b ≠ dx → H' b = some o) → H' a = some (exo a C (some dx)) → H' dx = some (exd dx ((f, y) :: fs)) → D.nx σ H') : OstW K f y D σ (.ref a) H := by
  refine ⟨a, C, rfl, T, n, .inr ⟨dx, fs, ha, hd, Nat.le_of_ble_eq_true z, h _ (fun b o e n => by rw [upd_ne n]; exact e) ?_ upd_same⟩⟩
  by_cases e : a = dx
  · subst e
    rw [ha] at hd
    have z := Option.some.inj hd
    unfold exo exd at z
    have z2 := HO.ext.inj z
    have z3 : (fun h : Heap => ∃ t1 : Addr, h.get? a = some ({ cls := .ref C, dict := some a, data := .fields #[.ref t1, .none, .none, .none, .bool false, .none] } : Obj)) = fun h => ∃ mA, h.Ns1 a mA ∧ ∀ f, RelO (fs.lookup f) (mA f) := z2
    rw [upd_same]
    unfold exo exd
    exfalso
    have hp : ∃ h : Heap, ∃ t1 : Addr, h.get? a = some ({ cls := .ref C, dict := some a, data := .fields #[.ref t1, .none, .none, .none, .bool false, .none] } : Obj) := ⟨⟨Array.replicate (a + 1) { cls := .ref C, dict := some a, data := .fields #[.ref 0, .none, .none, .none, .bool false, .none] }, {}⟩, 0, by simp [Heap.get?]⟩
    obtain ⟨h, t1, e1⟩ := hp
    have q : ∃ mA, h.Ns1 a mA ∧ ∀ f, RelO (fs.lookup f) (mA f) := by
      have q := congrFun z3 h
      exact q ▸ ⟨t1, e1⟩
    obtain ⟨mA, ⟨o, es, ep, e2, e3, _⟩, _⟩ := q
    rw [e1] at e2
    have e4 := Option.some.inj e2
    subst e4
    cases e3
  · rw [upd_ne e]; exact ha
end
def MkOW (C : Addr) (sp : Sp) (dvs vs : List V) (H1 : Hp) (Q : XK) : Prop := vs.length ≤ 1000 ∧ ∀ a, H1 a = none → sp (.ref a :: (vs ++ dvs)) (upd H1 a (exo a C none))
  (fun v H2 => v = .non ∧ ∃ (d : Addr) (fs : List (Str × V)), H2 a = some (exo a C (some d)) ∧ H2 d = some (exd d fs) ∧ H1 d = none ∧ Q (.ref C) (some d) (upd (del H2 a) d (.xd fs))) (fun _ _ _ => False)
theorem go_mkO {C : Addr} {sp : Sp} {dvs : List V} {t : TA} {σ : St} {H : Hp} {Q : XK} (h : t σ H fun vs H1 => MkOW C sp dvs vs H1 Q) : tMkO C sp dvs t σ H Q := h
theorem go_mkOW {C : Addr} {sp : Sp} {dvs vs : List V} {H1 : Hp} {Q : XK} (fs : List (Str × V)) (z : Nat.ble vs.length 1000 = true)
    (hsp : ∀ a H Q, IniW C fs (.ref a) H Q → sp (.ref a :: (vs ++ dvs)) H Q (fun _ _ _ => False))
    (h : ∀ d H', H1 d = none → Same H1 H' → H' d = some (.xd fs) → Q (.ref C) (some d) H') : MkOW C sp dvs vs H1 Q := by
  refine ⟨Nat.le_of_ble_eq_true z, fun a ha => hsp a _ _ ⟨a, rfl, upd_same, fun d H' hd k ea ed => ⟨rfl, d, fs, ea, ed, upd_free hd, ?_⟩⟩⟩
  refine h d _ (upd_free hd) (fun b o e => ?_) upd_same
  have nb : b ≠ a := ne_of_none e ha
  rw [upd_ne (ne_of_none e (upd_free hd)), del_ne nb]
  exact k b o (by rw [upd_ne nb]; exact e) nb
/-! ### isinstance of a caught exception -/
structure ExcD (K : PySem.W.Frag) (D : Addr) : Prop where
  cl : (PySem.W.clsIn K D).isSome = true
  hg : PySem.W.findIn K (.ref D) "__getattribute__" = some (some (.builtin "BaseException.__getattribute__"))
  hk : PySem.W.findIn K (.ref D) "__getattr__" = some none
  hs : PySem.W.subIn K (.ref D) (.type "BaseException") = some true
  ha : PySem.W.findIn K (.ref D) "__class__" = some (some (.builtin "object.__class__"))
  hn : PySem.W.specialIn K (.builtin "object.__class__") "__get__" = some (some (.builtin "getset_descriptor.__get__"))
  ht : PySem.W.takesIn K (.builtin "object.__class__") = some true
  hm : PySem.W.mroIn K D (.type "object") = some true
  hd : PySem.W.hasDictIn K D = true
def excDB (K : PySem.W.Frag) (D : Addr) : Bool := (PySem.W.clsIn K D).isSome && (decide (PySem.W.findIn K (.ref D) "__getattribute__" = some (some (.builtin "BaseException.__getattribute__"))) && (decide (PySem.W.findIn K (.ref D) "__getattr__" = some none) && (decide (PySem.W.subIn K (.ref D) (.type "BaseException") = some true) &&
  (decide (PySem.W.findIn K (.ref D) "__class__" = some (some (.builtin "object.__class__"))) && (decide (PySem.W.specialIn K (.builtin "object.__class__") "__get__" = some (some (.builtin "getset_descriptor.__get__"))) && (decide (PySem.W.takesIn K (.builtin "object.__class__") = some true) && (decide (PySem.W.mroIn K D (.type "object") = some true) && PySem.W.hasDictIn K D)))))))
theorem excDB_ok {K : PySem.W.Frag} {D : Addr} (h : excDB K D = true) : ExcD K D := by
  unfold excDB at h
  simp only [Bool.and_eq_true] at h
  obtain ⟨h0, h1, h2, h3, h4, h5, h6, h7, h8⟩ := h
  exact ⟨h0, of_decide_eq_true h1, of_decide_eq_true h2, of_decide_eq_true h3, of_decide_eq_true h4, of_decide_eq_true h5, of_decide_eq_true h6, of_decide_eq_true h7, h8⟩
theorem ExcD.xf {K : PySem.W.Frag} {D : Addr} (h : ExcD K D) : XfC K D := ⟨h.hg, h.hk, h.hs, h.hd⟩
def rIsEX (K : PySem.W.Frag) (a : Addr) (cls : Value) (d : Option Addr) : List V → Hp → VK → Prop := fun xs H Q => ∃ (D dd : Addr) (fs : List (Str × V)), cls = .ref D ∧ d = some dd ∧ ExcD K D ∧ H dd = some (.xd fs) ∧
  ((∃ (c : V) (u : Value) (b : Bool), xs = [.ref a, c] ∧ ClsV c u ∧ PySem.W.kitOne K cls u = some b ∧ Q (.bl b) H) ∨
    ∃ (tp : Addr) (cs : List V) (us : List Value) (b : Bool), xs = [.ref a, .ref tp] ∧ H tp = some (.tup cs) ∧ Paired ClsV cs us ∧ PySem.W.kitAny K cls us = some b ∧ Q (.bl b) H)
theorem call_isEX {X : Cx} {a : Addr} {cls : Value} {d : Option Addr} {oe : Obj} {pn : List (Addr × Obj)} (hz : Zc cls d oe) (hf : ∃ vs, oe.data = .fields vs) : CallR (X.suite a ((a, oe) :: pn)) (.builtin "isinstance") (rIsEX X.K a cls d) := by
  intro pins s σ H xs us Q I r h
  obtain ⟨D, dd, fs, rfl, rfl, C, ed, h⟩ := h
  obtain ⟨hget, _⟩ := I.pin (a, oe) (List.mem_append.mpr (.inl List.mem_cons_self))
  obtain ⟨vs, hv⟩ := hf
  have hx : ObjOk X.prog X.w H s.heap dd (.xd fs) := I.hok dd _ ed
  obtain ⟨mA, hns, hr⟩ := hx
  obtain ⟨od, ho, hl⟩ := lookIn_ns hns
  have J : PySem.W.InstAt s.heap a oe D (some od) := ⟨hget, hz.1, by unfold PySem.W.notCls; rw [hv] <;> rfl, by rw [hz.2]; exact ho⟩
  have Z := PySem.W.kitx_exc (K := X.K) (x := a) (C := D) (ox := oe) (od := some od) C.cl C.hg C.hk C.hs C.ha C.hn C.ht C.hm
  rcases h with ⟨c, u, b, rfl, k, e, q⟩ | ⟨tp, cs, ws, b, rfl, hT, k, e, q⟩
  · obtain ⟨u1, u2, rfl, r1, r2⟩ := vals2 r
    cases (show u1 = Value.ref a from r1)
    have e2 := k.eq r2
    subst e2
    exact PySem.W.kia_one Z I.kIn J e (fun z => nomatch z) fun tk => ⟨.bl b, H, I.tok tk, rfl, q⟩
  · obtain ⟨u1, u2, rfl, r1, r2⟩ := vals2 r
    cases (show u1 = Value.ref a from r1)
    cases (show u2 = Value.ref tp from r2)
    obtain ⟨_, its, rv, o, h1, h2, n, h3⟩ := (show ObjOk X.prog X.w H s.heap tp (.tup cs) from I.hok tp _ hT)
    have e3 := ClsV.all k rv
    subst e3
    obtain ⟨oc, od2, dt, sl⟩ := o
    simp only at h2 h3
    subst h2 h3
    exact PySem.W.kia_tup Z I.kIn J h1 e (fun z => nomatch z) fun tk => ⟨.bl b, H, I.tok tk, rfl, q⟩
theorem call_isEK {X : Cx} {K : PySem.W.Frag} {a : Addr} {cls : Value} {d : Option Addr} {oe : Obj} {pn : List (Addr × Obj)} (hK : X.K = K) (hz : Zc cls d oe) (hf : ∃ vs, oe.data = .fields vs) : CallR (X.suite a ((a, oe) :: pn)) (.builtin "isinstance") (rIsEX K a cls d) := hK ▸ call_isEX hz hf
section
variable {K : PySem.W.Frag} {a D dd tp : Addr} {fs : List (Str × V)} {H : Hp} {Q : VK} {c : V} {cs : List V} {u : Value} {us : List Value} {b : Bool}
theorem go_isE1 (C : ExcD K D) (ed : H dd = some (.xd fs)) (k : ClsV c u) (e : PySem.W.kitOne K (.ref D) u = some b) (h : Q (.bl b) H) : rIsEX K a (.ref D) (some dd) [.ref a, c] H Q := ⟨D, dd, fs, rfl, rfl, C, ed, .inl ⟨c, u, b, rfl, k, e, h⟩⟩
theorem go_isET (C : ExcD K D) (ed : H dd = some (.xd fs)) (hT : H tp = some (.tup cs)) (k : Paired ClsV cs us) (e : PySem.W.kitAny K (.ref D) us = some b) (h : Q (.bl b) H) : rIsEX K a (.ref D) (some dd) [.ref a, .ref tp] H Q := ⟨D, dd, fs, rfl, rfl, C, ed, .inr ⟨tp, cs, us, b, rfl, hT, k, e, h⟩⟩
/-! ### err.f -/
def XfW (a : Addr) (cls : Value) (d : Option Addr) (C : Addr) (f : Str) (x : V) (H1 : Hp) (Q : VK) : Prop := x = .ref a ∧ cls = .ref C ∧ ∃ (dd : Addr) (fs : List (Str × V)) (v : V), d = some dd ∧ H1 dd = some (.xd fs) ∧ fs.lookup f = some v ∧ Q v H1
theorem go_xf {cls : Value} {d : Option Addr} {C : Addr} {f : Str} {te : TE} {σ : St} (h : te σ H fun x H1 => XfW a cls d C f x H1 Q) : tXf a cls d C f te σ H Q := h
theorem go_xfW {f : Str} {v : V} (ed : H dd = some (.xd fs)) (l : fs.lookup f = some v) (h : Q v H) : XfW a (.ref D) (some dd) D f (.ref a) H Q := ⟨rfl, rfl, dd, fs, v, rfl, ed, l, h⟩
/-! ### try -/
def CatchW (K : PySem.W.Frag) (c : Value) (ts : Addr → Value → Option Addr → St → Hp → Prop) (out : Value → Option Addr → St → Hp → Prop) : WX := fun cls d σ H => ∃ b, PySem.W.exmOne K cls c = some b ∧ (b = true → ∀ a, H a = none → ts a cls d σ H) ∧ (b = false → out cls d σ H)
theorem go_caught {cls c : Value} {d : Option Addr} {i : Nat} {ts : Addr → Value → Option Addr → TS} {Wout : WX} {Dd : Ends} {σ : St} (e : PySem.W.exmOne K cls c = some true)
    (h : ∀ a, H a = none → ts a cls d { nx := fun σ' H' => Dd.nx (σ'.set i none) H', rt := Dd.rt, bk := fun σ' H' => Dd.bk (σ'.set i none) H', ct := fun σ' H' => Dd.ct (σ'.set i none) H' } (σ.set i (some (.ref a))) H) : WE (wAs K c i ts Wout Dd) σ cls d H :=
  ⟨true, e, fun _ => h, fun z => by cases z⟩
theorem go_caught1 {cls c : Value} {d : Option Addr} {ts : Addr → Value → Option Addr → TS} {Wout : WX} {Dd : Ends} {σ : St} (e : PySem.W.exmOne K cls c = some true) (h : ∀ a, H a = none → ts a cls d Dd σ H) : WE (wOnly K c ts Wout Dd) σ cls d H :=
  ⟨true, e, fun _ => h, fun z => by cases z⟩
theorem go_passed {cls c : Value} {d : Option Addr} {i : Nat} {ts : Addr → Value → Option Addr → TS} {Wout : WX} {Dd : Ends} {σ : St} (e : PySem.W.exmOne K cls c = some false) (h : Wout cls d σ H) : WE (wAs K c i ts Wout Dd) σ cls d H :=
  ⟨false, e, (fun z => by cases z), fun _ => h⟩
end
end L2.A

namespace L2.A
open PySem PySem.Spec PyProof.Rows
/-! ### err.f of whatever class -/
def tXfG (K : PySem.W.Frag) (a : Addr) (cls : Value) (d : Option Addr) (f : Str) (te : TE) : TE := fun σ H Q => te σ H fun x H1 => x = .ref a ∧ ∃ (C dd : Addr) (fs : List (Str × V)) (v : V), cls = .ref C ∧ XfC K C ∧ PySem.W.findIn K (.ref C) f = some none ∧ d = some dd ∧ H1 dd = some (.xd fs) ∧ fs.lookup f = some v ∧ Q v H1
theorem pe_xfG {X : Cx} {K : PySem.W.Frag} {a : Addr} {oe : Obj} {cls : Value} {d : Option Addr} {pn : List (Addr × Obj)} {e : Expr} {te : TE} {pos : Pos} {n : Str} (hK : X.K = K)
    (hz : Zc cls d oe) (hf : ∃ vs, oe.data = .fields vs) (he : PE (X.suite a ((a, oe) :: pn)) e te) (hb : attributeBase e n X.env (eval e X.env) = eval e X.env := by rfl) :
    PE (X.suite a ((a, oe) :: pn)) (.Attribute e n pos) (tXfG K a cls d n te) := by
  subst hK
  refine ⟨fun pins s σ H Q I h => ?_⟩
  refine attr_of hb (thn (he.run pins s σ H _ I h) fun u s1 hh => ?_)
  obtain ⟨x, H1, I1, rx, ex, C, dd, fs, v, ec, T, hno, ed, ea, l, q⟩ := hh
  subst ex
  obtain rfl : u = Value.ref a := rx
  subst ec
  subst ed
  obtain ⟨ha, _⟩ := I1.pin (a, oe) (List.mem_append_left _ List.mem_cons_self)
  obtain ⟨vs, hd⟩ := hf
  have hx : ObjOk X.prog X.w H1 s1.heap dd (.xd fs) := I1.hok dd _ ea
  obtain ⟨mA, hns, hr⟩ := hx
  obtain ⟨od, ho, hl⟩ := lookIn_ns hns
  obtain ⟨u, hu, ru⟩ := RelO.some_of (v := v) (o := mA n) (by rw [← l]; exact hr n)
  have J : PySem.W.InstAt s1.heap a oe C (some od) := ⟨ha, hz.1, by unfold PySem.W.notCls; rw [hd] <;> rfl, by rw [hz.2]; exact ho⟩
  exact HandSPX.exc_get I1.kIn J T.ga T.gg T.exC (PySem.W.findObj_own T.hdC hno rfl (by rw [hl, hu])) (handed_of ru) ⟨v, H1, I1.tok _, ru, q⟩
section
variable {K : PySem.W.Frag} {a D dd : Addr} {fs : List (Str × V)} {H : Hp} {Q : VK}
def XfGW (K : PySem.W.Frag) (a : Addr) (cls : Value) (d : Option Addr) (f : Str) (x : V) (H1 : Hp) (Q : VK) : Prop := x = .ref a ∧ ∃ (C dd : Addr) (fs : List (Str × V)) (v : V), cls = .ref C ∧ XfC K C ∧ PySem.W.findIn K (.ref C) f = some none ∧ d = some dd ∧ H1 dd = some (.xd fs) ∧ fs.lookup f = some v ∧ Q v H1
theorem go_xfG {cls : Value} {d : Option Addr} {f : Str} {te : TE} {σ : St} (h : te σ H fun x H1 => XfGW K a cls d f x H1 Q) : tXfG K a cls d f te σ H Q := h
theorem go_xfGW {f : Str} {v : V} (T : XfC K D) (n : PySem.W.findIn K (.ref D) f = some none) (ed : H dd = some (.xd fs)) (l : fs.lookup f = some v) (h : Q v H) : XfGW K a (.ref D) (some dd) f (.ref a) H Q := ⟨rfl, D, dd, fs, v, rfl, T, n, rfl, ed, l, h⟩
end
end L2.A

namespace L2.A
open PySem PySem.Spec PyProof.Rows
/-! ### a caught or made exception as an object that is tracked -/
def exq (a : Addr) (cls : Value) (d : Option Addr) : HO := .ext fun h => ∃ oe vs, h.get? a = some oe ∧ Zc cls d oe ∧ oe.data = .fields vs
theorem exq_ok {P : Program} {w : World} {H : Hp} {h : Heap} {a : Addr} {cls : Value} {d : Option Addr} {oe : Obj} {vs : Array Value} (he : h.get? a = some oe) (hz : Zc cls d oe) (hd : oe.data = .fields vs) : ObjOk P w H h a (exq a cls d) :=
  ⟨⟨oe, vs, he, hz, hd⟩, ⟨oe, he⟩, fun h1 h2 z k => by
    obtain ⟨oe, vs, e, z, q⟩ := z
    exact ⟨oe, vs, k _ e, z, q⟩⟩
theorem exq_at {P : Program} {w : World} {H : Hp} {h : Heap} {a : Addr} {cls : Value} {d : Option Addr} (hok : HOk P w H h) (he : H a = some (exq a cls d)) : ∃ oe vs, h.get? a = some oe ∧ Zc cls d oe ∧ oe.data = .fields vs := by
  have x : ObjOk P w H h a (.ext fun h => ∃ oe vs, h.get? a = some oe ∧ Zc cls d oe ∧ oe.data = .fields vs) := hok a _ he
  exact x.1
section
variable {X : Cx} {pins : List (Addr × Obj)} {σ : St} {H : Hp} {sI s s' : Shared} {B : Heap} {a : Addr} {cls : Value} {d : Option Addr} {oe : Obj} {vs : Array Value}
theorem Inv.landedX (I : Inv X pins σ H sI) (nb : ∀ b o, sI.heap.get? b = some o → b ∉ frs X.stack → B.get? b = some o) (st : B.StaysIn s'.heap) (up : sI.heap.UpToSlots s'.heap) (os : s'.os = sI.os) (ag : AllBare s'.gens)
    (hB : B.get? a = none) (nfr : a ∉ frs X.stack) (he : s'.heap.get? a = some oe) (hz : Zc cls d oe) (hd : oe.data = .fields vs) (na : H a = none) : Inv X pins σ (upd H a (exq a cls d)) s' := by
  have nf : ∀ b ∈ frs X.stack, ∀ o, sI.heap.get? b = some o → ∃ sl, s'.heap.get? b = some { o with slots := sl } := fun b hb o e => by
    obtain ⟨_, o', e', hd⟩ := I.stack.mem hb
    rw [e] at e'; cases e'
    exact up b o e hd
  have ne : ∀ b o, sI.heap.get? b = some o → b ≠ a := fun b o e z => by
    subst z
    have q := nb b o e nfr
    rw [hB] at q; cases q
  have hok0 : HOk X.prog X.w H s'.heap := (I.inGround nb).kept st
  have hok : HOk X.prog X.w (upd H a (exq a cls d)) s'.heap := fun b o q => by
    by_cases hb : b = a
    · subst hb
      rw [upd_same] at q
      cases q
      exact exq_ok he hz hd
    · rw [upd_ne hb] at q
      exact (hok0 b o q).stay (fun c u _ r => r) (fun c r => by rw [upd_ne (ne_of_none r na)]; exact r) fun c xs r => by rw [upd_ne (ne_of_none r na)]; exact r
  have J := I.call (ch := []) (h' := s'.heap) (g' := s'.gens) (t' := s'.toks) (d' := s'.drawn) (H' := upd H a (exq a cls d))
    ⟨fun b o e _ hb _ => st b o (nb b o e hb), fun b o e _ hb _ => nf b hb o e, fun b o e n _ => by rw [upd_ne (ne b o e)]; exact n, fun b o e _ => by
      by_cases hb : b ∈ frs X.stack
      · obtain ⟨sl, q⟩ := nf b hb o e
        exact ⟨_, q⟩
      · exact ⟨o, st b o (nb b o e hb)⟩, fun b xs e => by rw [upd_ne (ne_of_none e na)]; exact e, fun b _ _ e => by rw [upd_ne (ne_of_none e na)]; exact e, fun b ps e => ⟨#[], by rw [upd_ne (ne_of_none e na), e]; simp⟩⟩
    hok ag (fun _ z => nomatch z)
  obtain ⟨a1, a2, a3, a4, a5⟩ := s'
  have e5 : a5 = sI.os := os
  subst e5
  exact J
theorem Inv.suiteX (I : Inv X pins σ H s) (a : Addr) : Inv (X.suite a (X.pn ++ pins)) [] σ H s :=
  ⟨I.ok.suite _ _, I.os, I.bare, I.base, I.loc, I.cell, I.free, I.freeC, fun p hp => I.pin p (by rw [List.append_nil] at hp; exact hp), I.hok, I.len⟩
theorem Inv.unsuiteX {a : Addr} {pn' : List (Addr × Obj)} (I : Inv (X.suite a (X.pn ++ pins)) pn' σ H s) (ok : X.Ok) : Inv X pins σ H s :=
  ⟨ok, I.os, I.bare, I.base, I.loc, I.cell, I.free, I.freeC, fun p hp => I.pin p (List.mem_append_left _ hp), I.hok, I.len⟩
end
/-- what the clause wishes: n's slot holds the exception, which is tracked from then on -/
def wAsX (K : PySem.W.Frag) (c : Value) (i : Nat) (ts : Addr → Value → Option Addr → TS) (Wout : WX) (D : Ends) : WX := fun cls d σ H =>
  ∃ b, PySem.W.exmOne K cls c = some b ∧ (b = true → ∀ a, H a = none → ts a cls d { nx := fun σ' H' => D.nx (σ'.set i none) H', rt := D.rt, bk := fun σ' H' => D.bk (σ'.set i none) H', ct := fun σ' H' => D.ct (σ'.set i none) H' } (σ.set i (some (.ref a))) (upd H a (exq a cls d))) ∧
    (b = false → Wout cls d σ H)
section
variable {X : Cx} {x n : Str} {c : Value} {i : Nat} {body suite : List Stmt} {b₀ : Stmt} {np pos pos' : Pos} {tb : WX → TS} {ts : Addr → Value → Option Addr → TS} {Wout : WX}
theorem ps_try_asX (hs : X.stack = X.env :: X.outer) (hf : X.env.frame = some X.env.locals) (hN : X.N.Nodup) (hi : X.N[i]? = some n) (hln : X.env.kindOf n = some .local) (hc : Names X x c) (tk : Takes X Wout)
    (hb : ∀ (W : WX) (pn : List (Addr × Obj)) (xe : Value → Shared → Prop), Takes (X.tr pn xe) W → PassesOwn (model X.prog X.w) X.A X.env xe → PSs (X.tr pn xe) body (tb W))
    (hsu : ∀ (a : Addr) (cls : Value) (d : Option Addr) (pn : List (Addr × Obj)), PSs (X.suite a pn) (b₀ :: suite) (ts a cls d)) :
    PS X (.Try body [.ExceptHandler (some (.Name x np)) (some n) (b₀ :: suite) pos'] [] [] pos) (fun D σ H => tb (wAsX X.K c i ts Wout D) D σ H) := by
  refine ⟨fun pins s σ H D I h => ?_⟩
  have ok := I.ok
  have hfr : X.A.frames = some (X.env :: X.outer) := by rw [ok.frames, hs]
  have hloc : Loc X.env.scope n := .inl hln
  refine wpAny_Try_except ?_
  refine wpAny_mono ((hb (wAsX X.K c i ts Wout D) (X.pn ++ pins) (fun e s₁ => wpAny (model X.prog X.w) X.A (noteFrame e X.env) (fun _ s₂ => wpAny (model X.prog X.w) X.A (setFlight e none) (fun _ s₃ =>
    wpAny (model X.prog X.w) X.A (handleBy e X.env [.ExceptHandler (some (.Name x np)) (some n) (b₀ :: suite) pos']) (SP X pins D) X.xe s₃) X.xe s₂) X.xe s₁) (fun u s' xx => ?_) PassesOwn.looking).run [] s σ H D (I.toTry _) h) (fun f s1 hsp => ?_) (fun e s1 he => he)
  · -- the catch
    obtain ⟨a, B, sI, pins', σ', H', cls, d, rfl, J', nb, up, sky, na, os, ag, b, hb1, hyes, hno⟩ := xx
    have J : Inv X pins σ' H' sI := J'.ofTry ok
    have sky' : Sky B (X.env :: X.outer) a (Zc cls d) X.env.locals s'.heap := by rw [← hs]; exact sky
    show wpAny (model X.prog X.w) X.A (noteFrame (.ref a) X.env) _ _ _
    refine Sky.land Zc.steady hfr hf sky' fun h3 fl3 up3 => ?_
    have J3 : Inv X pins σ' H' { s' with heap := h3 } := J.landed nb fl3.1 (up.trans up3) os ag
    obtain ⟨oe3, vs3, he3, hz3, hd3⟩ := fl3.there
    have notFr : ∀ {h : Heap} {o : Obj} {vs : Array Value}, h.FunFrames B (X.env :: X.outer) → h.get? a = some o → o.data = .fields vs → a ∉ frs (X.env :: X.outer) := fun {h o vs} ff e dd hm => by
      obtain ⟨_, o', e', hnf⟩ := ff.mem hm
      rw [e] at e'; cases e'
      exact hnf _ dd
    have nfr := notFr fl3.2.2.1 he3 hd3
    have nfr' : a ∉ frs X.stack := by rw [hs]; exact nfr
    have nL : a ≠ X.env.locals := fun z => nfr (List.mem_filterMap.mpr ⟨X.env, List.mem_cons_self, by rw [hf, z]⟩)
    have nF : a ∉ X.fs := fun hm => by
      obtain ⟨e, he, q⟩ := List.mem_filterMap.mp hm
      exact nfr (List.mem_filterMap.mpr ⟨e, List.mem_cons_of_mem _ he, q⟩)
    have S3 := J3.suite he3 hd3 na nL nF
    refine wpAny_handleBy_cons (codeAny_handlers_test ?_) (by intro q; cases q)
    have LT : PySem.W.Looks (model X.prog X.w) h3 (typeOf (.ref a)) cls := fun A Q E s k q => wpAny_typeOf_ref (k _ _ he3) (by rw [hz3.1]; exact q)
    have LM := PySem.W.exm_one (M := model X.prog X.w) (J3.kIn) LT hb1
    have test : ∀ {Q : Value → Shared → Prop} {E : Value → Shared → Prop}, Q c { s' with heap := h3 } → wpAny (model X.prog X.w) (X.A.mark (some (.ref a))) (eval (.Name x np) X.env) Q E { s' with heap := h3 } := fun {Q E} q => by
      obtain ⟨hg, hdbg, hm | ⟨hm, hv, hnn⟩⟩ := hc
      · exact ld_glob (X := X.suite a ((a, oe3) :: (X.pn ++ pins))) S3 hg hm q hdbg
      · exact ld_blt (X := X.suite a ((a, oe3) :: (X.pn ++ pins))) S3 hg hm hv q hnn hdbg
    refine test (LM.here ?_)
    cases b with
    | true =>
      refine codeAny_handlers_suite_as ?_
      refine HandSPX.lands_againZ fl3 fun h4 fl4 up4 => ?_
      obtain ⟨oe4, vs4, he4, hz4, hd4⟩ := fl4.there
      have J4 : Inv X pins σ' (upd H' a (exq a cls d)) { s' with heap := h4 } := Inv.landedX J nb fl4.1 ((up.trans up3).trans up4) os ag fl4.2.1 nfr' he4 hz4 hd4 na
      have S4 := Inv.suiteX J4 a
      refine store_ok (X := X.suite a (X.pn ++ pins)) (v := .ref a) S4 hN hi hloc rfl (fun s5 S5 => ?_) (.inr hln)
      refine wpAny_mono ((hsu a cls d (X.pn ++ pins)).run [] s5 _ _ _ S5 (hyes rfl a na)) (fun f s6 hsp => ?_) (fun _ _ z => False.elim z)
      have end_ : ∀ {σ6 : St} {H6 : Hp} {Q : Shared → Prop}, Inv (X.suite a (X.pn ++ pins)) [] σ6 H6 s6 → (∀ s7, Inv X pins (σ6.set i none) H6 s7 → Q s7) →
          wpAny (model X.prog X.w) X.A (do bindName X.env n .none; unbindBehindTheSuite X.env n pos') (fun _ s7 => Q s7) X.xe s6 := fun {σ6 H6 Q} S6 hq => gone_ok (Inv.unsuiteX S6 ok) hN hi hln hq
      cases f with
      | next =>
        obtain ⟨σ6, H6, S6, q6⟩ := hsp
        exact end_ S6 fun s7 J7 => ⟨_, _, J7, q6⟩
      | brk =>
        obtain ⟨σ6, H6, S6, q6⟩ := hsp
        exact end_ S6 fun s7 J7 => ⟨_, _, J7, q6⟩
      | cont =>
        obtain ⟨σ6, H6, S6, q6⟩ := hsp
        exact end_ S6 fun s7 J7 => ⟨_, _, J7, q6⟩
      | ret u =>
        obtain ⟨v6, σ6, H6, S6, r6, q6⟩ := hsp
        exact end_ S6 fun s7 J7 => ⟨_, _, _, J7, r6, q6⟩
    | false =>
      show wpAny _ X.A (handleBy (.ref a) X.env []) _ _ _
      refine wpAny_handleBy_nil ?_
      obtain ⟨k1, k2, k3, oe, vs, T, oT, ts', he, hz, hd, h1, hr⟩ := id fl3
      unfold PySem.passOn
      refine wpAny_bind (wpAny_field he hd h1 ?_)
      rw [if_neg (show ¬ ((Value.ref T == Value.none) = true) from by simp)]
      have fin : wpAny (model X.prog X.w) X.A (setFlight (.ref a) X.env.frame) (fun _ s4 => wpAny (model X.prog X.w) X.A (throw (.ref a) : Sem Flow) (SP X pins D) X.xe s4) X.xe { s' with heap := h3 } := by
        rw [hf]
        refine HandSPX.setFlight_upZ fl3 fun h4 hh4 up4 => wpAny_throw (tk _ _ ?_)
        exact ⟨a, B, sI, pins, σ', H', cls, d, rfl, J, nb, (up.trans up3).trans up4, .inr (.inr (by rw [hs]; exact hh4)), na, os, ag, hno rfl⟩
      first
        | exact wpAny_bind (wpAny_pure (wpAny_bind fin))
        | exact wpAny_bind fin
  · cases f with
    | next =>
      obtain ⟨σ', H', J', q⟩ := hsp
      exact wpAny_execs_nil ⟨σ', H', J'.ofTry ok, q⟩
    | brk =>
      obtain ⟨σ', H', J', q⟩ := hsp
      exact ⟨σ', H', J'.ofTry ok, q⟩
    | cont =>
      obtain ⟨σ', H', J', q⟩ := hsp
      exact ⟨σ', H', J'.ofTry ok, q⟩
    | ret u =>
      obtain ⟨v, σ', H', J', r, q⟩ := hsp
      exact ⟨v, σ', H', J'.ofTry ok, r, q⟩
end
/-! ### isinstance of such, its fields -/
def rIsQ (K : PySem.W.Frag) : List V → Hp → VK → Prop := fun xs H Q => ∃ (a D dd : Addr) (fs : List (Str × V)), H a = some (exq a (.ref D) (some dd)) ∧ ExcD K D ∧ H dd = some (.xd fs) ∧
  ((∃ (c : V) (u : Value) (b : Bool), xs = [.ref a, c] ∧ ClsV c u ∧ PySem.W.kitOne K (.ref D) u = some b ∧ Q (.bl b) H) ∨
    ∃ (tp : Addr) (cs : List V) (us : List Value) (b : Bool), xs = [.ref a, .ref tp] ∧ H tp = some (.tup cs) ∧ Paired ClsV cs us ∧ PySem.W.kitAny K (.ref D) us = some b ∧ Q (.bl b) H)
theorem call_isQ {X : Cx} : CallR X (.builtin "isinstance") (rIsQ X.K) := by
  intro pins s σ H xs us Q I r h
  obtain ⟨a, D, dd, fs, ea, C, ed, h⟩ := h
  obtain ⟨oe, vs, hget, hz, hv⟩ := exq_at I.hok ea
  have hx : ObjOk X.prog X.w H s.heap dd (.xd fs) := I.hok dd _ ed
  obtain ⟨mA, hns, hr⟩ := hx
  obtain ⟨od, ho, hl⟩ := lookIn_ns hns
  have J : PySem.W.InstAt s.heap a oe D (some od) := ⟨hget, hz.1, by unfold PySem.W.notCls; rw [hv] <;> rfl, by rw [hz.2]; exact ho⟩
  have Z := PySem.W.kitx_exc (K := X.K) (x := a) (C := D) (ox := oe) (od := some od) C.cl C.hg C.hk C.hs C.ha C.hn C.ht C.hm
  rcases h with ⟨c, u, b, rfl, k, e, q⟩ | ⟨tp, cs, ws, b, rfl, hT, k, e, q⟩
  · obtain ⟨u1, u2, rfl, r1, r2⟩ := vals2 r
    cases (show u1 = Value.ref a from r1)
    have e2 := k.eq r2
    subst e2
    exact PySem.W.kia_one Z I.kIn J e (fun z => nomatch z) fun tk => ⟨.bl b, H, I.tok tk, rfl, q⟩
  · obtain ⟨u1, u2, rfl, r1, r2⟩ := vals2 r
    cases (show u1 = Value.ref a from r1)
    cases (show u2 = Value.ref tp from r2)
    obtain ⟨_, its, rv, o, h1, h2, n, h3⟩ := (show ObjOk X.prog X.w H s.heap tp (.tup cs) from I.hok tp _ hT)
    have e3 := ClsV.all k rv
    subst e3
    obtain ⟨oc, od2, dt, sl⟩ := o
    simp only at h2 h3
    subst h2 h3
    exact PySem.W.kia_tup Z I.kIn J h1 e (fun z => nomatch z) fun tk => ⟨.bl b, H, I.tok tk, rfl, q⟩
def rIsiY (K : PySem.W.Frag) : List V → Hp → VK → Prop := fun xs H Q => rIsiX K xs H Q ∨ rIsQ K xs H Q
theorem call_isiY {X : Cx} : CallR X (.builtin "isinstance") (rIsiY X.K) := call_isiX.or call_isQ
theorem call_isiYK {X : Cx} {K : PySem.W.Frag} (hK : X.K = K) : CallR X (.builtin "isinstance") (rIsiY K) := hK ▸ call_isiY
section
variable {K : PySem.W.Frag} {a D dd tp : Addr} {fs : List (Str × V)} {H : Hp} {Q : VK} {c x : V} {cs : List V} {u : Value} {us : List Value} {b : Bool}
theorem go_isY {xs : List V} (h : rIsiX K xs H Q) : rIsiY K xs H Q := .inl h
theorem go_isQ (ea : H a = some (exq a (.ref D) (some dd))) (C : ExcD K D) (ed : H dd = some (.xd fs)) (k : ClsV c u) (e : PySem.W.kitOne K (.ref D) u = some b) (h : Q (.bl b) H) : rIsiY K [.ref a, c] H Q := .inr ⟨a, D, dd, fs, ea, C, ed, .inl ⟨c, u, b, rfl, k, e, h⟩⟩
theorem go_isQT (ea : H a = some (exq a (.ref D) (some dd))) (C : ExcD K D) (ed : H dd = some (.xd fs)) (hT : H tp = some (.tup cs)) (k : Paired ClsV cs us) (e : PySem.W.kitAny K (.ref D) us = some b) (h : Q (.bl b) H) : rIsiY K [.ref a, .ref tp] H Q := .inr ⟨a, D, dd, fs, ea, C, ed, .inr ⟨tp, cs, us, b, rfl, hT, k, e, h⟩⟩
def tXq (K : PySem.W.Frag) (f : Str) (te : TE) : TE := fun σ H Q => te σ H fun x H1 => ∃ (a C dd : Addr) (fs : List (Str × V)) (v : V), x = .ref a ∧ H1 a = some (exq a (.ref C) (some dd)) ∧ XfC K C ∧ PySem.W.findIn K (.ref C) f = some none ∧ H1 dd = some (.xd fs) ∧ fs.lookup f = some v ∧ Q v H1
theorem pe_xq {X : Cx} {e : Expr} {te : TE} {pos : Pos} {n : Str} (hK : X.K = K) (he : PE X e te) (hb : attributeBase e n X.env (eval e X.env) = eval e X.env := by rfl) : PE X (.Attribute e n pos) (tXq K n te) := by
  subst hK
  refine ⟨fun pins s σ H Q I h => ?_⟩
  refine attr_of hb (thn (he.run pins s σ H _ I h) fun u s1 hh => ?_)
  obtain ⟨x, H1, I1, rx, a, C, dd, fs, v, ex, ea, T, hno, ed, l, q⟩ := hh
  subst ex
  obtain rfl : u = Value.ref a := rx
  obtain ⟨oe, vs, ha, hz, hd⟩ := exq_at I1.hok ea
  have hx : ObjOk X.prog X.w H1 s1.heap dd (.xd fs) := I1.hok dd _ ed
  obtain ⟨mA, hns, hr⟩ := hx
  obtain ⟨od, ho, hl⟩ := lookIn_ns hns
  obtain ⟨u, hu, ru⟩ := RelO.some_of (v := v) (o := mA n) (by rw [← l]; exact hr n)
  have J : PySem.W.InstAt s1.heap a oe C (some od) := ⟨ha, hz.1, by unfold PySem.W.notCls; rw [hd] <;> rfl, by rw [hz.2]; exact ho⟩
  exact HandSPX.exc_get I1.kIn J T.ga T.gg T.exC (PySem.W.findObj_own T.hdC hno rfl (by rw [hl, hu])) (handed_of ru) ⟨v, H1, I1.tok _, ru, q⟩
def XqW (K : PySem.W.Frag) (f : Str) (x : V) (H1 : Hp) (Q : VK) : Prop := ∃ (a C dd : Addr) (fs : List (Str × V)) (v : V), x = .ref a ∧ H1 a = some (exq a (.ref C) (some dd)) ∧ XfC K C ∧ PySem.W.findIn K (.ref C) f = some none ∧ H1 dd = some (.xd fs) ∧ fs.lookup f = some v ∧ Q v H1
theorem go_xq {f : Str} {te : TE} {σ : St} (h : te σ H fun x H1 => XqW K f x H1 Q) : tXq K f te σ H Q := h
theorem go_xqW {f : Str} {v : V} (ea : H a = some (exq a (.ref D) (some dd))) (T : XfC K D) (n : PySem.W.findIn K (.ref D) f = some none) (ed : H dd = some (.xd fs)) (l : fs.lookup f = some v) (h : Q v H) : XqW K f (.ref a) H Q := ⟨a, D, dd, fs, v, rfl, ea, T, n, ed, l, h⟩
theorem go_caughtX {cls c : Value} {d : Option Addr} {i : Nat} {ts : Addr → Value → Option Addr → TS} {Wout : WX} {Dd : Ends} {σ : St} (e : PySem.W.exmOne K cls c = some true)
    (h : ∀ a, H a = none → ts a cls d { nx := fun σ' H' => Dd.nx (σ'.set i none) H', rt := Dd.rt, bk := fun σ' H' => Dd.bk (σ'.set i none) H', ct := fun σ' H' => Dd.ct (σ'.set i none) H' } (σ.set i (some (.ref a))) (upd H a (exq a cls d))) : WE (wAsX K c i ts Wout Dd) σ cls d H :=
  ⟨true, e, fun _ => h, fun z => by cases z⟩
end
/-- an exception made as a value -/
def tExV (t : St → Hp → XK → Prop) : TE := fun σ H Q => t σ H fun cls d H' => ∀ a, H' a = none → Q (.ref a) (upd H' a (exq a cls d))
theorem pe_exv {X : Cx} {e : Expr} {t : St → Hp → XK → Prop} (he : PMk X e t) : PE X e (tExV t) := by
  refine ⟨fun pins s σ H Q I h => ?_⟩
  refine thn (he pins s σ H _ I h) fun u s1 hu => ?_
  obtain ⟨a, oe, vs, sI, H', cls, d, rfl, J, k, hne, ha, hz, hd, h1, na, os, ag, r, q⟩ := hu
  refine ⟨.ref a, _, Inv.landedX (B := sI.heap) J (fun b o e _ => e) k (Heap.UpToSlots.of_keeps k) os ag hne (fun hm => ?_) ha hz hd na, rfl, q a na⟩
  obtain ⟨_, o', e', _⟩ := J.stack.mem hm
  rw [hne] at e'; cases e'
def ExNew (cls : Value) (d : Option Addr) (H' : Hp) (Q : VK) : Prop := ∀ a, H' a = none → Q (.ref a) (upd H' a (exq a cls d))
theorem go_exv {t : St → Hp → XK → Prop} {σ : St} {H : Hp} {Q : VK} (h : t σ H fun cls d H' => ExNew cls d H' Q) : tExV t σ H Q := h
/-- the new exception and its dict, the heap abstract -/
theorem go_exNew {cls : Value} {d : Option Addr} {H : Hp} {Q : VK} (h : ∀ a H', H a = none → Same H H' → H' a = some (exq a cls d) → Q (.ref a) H') : ExNew cls d H Q := fun a na => h a _ na (same_new na) upd_same
end L2.A


namespace L2.A
open PySem PySem.Spec PyProof.Rows
/-! ### objects that may change, told by their cells -/
abbrev Cells := List (Addr × HO)
/-- kinds of objects that may change -/
def isMutB : HO → Bool
  | .ins _ _ _ | .dK _ | .dT _ | .lst _ => true
  | _ => false
structure Lay (L : Cells) (H : Hp) : Prop where
  nd : (L.map Prod.fst).Nodup
  has : ∀ c ∈ L, H c.1 = some c.2
  mt : ∀ c ∈ L, isMutB c.2 = true
/-- from H on: what stood in L stands as L' now, all else as it was, what is more in L' is new -/
structure Ext (L L' : Cells) (H H' : Hp) : Prop where
  kp : ∀ a o, H a = some o → a ∉ L.map Prod.fst → H' a = some o
  lay0 : Lay L H
  lay : Lay L' H'
  new : ∀ a ∈ L'.map Prod.fst, a ∈ L.map Prod.fst ∨ H a = none
  free : ∀ a, H' a = none → H a = none
theorem Lay.nil {H : Hp} : Lay [] H := ⟨List.nodup_nil, fun _ h => (by cases h), fun _ h => (by cases h)⟩
theorem Lay.get {L : Cells} {H : Hp} {p : Addr} {o : HO} (h : Lay L H) (m : (p, o) ∈ L) : H p = some o := h.has _ m
theorem Lay.same {L : Cells} {H H' : Hp} (h : Lay L H) (s : Same H H') : Lay L H' := ⟨h.nd, fun c m => s _ _ (h.has c m), h.mt⟩
theorem Lay.perm {L L' : Cells} {H : Hp} (h : Lay L H) (p : L.Perm L') : Lay L' H := ⟨(p.map Prod.fst).nodup_iff.mp h.nd, fun c m => h.has c (p.mem_iff.mpr m), fun c m => h.mt c (p.mem_iff.mpr m)⟩
theorem Lay.left {L R : Cells} {H : Hp} (h : Lay (L ++ R) H) : Lay L H := ⟨by have := h.nd; rw [List.map_append] at this; exact (List.nodup_append.mp this).1, fun c m => h.has c (List.mem_append_left _ m), fun c m => h.mt c (List.mem_append_left _ m)⟩
theorem Lay.right {L R : Cells} {H : Hp} (h : Lay (L ++ R) H) : Lay R H := ⟨by have := h.nd; rw [List.map_append] at this; exact (List.nodup_append.mp this).2.1, fun c m => h.has c (List.mem_append_right _ m), fun c m => h.mt c (List.mem_append_right _ m)⟩
theorem Lay.pull {L B R : Cells} {H : Hp} (h : Lay L H) (p : L.Perm (B ++ R)) : Lay B H := (h.perm p).left
theorem Lay.tup {L : Cells} {H : Hp} (h : Lay L H) {a : Addr} {xs : List V} (e : H a = some (.tup xs)) : a ∉ L.map Prod.fst := fun m => by
  obtain ⟨c, mc, rfl⟩ := List.mem_map.mp m
  have h1 := h.has c mc
  have h2 := h.mt c mc
  rw [h1] at e
  rw [Option.some.inj e] at h2
  cases h2
theorem Lay.free {L : Cells} {H : Hp} (h : Lay L H) {a : Addr} (e : H a = none) : a ∉ L.map Prod.fst := fun m => by
  obtain ⟨c, mc, rfl⟩ := List.mem_map.mp m
  rw [h.has c mc] at e
  cases e
theorem Lay.cons {L : Cells} {H : Hp} (h : Lay L H) {a : Addr} {o : HO} (n : a ∉ L.map Prod.fst) (e : H a = some o) (m : isMutB o = true) : Lay ((a, o) :: L) H :=
  ⟨List.nodup_cons.mpr ⟨n, h.nd⟩, fun c mc => by
    rcases List.mem_cons.mp mc with rfl | mc
    · exact e
    · exact h.has c mc, fun c mc => by
    rcases List.mem_cons.mp mc with rfl | mc
    · exact m
    · exact h.mt c mc⟩
theorem Ext.refl {L : Cells} {H : Hp} (h : Lay L H) : Ext L L H H := ⟨fun _ _ e _ => e, h, h, fun a m => .inl m, fun _ e => e⟩
theorem Ext.tup {L L' : Cells} {H H' : Hp} (x : Ext L L' H H') {a : Addr} {xs : List V} (e : H a = some (.tup xs)) : H' a = some (.tup xs) := x.kp a _ e (x.lay0.tup e)
theorem Ext.trans {L L' L'' : Cells} {H H' H'' : Hp} (x : Ext L L' H H') (y : Ext L' L'' H' H'') : Ext L L'' H H'' := by
  have back : ∀ a, a ∈ L'.map Prod.fst → ∀ o, H a = some o → a ∈ L.map Prod.fst := fun a m o e => by
    rcases x.new a m with h | h
    · exact h
    · rw [h] at e; cases e
  refine ⟨fun a o e n => y.kp a o (x.kp a o e n) fun m => n (back a m o e), x.lay0, y.lay, fun a m => ?_, fun a e => x.free a (y.free a e)⟩
  rcases y.new a m with h | h
  · exact x.new a h
  · exact .inr (x.free a h)
theorem Ext.same {L L' : Cells} {H H' H'' : Hp} (x : Ext L L' H H') (s : Same H' H'') : Ext L L' H H'' := ⟨fun a o e n => s _ _ (x.kp a o e n), x.lay0, x.lay.same s, x.new, fun a e => x.free a (s.free e)⟩
theorem Ext.of_same {L : Cells} {H H' : Hp} (h : Lay L H) (s : Same H H') : Ext L L H H' := (Ext.refl h).same s
/-- nothing changed but what is new -/
theorem Ext.toSame {L : Cells} {H H' : Hp} (x : Ext [] L H H') : Same H H' := fun a o e => x.kp a o e (fun m => nomatch m)
theorem Ext.toSame' {L L' R : Cells} {H H' : Hp} (x : Ext L L' H H') (p : L'.Perm (L ++ R)) : Same H H' := fun a o e => by
  by_cases m : a ∈ L.map Prod.fst
  · obtain ⟨c, mc, rfl⟩ := List.mem_map.mp m
    have h1 := x.lay0.has c mc
    rw [e] at h1
    rw [Option.some.inj h1]
    exact x.lay.has c (p.mem_iff.mpr (List.mem_append_left _ mc))
  · exact x.kp a o e m
theorem Ext.perm {L L' B : Cells} {H H' : Hp} (x : Ext L L' H H') (p : L'.Perm B) : Ext L B H H' := ⟨x.kp, x.lay0, x.lay.perm p, fun a m => x.new a ((p.map Prod.fst).mem_iff.mpr m), x.free⟩
theorem Ext.drop {L L' B R : Cells} {H H' : Hp} (x : Ext L L' H H') (p : L'.Perm (B ++ R)) : Ext L B H H' := ⟨x.kp, x.lay0, x.lay.pull p, fun a m => x.new a ((p.map Prod.fst).mem_iff.mpr (by rw [List.map_append]; exact List.mem_append_left _ m)), x.free⟩
theorem Ext.perm0 {L L' B : Cells} {H H' : Hp} (x : Ext L L' H H') (p : L.Perm B) : Ext B L' H H' := ⟨fun a o e n => x.kp a o e fun m => n ((p.map Prod.fst).mem_iff.mp m), x.lay0.perm p, x.lay, fun a m => (x.new a m).imp (fun z => (p.map Prod.fst).mem_iff.mp z) id, x.free⟩
/-- what is around stays -/
theorem Ext.frame {B B' R : Cells} {H H' : Hp} (h : Lay (B ++ R) H) (x : Ext B B' H H') : Ext (B ++ R) (B' ++ R) H H' := by
  have nd := h.nd
  rw [List.map_append] at nd
  obtain ⟨n1, n2, n3⟩ := List.nodup_append.mp nd
  have rB : ∀ c ∈ R, c.1 ∉ B.map Prod.fst := fun c mc mb => n3 _ mb _ (List.mem_map_of_mem mc) rfl
  refine ⟨fun a o e n => x.kp a o e fun m => n (by rw [List.map_append]; exact List.mem_append_left _ m), h, ⟨?_, fun c mc => ?_, fun c mc => ?_⟩, fun a m => ?_, x.free⟩
  · rw [List.map_append]
    refine List.nodup_append.mpr ⟨x.lay.nd, n2, fun a ma b mb e => ?_⟩
    subst e
    rcases x.new a ma with z | z
    · exact n3 _ z _ mb rfl
    · obtain ⟨c, mc, rfl⟩ := List.mem_map.mp mb
      rw [h.has c (List.mem_append_right _ mc)] at z; cases z
  · rcases List.mem_append.mp mc with m | m
    · exact x.lay.has c m
    · exact x.kp _ _ (h.has c (List.mem_append_right _ m)) (rB c m)
  · rcases List.mem_append.mp mc with m | m
    · exact x.lay.mt c m
    · exact h.mt c (List.mem_append_right _ m)
  · rw [List.map_append] at m ⊢
    rcases List.mem_append.mp m with m | m
    · exact (x.new a m).imp (fun z => List.mem_append_left _ z) id
    · exact .inl (List.mem_append_right _ m)
/-- a call that changes the block B -/
theorem Ext.call {L0 L B B' R : Cells} {H0 H H' : Hp} (x : Ext L0 L H0 H) (p : L.Perm (B ++ R)) (y : Ext B B' H H') : Ext L0 (B' ++ R) H0 H' := (x.perm p).trans (Ext.frame (x.lay.perm p) y)
/-- one cell anew -/
theorem Ext.put {L0 L R : Cells} {H0 H : Hp} {a : Addr} {o o' : HO} (x : Ext L0 L H0 H) (p : L.Perm ((a, o) :: R)) (m : isMutB o' = true) : Ext L0 ((a, o') :: R) H0 (upd H a o') := by
  have h := x.lay.perm p
  have nd := h.nd
  rw [List.map_cons, List.nodup_cons] at nd
  refine (x.perm p).trans ⟨fun b u e n => by rw [upd_ne (fun z => n (by rw [z]; exact List.mem_cons_self ..))]; exact e, h, ⟨?_, fun c mc => ?_, fun c mc => ?_⟩, fun b mb => .inl mb, fun b e => upd_free e⟩
  · exact List.nodup_cons.mpr nd
  · rcases List.mem_cons.mp mc with rfl | mc
    · exact upd_same
    · rw [upd_ne (fun z => nd.1 (by rw [← z]; exact List.mem_map.mpr ⟨c, mc, rfl⟩))]
      exact h.has c (List.mem_cons_of_mem _ mc)
  · rcases List.mem_cons.mp mc with rfl | mc
    · exact m
    · exact h.mt c (List.mem_cons_of_mem _ mc)
/-- a new cell -/
theorem Ext.add {L0 L : Cells} {H0 H H' : Hp} {a : Addr} {o : HO} (x : Ext L0 L H0 H) (n : H a = none) (s : Same H H') (e : H' a = some o) (m : isMutB o = true) : Ext L0 ((a, o) :: L) H0 H' :=
  ⟨fun b u e n => s _ _ (x.kp b u e n), x.lay0, (x.lay.same s).cons (x.lay.free n) e m, fun b mb => by
    rcases List.mem_cons.mp mb with rfl | mb
    · exact .inr (x.free _ n)
    · exact x.new b mb, fun b e => x.free b (s.free e)⟩
theorem Ext.addU {L0 L : Cells} {H0 H : Hp} {a : Addr} {o : HO} (x : Ext L0 L H0 H) (n : H a = none) (m : isMutB o = true) : Ext L0 ((a, o) :: L) H0 (upd H a o) := x.add n (same_new n) upd_same m
theorem Ext.newU {L0 L : Cells} {H0 H : Hp} {a : Addr} {o : HO} (x : Ext L0 L H0 H) (n : H a = none) : Ext L0 L H0 (upd H a o) := x.same (same_new n)
/-! ### finding a block -/
theorem pm_here {B R : Cells} : (B ++ R).Perm (B ++ R) := .refl _
theorem pm_all {B : Cells} : B.Perm (B ++ []) := by rw [List.append_nil]
theorem pm_app {A B L R : Cells} (h : L.Perm (B ++ R)) : (A ++ L).Perm (B ++ (A ++ R)) := (h.append_left A).trans (by rw [← List.append_assoc, ← List.append_assoc]; exact List.perm_append_comm.append_right R)
theorem pm_cons {c : Addr × HO} {B L R : Cells} (h : L.Perm (B ++ R)) : (c :: L).Perm (B ++ (c :: R)) := (h.cons c).trans List.perm_middle.symm
theorem pm_nil {L : Cells} : L.Perm ([] ++ L) := .refl _
theorem pm_two {B C L R R' : Cells} (h : L.Perm (B ++ R)) (h' : R.Perm (C ++ R')) : L.Perm ((B ++ C) ++ R') := h.trans ((h'.append_left B).trans (by rw [List.append_assoc]))
theorem pc_here {c : Addr × HO} {R : Cells} : (c :: R).Perm (c :: R) := .refl _
theorem pc_cons {c d : Addr × HO} {L R : Cells} (h : L.Perm (d :: R)) : (c :: L).Perm (d :: c :: R) := (h.cons c).trans (.swap ..)
theorem pc_app {d : Addr × HO} {A L R : Cells} (h : L.Perm (d :: R)) : (A ++ L).Perm (d :: (A ++ R)) := (h.append_left A).trans List.perm_middle
end L2.A

namespace L2.A
open PySem PySem.Spec PyProof.Rows
/-! ### dicts of names: names alone, names with numbers -/
def setO (zs : List Str) : HO := .dK (zs.map fun z => (Sum.inr z, V.bl true))
def cntO (ks : List (Str × Int)) : HO := .dK (ks.map fun kv => (Sum.inr kv.1, V.int kv.2))
def addS (zs : List Str) (z : Str) : List Str := if z ∈ zs then zs else zs ++ [z]
def cntV (ks : List (Str × Int)) (z : Str) : Option Int := (ks.find? fun kv => decide (kv.1 = z)).map (·.2)
def cntP (ks : List (Str × Int)) (z : Str) (n : Int) : List (Str × Int) := if (cntV ks z).isSome = true then ks.map (fun kv => if kv.1 = z then (kv.1, n) else kv) else ks ++ [(z, n)]
theorem valV_set {zs : List Str} {z : Str} : valV (zs.map fun z => ((Sum.inr z : Key), V.bl true)) (Sum.inr z) = if z ∈ zs then some (.bl true) else none := by
  induction zs with
  | nil => rfl
  | cons y r ih =>
    rw [List.map_cons]
    by_cases e : y = z
    · subst e
      rw [valV_pos rfl]; simp
    · rw [valV_neg (by simpa using e), ih]
      have : ¬ z = y := fun h => e h.symm
      simp [this]
theorem putK_set {zs : List Str} {z : Str} : putK (zs.map fun z => ((Sum.inr z : Key), V.bl true)) (Sum.inr z) (.bl true) = (addS zs z).map fun z => ((Sum.inr z : Key), V.bl true) := by
  unfold putK addS
  rw [valV_any, valV_set]
  by_cases e : z ∈ zs
  · rw [if_pos e, if_pos (show (some (V.bl true)).isSome = true from rfl), if_pos e, List.map_map]
    refine List.map_congr_left fun y _ => ?_
    show (if (Sum.inr y : Key) = Sum.inr z then ((Sum.inr y : Key), V.bl true) else (Sum.inr y, V.bl true)) = _
    by_cases q : (Sum.inr y : Key) = Sum.inr z
    · rw [if_pos q]
    · rw [if_neg q]
  · rw [if_neg e, if_neg (by decide), if_neg e, List.map_append]; rfl
theorem valV_cnt {ks : List (Str × Int)} {z : Str} : valV (ks.map fun kv => ((Sum.inr kv.1 : Key), V.int kv.2)) (Sum.inr z) = (cntV ks z).map V.int := by
  unfold cntV
  induction ks with
  | nil => rfl
  | cons y r ih =>
    rw [List.map_cons]
    by_cases e : y.1 = z
    · rw [valV_pos (by simp [e]), List.find?_cons, decide_eq_true e]; rfl
    · rw [valV_neg (by simpa using e), ih, List.find?_cons, decide_eq_false e]
theorem putK_cnt {ks : List (Str × Int)} {z : Str} {n : Int} : putK (ks.map fun kv => ((Sum.inr kv.1 : Key), V.int kv.2)) (Sum.inr z) (.int n) = (cntP ks z n).map fun kv => ((Sum.inr kv.1 : Key), V.int kv.2) := by
  unfold putK cntP
  rw [valV_any, valV_cnt]
  by_cases e : (cntV ks z).isSome = true
  · rw [if_pos (by rw [Option.isSome_map]; exact e), if_pos e, List.map_map, List.map_map]
    refine List.map_congr_left fun y _ => ?_
    show (if (Sum.inr y.1 : Key) = Sum.inr z then ((Sum.inr y.1 : Key), V.int n) else (Sum.inr y.1, V.int y.2)) = _
    by_cases q : y.1 = z
    · rw [if_pos (by rw [q])]; simp [q]
    · rw [if_neg (by simpa using q)]; simp [q]
  · rw [if_neg (by rw [Option.isSome_map]; exact e), if_neg e, List.map_append]; rfl
section
variable {K : PySem.W.Frag} {H : Hp} {Q : VK} {p : Addr} {zs : List Str} {ks : List (Str × Int)} {z : Str} {QH : Hp → Prop}
theorem go_inS (hp : H p = some (setO zs)) (h : Q (.bl (decide (z ∈ zs))) H) : rInX K (.str z) (.ref p) H Q := by
  refine .inr (.inr ⟨p, _, rfl, DGet.k (k := Sum.inr z) hp, ?_⟩)
  rw [valV_set]
  by_cases e : z ∈ zs
  · rw [if_pos e]; rwa [decide_eq_true e] at h
  · rw [if_neg e]; rwa [decide_eq_false e] at h
theorem go_inC (hp : H p = some (cntO ks)) (h : Q (.bl (cntV ks z).isSome) H) : rInX K (.str z) (.ref p) H Q := by
  refine .inr (.inr ⟨p, _, rfl, DGet.k (k := Sum.inr z) hp, ?_⟩)
  rw [valV_cnt, Option.isSome_map]; exact h
theorem go_sS (hp : H p = some (setO zs)) (l : zs.length ≤ 10000) (h : QH (upd H p (setO (addS zs z)))) : rSetX (.ref p) (.str z) (.bl true) H QH := by
  refine go_sKs hp (by rw [List.length_map]; exact szl (by omega)) ?_
  rw [putK_set]; exact h
theorem go_sC {n : Int} (hp : H p = some (cntO ks)) (l : ks.length ≤ 10000) (h : QH (upd H p (cntO (cntP ks z n)))) : rSetX (.ref p) (.str z) (.int n) H QH := by
  refine go_sKs hp (by rw [List.length_map]; exact szl (by omega)) ?_
  rw [putK_cnt]; exact h
theorem go_xC {n : Int} (hp : H p = some (cntO ks)) (e : cntV ks z = some n) (h : Q (.int n) H) : rIxX K (.ref p) (.str z) H Q := go_xKs hp (by rw [valV_cnt, e]; rfl) h
theorem go_getC {n : Int} (hp : H p = some (cntO ks)) (h : Q (.int ((cntV ks z).getD n)) H) : Dg2K p (.str z) (.int n) H Q := by
  refine go_dg2S hp ?_
  rw [valV_cnt]
  cases e : cntV ks z with
  | none => rw [e] at h; exact h
  | some v => rw [e] at h; exact h
end
theorem addS_len {zs : List Str} {z : Str} : (addS zs z).length ≤ zs.length + 1 := by
  unfold addS
  split <;> simp
theorem cntP_len {ks : List (Str × Int)} {z : Str} {n : Int} : (cntP ks z n).length ≤ ks.length + 1 := by
  unfold cntP
  split <;> simp
end L2.A

namespace L2.Toy
open PySem PySem.Spec PyProof.Rows L2.A
local macro_rules | `(tactic| walk_at "put") => `(tactic| first | exact rfl)
local macro_rules | `(tactic| walk_at "sqT") => `(tactic| first | assumption | exact .of upd_same | exact .of (by assumption) | exact seqT_same (by assumption) (by walk_at "same") | exact .of (ge2 (by assumption) (by walk_at "same")))
local macro_rules | `(tactic| walk_at "sqL") => `(tactic| first | assumption | exact .of upd_same | exact .of (by assumption) | exact seqL_same (by assumption) (by walk_at "same") | exact .of (ge2 (by assumption) (by walk_at "same")))
local macro_rules | `(tactic| walk_at "obj") => `(tactic| first | exact upd_same | assumption | exact ge2 (by assumption) (by walk_at "same"))
local macro_rules | `(tactic| walk_at "ty") => `(tactic| first | exact tyV_s | exact tyV_l (by walk_at "sqL") | exact tyV_d (by walk_at "obj") | exact tyV_dT (by walk_at "obj"))
local macro_rules | `(tactic| walk_at "1") => `(tactic| first
  | with_reducible refine go_seq ?_
  | with_reducible refine go_nx ?_
  | with_reducible refine go_asg ?_
  | with_reducible refine go_op ?_
  | ((with_reducible refine' go_var ?e ?_); (case e => exact rfl))
  | ((with_reducible refine' go_name ?e ?_); (case e => (simp only [List.set_cons_zero, List.set_cons_succ]; rfl)))
  | with_reducible refine go_c ?_
  | with_reducible refine go_I0 ?_
  | with_reducible refine go_addI ?_
  | ((with_reducible refine go_mulI ?e ?_); (case e => (show CMul _ _; unfold CMul; omega)))
  | ((with_reducible refine go_I ?e ?_); (case e => (first | omega | (show CDiv _ _; unfold CDiv; omega) | (show (0 : Int) < _; omega))))
  | with_reducible refine go_if ?_
  | with_reducible refine go_test ?_
  | with_reducible refine go_bl ?_
  | ((with_reducible refine go_eqS ?e ?_); (case e => exact rfl))
  | ((with_reducible refine go_neS ?e ?_); (case e => exact rfl))
  | with_reducible refine go_isN ?_
  | with_reducible refine go_notN ?_
  | with_reducible refine go_isB ?_
  | with_reducible refine go_notB ?_
  | with_reducible refine go_ret ?_
  | with_reducible refine go_rt ?_
  | with_reducible refine go_retN ?_
  | with_reducible refine go_cons ?_
  | with_reducible refine go_nil ?_
  | with_reducible refine go_call ?_
  | with_reducible refine go_CB ?_
  | with_reducible refine go_tup ?_
  | with_reducible refine go_lst ?_
  | with_reducible refine go_newT rfl ?_
  | with_reducible refine go_newL rfl ?_
  | with_reducible refine go_not ?_
  | ((with_reducible refine' go_andP ?a ?b ?_); (case a => (intro QB' hQ; (walk_at "*"); exact hQ)); (case b => (intro QB' hQ; (walk_at "*"); exact hQ)))
  | ((with_reducible refine' go_orP ?a ?b ?_); (case a => (intro QB' hQ; (walk_at "*"); exact hQ)); (case b => (intro QB' hQ; (walk_at "*"); exact hQ)))
  | ((with_reducible refine' go_andVP ?a ?b ?_); (case a => (intro QB' hQ; (walk_at "*"); exact hQ)); (case b => (intro QB' hQ; (walk_at "*"); exact hQ)))
  | ((with_reducible refine' go_orVP ?a ?b ?_); (case a => (intro QB' hQ; (walk_at "*"); exact hQ)); (case b => (intro QB' hQ; (walk_at "*"); exact hQ)))
  | ((with_reducible refine' go_ifxP ?a ?b ?c ?_); (case a => (intro QB' hQ; (walk_at "*"); exact hQ)); (case b => (intro QB' hQ; (walk_at "*"); exact hQ)); (case c => (intro QB' hQ; (walk_at "*"); exact hQ)))
  | with_reducible refine go_and ?_
  | with_reducible refine go_or ?_
  | with_reducible refine go_andV ?_
  | with_reducible refine go_orV ?_
  | with_reducible refine go_notV ?_
  | with_reducible refine go_tru ?_
  | with_reducible refine go_truB ?_
  | with_reducible refine go_truI ?_
  | with_reducible refine go_chain ?_
  | with_reducible refine go_ifx ?_
  | with_reducible refine go_drop ?_
  | with_reducible refine go_un ?_
  | with_reducible refine go_U ?_
  | with_reducible refine go_gcons ?_
  | with_reducible refine go_gnil ?_
  | with_reducible refine go_sub ?_
  | with_reducible refine go_intI ?_
  | with_reducible refine go_intB ?_
  | ((with_reducible refine' go_xT ?a ?b ?_); (case a => walk_at "sqT"); (case b => exact rfl))
  | ((with_reducible refine' go_xL ?a ?b ?_); (case a => walk_at "sqL"); (case b => exact rfl))
  | ((with_reducible refine' go_gtup ?a ?b ?_); (case a => walk_at "sqT"); (case b => exact rfl))
  | with_reducible refine go_sl ?_
  | with_reducible refine go_nopart ?_
  | with_reducible refine go_part ?_
  | with_reducible refine go_partI ?_
  | ((with_reducible refine' go_slT ?a ?b ?c ?_); (case a => walk_at "sqT"); (case b => exact rfl); (case c => exact rfl))
  | with_reducible refine go_min3 ?_
  | with_reducible refine go_max3 ?_
  | with_reducible refine go_disp ?_
  | with_reducible refine go_pairs ?_
  | with_reducible refine go_pairs0 ?_
  | ((with_reducible refine' go_dispK ?a ?b ?c ?_); (case a => first | exact upd_same | assumption); (case b => exact rfl); (case c => exact rfl))
  | with_reducible refine go_next ?_
  | with_reducible refine go_for ?_
  | with_reducible refine go_lc ?_
  | with_reducible refine go_iX ?_
  | with_reducible refine go_rng1 ?_
  | with_reducible refine go_rng2 ?_
  | ((with_reducible refine go_rn1 ?e ?_); (case e => omega))
  | ((with_reducible refine go_rn2 ?e ?_); (case e => omega))
  | with_reducible refine go_yes ?_
  | with_reducible refine go_max ?_
  | with_reducible refine go_min ?_
  | with_reducible refine go_abs ?_
  | ((with_reducible refine' go_isi ?e ?f ?_); (case e => first | exact .base (.int _) | exact .base (.bl _) | exact .base (.str _) | exact .base .non | exact .base (.tup (by assumption)) | exact .base (.lst (by assumption)) | exact .base (.tup (ge2 (by assumption) (by walk_at "same"))) | exact .base (.lst (ge2 (by assumption) (by walk_at "same")))); (case f => first | exact kit_ii | exact kit_ib | exact kit_bb | exact kit_bi | exact kit_ss | exact kit_nb | exact kit_ni | exact kit_ns | exact kit_nt | exact kit_is | exact kit_si | exact kit_sb | exact kit_bs | exact kit_tt | exact kit_ll | exact kit_tl | exact kit_lt))
  | ((with_reducible refine' go_lenS ?a ?_); (case a => exact szl (by omega)))
  | ((with_reducible refine' go_lenT ?a ?_); (case a => walk_at "sqT"))
  | ((with_reducible refine' go_lenL ?a ?_); (case a => walk_at "sqL"))
  | with_reducible refine go_fld ?_
  | ((with_reducible refine' go_fldW ?a ?b ?c ?d ?_); (case a => walk_at "obj"); (case b => assumption); (case c => assumption); (case d => exact rfl))
  | with_reducible refine go_sfld ?_
  | ((with_reducible refine' go_sfldW ?a ?b ?c ?d ?e ?_); (case a => walk_at "obj"); (case b => assumption); (case c => assumption); (case d => exact rfl); (case e => walk_at "put"))
  | with_reducible refine go_dget2 ?_
  | with_reducible refine go_dnewK ?_
  | with_reducible refine go_gfld ?_
  | ((with_reducible refine' go_gfldW ?a ?b ?c ?d ?e ?_); (case a => walk_at "obj"); (case b => assumption); (case c => assumption); (case d => exact rfl); (case e => walk_at "put"))
  | with_reducible refine go_faug ?_
  | ((with_reducible refine' go_faugW ?a ?b ?c ?d ?_); (case a => walk_at "obj"); (case b => assumption); (case c => assumption); (case d => exact rfl))
  | ((with_reducible refine' go_astW ?a ?b ?e ?_); (case a => walk_at "obj"); (case b => exact rfl); (case e => walk_at "put"))
  | with_reducible refine go_rAdd ?_
  | with_reducible refine go_rSub ?_
  | with_reducible refine go_meth ?_
  | ((with_reducible refine' go_methW ?a ?b ?_); (case a => walk_at "obj"); (case b => exact rfl))
  | with_reducible refine go_make ?_
  | with_reducible refine go_callS ?_
  | with_reducible refine go_methS ?_
  | ((with_reducible refine' go_methSW ?a ?b ?_); (case a => walk_at "obj"); (case b => exact rfl))
  | with_reducible refine go_veI ?_
  | with_reducible refine go_ost ?_
  | with_reducible refine go_mkO ?_
  | with_reducible refine go_exv ?_
  | with_reducible refine go_xq ?_
  | ((with_reducible refine' go_xqW ?a ?b ?c ?d ?e ?_); (case a => walk_at "obj"); (case b => exact ExcD.xf (by assumption)); (case c => assumption); (case d => walk_at "obj"); (case e => exact rfl))
  | ((with_reducible refine' go_isQ ?a ?b ?c ?d ?e ?_); (case a => walk_at "obj"); (case b => assumption); (case c => walk_at "obj"); (case d => first | exact .ty _ | exact .own _); (case e => assumption))
  | ((with_reducible refine' go_isQT ?a ?b ?c ?d ?e ?f ?_); (case a => walk_at "obj"); (case b => assumption); (case c => walk_at "obj"); (case d => first | exact upd_same | (walk_at "obj")); (case e => (repeat (first | exact .nil | refine .cons (.own _) ?_ | refine .cons (.ty _) ?_))); (case f => (simp only [PySem.W.kitAny, *])))
  | with_reducible refine go_isY ?_
  | with_reducible refine go_revR ?_
  | with_reducible refine go_rg1 ?_
  | with_reducible refine go_rg1b ?_
  | ((with_reducible refine go_rvR ?e ?_); (case e => omega))
  | with_reducible refine go_enum ?_
  | with_reducible refine go_zip ?_
  | ((with_reducible refine' go_aug ?e ?_); (case e => exact rfl))
  | with_reducible refine go_ipI ?_
  | with_reducible refine go_ipA ?_
  | with_reducible refine go_par ?_
  | with_reducible refine go_par3 ?_
  | ((with_reducible refine' go_p3 ?e ?_); (case e => (simp only [List.set_cons_zero, List.set_cons_succ]; rfl)))
  | ((with_reducible refine' go_p2 ?e ?_); (case e => (simp only [List.set_cons_zero, List.set_cons_succ]; rfl)))
  | with_reducible refine go_bm ?_
  | with_reducible refine go_bm0 ?_
  | ((with_reducible refine' go_bmW ?a ?_); (case a => walk_at "ty"))
  | ((with_reducible refine' go_bmW0 ?a ?_); (case a => walk_at "ty"))
  | ((with_reducible refine' go_append ?a ?b ?_); (case a => walk_at "obj"); (case b => first | exact Nat.lt_of_succ_le (Nat.le_of_ble_eq_true rfl) | omega | (simp only [List.length_append, List.length_cons, List.length_nil, List.length_map]; omega)))
  | with_reducible refine go_brk ?_
  | with_reducible refine go_ct ?_
  | with_reducible refine go_bk ?_
  | with_reducible refine go_ctx ?_
  | (with_reducible refine iteT ?_)
  | (with_reducible refine iteNT ?_)
  | (with_reducible refine iteNF ?_)
  | (with_reducible refine iteF ?_)
  | ((with_reducible refine' and_join ?b ?_); (case b => (intro QB' hQ; (walk_at "*"); exact hQ)))
  | ((with_reducible refine' or_join ?b ?_); (case b => (intro QB' hQ; (walk_at "*"); exact hQ)))
  | ((with_reducible refine' andV_join ?b ?_); (case b => (intro QB' hQ; (walk_at "*"); exact hQ)))
  | ((with_reducible refine' orV_join ?b ?_); (case b => (intro QB' hQ; (walk_at "*"); exact hQ)))
  | fail)
local macro_rules | `(tactic| walk_at "*") => `(tactic| ((try dsimp only); (repeat walk_at "1")))
local macro_rules | `(tactic| walk_at "same") => `(tactic| first
  | exact Same.refl _
  | assumption
  | ((refine same_new2 ?_ ?h); (case h => assumption); (walk_at "same"))
  | ((refine same_mut ?_ ?h); (case h => assumption); (walk_at "same"))
  | ((refine same_mut ?_ ?h); (case h => exact Same.free (by walk_at "same") (by assumption)); (walk_at "same"))
  | ((refine' Same.trans ?_ ?h); (case h => assumption); (walk_at "same"))
  | fail)
local macro_rules | `(tactic| walk_at "all") => `(tactic| ((walk_at "*"); first
  | ((refine if2 (fun c => ?_) (fun c => ?_)) <;> (walk_at "all"))
  | ((with_reducible refine go_inT (.of upd_same) rfl rfl ?_); (walk_at "all"))
  | ((with_reducible refine go_ninT (.of upd_same) rfl rfl ?_); (walk_at "all"))
  | ((with_reducible show NewO _ _ _); (intro p hp); (walk_at "all"))
  | skip))

local macro_rules | `(tactic| walk_at "**") => `(tactic| ((try dsimp only); (repeat first
  | walk_at "1"
  | ((with_reducible show NewO _ _ _); (intro p hp))
  | (with_reducible refine go_inT (.of upd_same) rfl rfl ?_)
  | (with_reducible refine go_ninT (.of upd_same) rfl rfl ?_)
  | (with_reducible refine go_inL (.of upd_same) rfl rfl ?_)
  | (with_reducible refine go_ninL (.of upd_same) rfl rfl ?_))))

def top (i : Nat) : Stmt := PySem.Challenge.pw_inningsbook_k09_refusals_apart.main.body.getD i (.Pass ⟨0, 0, 0, 0⟩)
structure Txt (K : PySem.W.Frag) (mg : Str → Option Value) : Prop where
  b_ValueError : mg "ValueError" = none
  b_int : mg "int" = none
  b_isinstance : mg "isinstance" = none
  b_len : mg "len" = none
  b_list : mg "list" = none
  b_range : mg "range" = none
  bi_BookError : biB K (He.ga K "BookError") = true
  c_BadRow : mg "BadRow" = some (.ref (He.ga K "BadRow"))
  c_BookError : mg "BookError" = some (.ref (He.ga K "BookError"))
  c_Falling : mg "Falling" = some (.ref (He.ga K "Falling"))
  c_Misplaced : mg "Misplaced" = some (.ref (He.ga K "Misplaced"))
  c_NoEntry : mg "NoEntry" = some (.ref (He.ga K "NoEntry"))
  c_NotLet : mg "NotLet" = some (.ref (He.ga K "NotLet"))
  c_Twice : mg "Twice" = some (.ref (He.ga K "Twice"))
  c_Unfinished : mg "Unfinished" = some (.ref (He.ga K "Unfinished"))
  kit_BadRow_BadRow : PySem.W.kitOne K (.ref (He.ga K "BadRow")) (.ref (He.ga K "BadRow")) = some true
  kit_BadRow_BookError : PySem.W.kitOne K (.ref (He.ga K "BadRow")) (.ref (He.ga K "BookError")) = some true
  kit_BadRow_Falling : PySem.W.kitOne K (.ref (He.ga K "BadRow")) (.ref (He.ga K "Falling")) = some false
  kit_BadRow_Misplaced : PySem.W.kitOne K (.ref (He.ga K "BadRow")) (.ref (He.ga K "Misplaced")) = some false
  kit_BadRow_NoEntry : PySem.W.kitOne K (.ref (He.ga K "BadRow")) (.ref (He.ga K "NoEntry")) = some false
  kit_BadRow_NotLet : PySem.W.kitOne K (.ref (He.ga K "BadRow")) (.ref (He.ga K "NotLet")) = some false
  kit_BadRow_Twice : PySem.W.kitOne K (.ref (He.ga K "BadRow")) (.ref (He.ga K "Twice")) = some false
  kit_BadRow_Unfinished : PySem.W.kitOne K (.ref (He.ga K "BadRow")) (.ref (He.ga K "Unfinished")) = some false
  kit_BadRow_ValueError : PySem.W.kitOne K (.ref (He.ga K "BadRow")) (.type "ValueError") = some true
  kit_Falling_BadRow : PySem.W.kitOne K (.ref (He.ga K "Falling")) (.ref (He.ga K "BadRow")) = some false
  kit_Falling_BookError : PySem.W.kitOne K (.ref (He.ga K "Falling")) (.ref (He.ga K "BookError")) = some true
  kit_Falling_Falling : PySem.W.kitOne K (.ref (He.ga K "Falling")) (.ref (He.ga K "Falling")) = some true
  kit_Falling_Misplaced : PySem.W.kitOne K (.ref (He.ga K "Falling")) (.ref (He.ga K "Misplaced")) = some false
  kit_Falling_NoEntry : PySem.W.kitOne K (.ref (He.ga K "Falling")) (.ref (He.ga K "NoEntry")) = some false
  kit_Falling_NotLet : PySem.W.kitOne K (.ref (He.ga K "Falling")) (.ref (He.ga K "NotLet")) = some false
  kit_Falling_Twice : PySem.W.kitOne K (.ref (He.ga K "Falling")) (.ref (He.ga K "Twice")) = some false
  kit_Falling_Unfinished : PySem.W.kitOne K (.ref (He.ga K "Falling")) (.ref (He.ga K "Unfinished")) = some false
  kit_Falling_ValueError : PySem.W.kitOne K (.ref (He.ga K "Falling")) (.type "ValueError") = some true
  kit_Misplaced_BadRow : PySem.W.kitOne K (.ref (He.ga K "Misplaced")) (.ref (He.ga K "BadRow")) = some false
  kit_Misplaced_BookError : PySem.W.kitOne K (.ref (He.ga K "Misplaced")) (.ref (He.ga K "BookError")) = some true
  kit_Misplaced_Falling : PySem.W.kitOne K (.ref (He.ga K "Misplaced")) (.ref (He.ga K "Falling")) = some false
  kit_Misplaced_Misplaced : PySem.W.kitOne K (.ref (He.ga K "Misplaced")) (.ref (He.ga K "Misplaced")) = some true
  kit_Misplaced_NoEntry : PySem.W.kitOne K (.ref (He.ga K "Misplaced")) (.ref (He.ga K "NoEntry")) = some false
  kit_Misplaced_NotLet : PySem.W.kitOne K (.ref (He.ga K "Misplaced")) (.ref (He.ga K "NotLet")) = some false
  kit_Misplaced_Twice : PySem.W.kitOne K (.ref (He.ga K "Misplaced")) (.ref (He.ga K "Twice")) = some false
  kit_Misplaced_Unfinished : PySem.W.kitOne K (.ref (He.ga K "Misplaced")) (.ref (He.ga K "Unfinished")) = some false
  kit_Misplaced_ValueError : PySem.W.kitOne K (.ref (He.ga K "Misplaced")) (.type "ValueError") = some true
  kit_NoEntry_BadRow : PySem.W.kitOne K (.ref (He.ga K "NoEntry")) (.ref (He.ga K "BadRow")) = some false
  kit_NoEntry_BookError : PySem.W.kitOne K (.ref (He.ga K "NoEntry")) (.ref (He.ga K "BookError")) = some true
  kit_NoEntry_Falling : PySem.W.kitOne K (.ref (He.ga K "NoEntry")) (.ref (He.ga K "Falling")) = some false
  kit_NoEntry_Misplaced : PySem.W.kitOne K (.ref (He.ga K "NoEntry")) (.ref (He.ga K "Misplaced")) = some false
  kit_NoEntry_NoEntry : PySem.W.kitOne K (.ref (He.ga K "NoEntry")) (.ref (He.ga K "NoEntry")) = some true
  kit_NoEntry_NotLet : PySem.W.kitOne K (.ref (He.ga K "NoEntry")) (.ref (He.ga K "NotLet")) = some false
  kit_NoEntry_Twice : PySem.W.kitOne K (.ref (He.ga K "NoEntry")) (.ref (He.ga K "Twice")) = some false
  kit_NoEntry_Unfinished : PySem.W.kitOne K (.ref (He.ga K "NoEntry")) (.ref (He.ga K "Unfinished")) = some false
  kit_NoEntry_ValueError : PySem.W.kitOne K (.ref (He.ga K "NoEntry")) (.type "ValueError") = some true
  kit_NotLet_BadRow : PySem.W.kitOne K (.ref (He.ga K "NotLet")) (.ref (He.ga K "BadRow")) = some false
  kit_NotLet_BookError : PySem.W.kitOne K (.ref (He.ga K "NotLet")) (.ref (He.ga K "BookError")) = some true
  kit_NotLet_Falling : PySem.W.kitOne K (.ref (He.ga K "NotLet")) (.ref (He.ga K "Falling")) = some false
  kit_NotLet_Misplaced : PySem.W.kitOne K (.ref (He.ga K "NotLet")) (.ref (He.ga K "Misplaced")) = some false
  kit_NotLet_NoEntry : PySem.W.kitOne K (.ref (He.ga K "NotLet")) (.ref (He.ga K "NoEntry")) = some false
  kit_NotLet_NotLet : PySem.W.kitOne K (.ref (He.ga K "NotLet")) (.ref (He.ga K "NotLet")) = some true
  kit_NotLet_Twice : PySem.W.kitOne K (.ref (He.ga K "NotLet")) (.ref (He.ga K "Twice")) = some false
  kit_NotLet_Unfinished : PySem.W.kitOne K (.ref (He.ga K "NotLet")) (.ref (He.ga K "Unfinished")) = some false
  kit_NotLet_ValueError : PySem.W.kitOne K (.ref (He.ga K "NotLet")) (.type "ValueError") = some true
  kit_Twice_BadRow : PySem.W.kitOne K (.ref (He.ga K "Twice")) (.ref (He.ga K "BadRow")) = some false
  kit_Twice_BookError : PySem.W.kitOne K (.ref (He.ga K "Twice")) (.ref (He.ga K "BookError")) = some true
  kit_Twice_Falling : PySem.W.kitOne K (.ref (He.ga K "Twice")) (.ref (He.ga K "Falling")) = some false
  kit_Twice_Misplaced : PySem.W.kitOne K (.ref (He.ga K "Twice")) (.ref (He.ga K "Misplaced")) = some false
  kit_Twice_NoEntry : PySem.W.kitOne K (.ref (He.ga K "Twice")) (.ref (He.ga K "NoEntry")) = some false
  kit_Twice_NotLet : PySem.W.kitOne K (.ref (He.ga K "Twice")) (.ref (He.ga K "NotLet")) = some false
  kit_Twice_Twice : PySem.W.kitOne K (.ref (He.ga K "Twice")) (.ref (He.ga K "Twice")) = some true
  kit_Twice_Unfinished : PySem.W.kitOne K (.ref (He.ga K "Twice")) (.ref (He.ga K "Unfinished")) = some false
  kit_Twice_ValueError : PySem.W.kitOne K (.ref (He.ga K "Twice")) (.type "ValueError") = some true
  kit_Unfinished_BadRow : PySem.W.kitOne K (.ref (He.ga K "Unfinished")) (.ref (He.ga K "BadRow")) = some false
  kit_Unfinished_BookError : PySem.W.kitOne K (.ref (He.ga K "Unfinished")) (.ref (He.ga K "BookError")) = some true
  kit_Unfinished_Falling : PySem.W.kitOne K (.ref (He.ga K "Unfinished")) (.ref (He.ga K "Falling")) = some false
  kit_Unfinished_Misplaced : PySem.W.kitOne K (.ref (He.ga K "Unfinished")) (.ref (He.ga K "Misplaced")) = some false
  kit_Unfinished_NoEntry : PySem.W.kitOne K (.ref (He.ga K "Unfinished")) (.ref (He.ga K "NoEntry")) = some false
  kit_Unfinished_NotLet : PySem.W.kitOne K (.ref (He.ga K "Unfinished")) (.ref (He.ga K "NotLet")) = some false
  kit_Unfinished_Twice : PySem.W.kitOne K (.ref (He.ga K "Unfinished")) (.ref (He.ga K "Twice")) = some false
  kit_Unfinished_Unfinished : PySem.W.kitOne K (.ref (He.ga K "Unfinished")) (.ref (He.ga K "Unfinished")) = some true
  kit_Unfinished_ValueError : PySem.W.kitOne K (.ref (He.ga K "Unfinished")) (.type "ValueError") = some true
  nf_BadRow_place : PySem.W.findIn K (.ref (He.ga K "BadRow")) "place" = some none
  nf_Falling_place : PySem.W.findIn K (.ref (He.ga K "Falling")) "place" = some none
  nf_Misplaced_place : PySem.W.findIn K (.ref (He.ga K "Misplaced")) "place" = some none
  nf_NoEntry_number : PySem.W.findIn K (.ref (He.ga K "NoEntry")) "number" = some none
  nf_NotLet_number : PySem.W.findIn K (.ref (He.ga K "NotLet")) "number" = some none
  nf_NotLet_rule : PySem.W.findIn K (.ref (He.ga K "NotLet")) "rule" = some none
  nf_Twice_place : PySem.W.findIn K (.ref (He.ga K "Twice")) "place" = some none
  nf_Unfinished_place : PySem.W.findIn K (.ref (He.ga K "Unfinished")) "place" = some none
  oex_BadRow : OexC K (He.ga K "BadRow")
  oex_Falling : OexC K (He.ga K "Falling")
  oex_Misplaced : OexC K (He.ga K "Misplaced")
  oex_NoEntry : OexC K (He.ga K "NoEntry")
  oex_NotLet : OexC K (He.ga K "NotLet")
  oex_Twice : OexC K (He.ga K "Twice")
  oex_Unfinished : OexC K (He.ga K "Unfinished")
  xd_BadRow : ExcD K (He.ga K "BadRow")
  xd_Falling : ExcD K (He.ga K "Falling")
  xd_Misplaced : ExcD K (He.ga K "Misplaced")
  xd_NoEntry : ExcD K (He.ga K "NoEntry")
  xd_NotLet : ExcD K (He.ga K "NotLet")
  xd_Twice : ExcD K (He.ga K "Twice")
  xd_Unfinished : ExcD K (He.ga K "Unfinished")

abbrev drawL (c : Addr) (at_ left num : Int) (dig : Bool) : List (Key × V) := [(Sum.inr "cells", .ref c), (Sum.inr "at", .int at_), (Sum.inr "left", .int left), (Sum.inr "number", .int num), (Sum.inr "digits", .bl dig)]
/-- a draw at p, its place at most n -/
def Draw (H : Hp) (p c : Addr) (n : Int) : Prop := ∃ (ns : List Int) (at_ left num : Int) (dig : Bool), H p = some (.dK (drawL c at_ left num dig)) ∧ H c = some (.lst (ns.map V.int)) ∧ 0 < ns.length ∧ ns.length ≤ 100 ∧ 0 ≤ at_ ∧ at_ ≤ n
theorem Draw.same {H H' : Hp} {p c : Addr} {n : Int} (h : Draw H p c n) (s : Same H H') : Draw H' p c n := by
  obtain ⟨ns, a, l, m, d, e1, e2, r⟩ := h
  exact ⟨ns, a, l, m, d, s _ _ e1, s _ _ e2, r⟩
theorem Draw.le {H : Hp} {p c : Addr} {n m : Int} (h : Draw H p c n) (k : n ≤ m) : Draw H p c m := by
  obtain ⟨ns, a, l, m, d, e1, e2, r1, r2, r3, r4⟩ := h
  exact ⟨ns, a, l, m, d, e1, e2, r1, r2, r3, by omega⟩
theorem Draw.is {H : Hp} {p c : Addr} {n : Int} (h : Draw H p c n) : ∃ o, H p = some (.dK o) := by
  obtain ⟨ns, a, l, m, d, e1, r⟩ := h
  exact ⟨_, e1⟩
theorem Draw.ne {H : Hp} {p c l : Addr} {n : Int} (h : Draw H p c n) (hl : H l = none) : l ≠ p := by
  obtain ⟨o, e⟩ := h.is
  exact (ne_of_none e hl).symm
theorem Draw.nec {H : Hp} {p c l : Addr} {n : Int} (h : Draw H p c n) (hl : H l = none) : l ≠ c := by
  obtain ⟨ns, a, l, m, d, e1, e2, r⟩ := h
  exact (ne_of_none e2 hl).symm
theorem Draw.mut {H : Hp} {p c l : Addr} {n : Int} {o : HO} (h : Draw H p c n) (h1 : l ≠ p) (h2 : l ≠ c) : Draw (upd H l o) p c n := by
  obtain ⟨ns, a, x, m, d, e1, e2, r⟩ := h
  exact ⟨ns, a, x, m, d, by rw [upd_ne h1.symm]; exact e1, by rw [upd_ne h2.symm]; exact e2, r⟩
section
variable {K : PySem.W.Frag} {H : Hp} {Q : VK} {QH : Hp → Prop} {p c : Addr} {a l n v : Int} {d : Bool}
theorem go_xCells (hp : H p = some (.dK (drawL c a l n d))) (h : Q (.ref c) H) : rIxX K (.ref p) (.str "cells") H Q := go_xKs hp rfl h
theorem go_xAt (hp : H p = some (.dK (drawL c a l n d))) (h : Q (.int a) H) : rIxX K (.ref p) (.str "at") H Q := go_xKs hp rfl h
theorem go_xLeft (hp : H p = some (.dK (drawL c a l n d))) (h : Q (.int l) H) : rIxX K (.ref p) (.str "left") H Q := go_xKs hp rfl h
theorem go_xNum (hp : H p = some (.dK (drawL c a l n d))) (h : Q (.int n) H) : rIxX K (.ref p) (.str "number") H Q := go_xKs hp rfl h
theorem go_xDig (hp : H p = some (.dK (drawL c a l n d))) (h : Q (.bl d) H) : rIxX K (.ref p) (.str "digits") H Q := go_xKs hp rfl h
theorem go_sAt (hp : H p = some (.dK (drawL c a l n d))) (h : QH (upd H p (.dK (drawL c v l n d)))) : rSetX (.ref p) (.str "at") (.int v) H QH := go_sKs hp (szl (Nat.le_of_ble_eq_true rfl)) h
theorem go_sLeft (hp : H p = some (.dK (drawL c a l n d))) (h : QH (upd H p (.dK (drawL c a v n d)))) : rSetX (.ref p) (.str "left") (.int v) H QH := go_sKs hp (szl (Nat.le_of_ble_eq_true rfl)) h
theorem go_sNum (hp : H p = some (.dK (drawL c a l n d))) (h : QH (upd H p (.dK (drawL c a l v d)))) : rSetX (.ref p) (.str "number") (.int v) H QH := go_sKs hp (szl (Nat.le_of_ble_eq_true rfl)) h
end
local macro_rules | `(tactic| walk_at "1") => `(tactic| first
  | ((with_reducible refine' go_xCells ?a ?_); (case a => walk_at "obj"))
  | ((with_reducible refine' go_xAt ?a ?_); (case a => walk_at "obj"))
  | ((with_reducible refine' go_xLeft ?a ?_); (case a => walk_at "obj"))
  | ((with_reducible refine' go_xNum ?a ?_); (case a => walk_at "obj"))
  | ((with_reducible refine' go_xDig ?a ?_); (case a => walk_at "obj"))
  | ((with_reducible refine' go_sAt ?a ?_); (case a => walk_at "obj"))
  | ((with_reducible refine' go_sLeft ?a ?_); (case a => walk_at "obj"))
  | ((with_reducible refine' go_sNum ?a ?_); (case a => walk_at "obj")))
theorem cells_at {ns : List Int} (h : 0 < ns.length) (k : Int) : ∃ z, atI (ns.map V.int) (k % (ns.length : Int)) = some (.int z) := by
  obtain ⟨v, e, m⟩ := at_some (xs := ns.map V.int) (r := k % (ns.length : Int)) (Int.emod_nonneg _ (by omega)) (by rw [List.length_map]; exact Int.emod_lt_of_pos _ (by omega))
  obtain ⟨z, _, rfl⟩ := List.mem_map.mp m
  exact ⟨z, e⟩


structure DrawD where
  (p c : Addr) (ns : List Int) (at_ left num : Int) (dig : Bool)
def drawC (d : DrawD) : Cells := [(d.p, .dK (drawL d.c d.at_ d.left d.num d.dig)), (d.c, .lst (d.ns.map V.int))]
structure DrawD.Ok (d : DrawD) (n : Int) : Prop where
  l0 : 0 < d.ns.length
  l1 : d.ns.length ≤ 100
  a0 : 0 ≤ d.at_
  a1 : d.at_ ≤ n
theorem DrawD.Ok.le {d : DrawD} {n m : Int} (h : d.Ok n) (k : n ≤ m) : d.Ok m := ⟨h.l0, h.l1, h.a0, Int.le_trans h.a1 k⟩

/-! ### _law_drawn -/
abbrev s__law_drawn : Stmt := top 10
abbrev N__law_drawn : List Str := ["_law_script", "_law_cells"]
theorem sc__law_drawn : FnScope N__law_drawn ["_law_script"] (defScope s__law_drawn) := ⟨rfl, rfl, rfl, by decide +kernel, rfl, by decide +kernel, by decide +kernel⟩
def pr__law_drawn (K : PySem.W.Frag) : V → Hp → VK → XK → Prop := fun a0 H Q E => ∃ (a : Addr) (ns : List Int), a0 = .ref a ∧ SqL K H a (ns.map V.int) ∧ ns.length ≤ 63 ∧ ∀ (d : DrawD) (H' : Hp), d.Ok 0 → Ext [] (drawC d) H H' → Q (.ref d.p) H' 
abbrev sp__law_drawn (K : PySem.W.Frag) : Sp := Sp1 (pr__law_drawn K)
theorem ok__law_drawn {P : Program} {w : World} {K : PySem.W.Frag} {mg : Str → Option Value} {base : Heap} {f : Addr} {fd : FuncData} (F : FunD K "_law_drawn" "_law_drawn" (defArgs s__law_drawn) (defBody s__law_drawn) (defScope s__law_drawn) [] [] f fd) (T : Txt K mg)  : FnOk P w K mg base CX0 1 f fd ["_law_script"] (sp__law_drawn K) := by
  refine F.ok sc__law_drawn (fun vs H Q E h => len1 h) (fun cdv A outer s H vs Q E hr h => ?_)
  obtain ⟨a0, rfl, h⟩ := h
  have hu := hu_of hr
  refine ⟨_, PSs.nox ((pss_cons (ps_set (i := 1) sc__law_drawn.nd rfl (by first | exact Or.inl rfl | exact Or.inr rfl) (pe_op op_addX (pe_callTy call_listO (by rfl) T.b_list L2.A.boot_list (pa_cons (pv 0) pa_nil)) (pe_op op_mulX (pe_lst (pa_cons pe_int pa_nil)) (pe_callTy call_intX (by rfl) T.b_int L2.A.boot_int (pa_cons (pe_cmpR (op_eqX hr.units) (pv 0) (pe_lst pa_nil) (nomark _)) pa_nil)))))
      (pss_one (ps_ret (pe_disp (pps_cons pe_str (pv 1) (pps_cons pe_str pe_int (pps_cons pe_str pe_int (pps_cons pe_str (pe_op op_fdiv (pe_ix (ix_X hu) (pv 1) pe_int (fun _ _ => rfl)) pe_int) (pps_cons pe_str (pe_cmpR (op_eqX hr.units) (pe_op op_mod (pe_ix (ix_X hu) (pv 1) pe_int (fun _ _ => rfl)) pe_int) pe_int (nomark _)) pps_nil))))) (by rfl) (by rfl) (fun z => by cases z) (by decide)))))), ?_⟩
  refine go_start (σ := [some a0, none]) rfl ?_
  try dsimp only [cxOf, Cx.nox, Cx.wish, Cx.tr, Cx.suite]
  obtain ⟨a, ns, rfl, hS, hn, hq⟩ := h
  walk_at "*"
  refine go_listL hS fun l hl => ?_
  walk_at "*"
  intro z hz
  walk_at "*"
  intro e he
  walk_at "*"
  refine go_eqL (seqL_same hS (by walk_at "same")) (.of upd_same) (ints_ok ns) rfl ?_
  cases ns with
  | nil =>
    walk_at "*"
    refine go_mulL (xs := [.int 0]) (ge2 upd_same (by walk_at "same")) (show (0 : Int) ≤ 1 ∧ (1 : Int) ≤ 1000 by omega) (by decide) ?_
    intro f hf
    walk_at "*"
    refine go_addL (ge2 upd_same (by walk_at "same")) upd_same (szl (Nat.le_of_ble_eq_true rfl)) ?_
    refine go_newS (H0 := H) (by walk_at "same") fun q H1 nq sq eq => ?_
    replace eq : H1 q = some (.lst ([0].map V.int)) := eq
    walk_at "*"
    intro d hd
    walk_at "*"
    simp only [upd_upd]
    exact hq ⟨d, q, [0], 0, 60, _, _⟩ _ ⟨by show 0 < 1; decide, by show 1 ≤ 100; decide, by show (0 : Int) ≤ 0; decide, by show (0 : Int) ≤ 0; decide⟩ (((Ext.refl Lay.nil).add nq sq eq rfl).addU hd rfl)
  | cons x xs =>
    walk_at "*"
    refine go_mulL (xs := [.int 0]) (ge2 upd_same (by walk_at "same")) (show (0 : Int) ≤ 0 ∧ (0 : Int) ≤ 1000 by omega) (by decide) ?_
    intro f hf
    walk_at "*"
    refine go_addL (ge2 upd_same (by walk_at "same")) upd_same (szl (by rw [List.length_map]; show (x :: xs).length + 0 ≤ _; omega)) ?_
    refine go_newS (H0 := H) (by walk_at "same") fun q H1 nq sq eq => ?_
    replace eq : H1 q = some (.lst ((x :: xs).map V.int)) := by rw [eq]; exact congrArg (fun z => some (HO.lst z)) (List.append_nil _)
    walk_at "*"
    intro d hd
    walk_at "*"
    refine go_xL (v := .int x) (.of (ge2 eq (by walk_at "same"))) (by simp [atI, ixN]) ?_
    walk_at "*"
    refine go_xL (v := .int x) (.of (ge2 eq (by walk_at "same"))) (by simp [atI, ixN]) ?_
    walk_at "*"
    simp only [upd_upd]
    exact hq ⟨d, q, x :: xs, 0, 60, _, _⟩ _ ⟨by simp, by show (x :: xs).length ≤ 100; omega, by show (0 : Int) ≤ 0; omega, by show (0 : Int) ≤ 0; omega⟩ (((Ext.refl Lay.nil).add nq sq eq rfl).addU hd rfl)
/-! ### _law_pick -/
abbrev s__law_pick : Stmt := top 11
abbrev N__law_pick : List Str := ["_law_draw", "_law_many", "_law_cells", "_law_k", "_law_m", "_law_value"]
theorem sc__law_pick : FnScope N__law_pick ["_law_draw", "_law_many"] (defScope s__law_pick) := ⟨rfl, rfl, rfl, by decide +kernel, rfl, by decide +kernel, by decide +kernel⟩
def pr__law_pick (K : PySem.W.Frag) : V → V → Hp → VK → XK → Prop := fun a0 a1 H Q E => ∃ (d : DrawD) (n m : Int), a0 = .ref d.p ∧ a1 = .int m ∧ Lay (drawC d) H ∧ d.Ok n ∧ n ≤ 9000 ∧ 1 ≤ m ∧ m < 1073741824 ∧ ∀ (r : Int) (d' : DrawD) (H' : Hp), 0 ≤ r → r < m → d'.p = d.p → d'.Ok (n + 1) → Ext (drawC d) (drawC d') H H' → Q (.int r) H' 
abbrev sp__law_pick (K : PySem.W.Frag) : Sp := Sp2 (pr__law_pick K)
theorem ok__law_pick {P : Program} {w : World} {K : PySem.W.Frag} {mg : Str → Option Value} {base : Heap} {f : Addr} {fd : FuncData} (F : FunD K "_law_pick" "_law_pick" (defArgs s__law_pick) (defBody s__law_pick) (defScope s__law_pick) [] [] f fd) (T : Txt K mg)  : FnOk P w K mg base CX0 1 f fd ["_law_draw", "_law_many"] (sp__law_pick K) := by
  refine F.ok sc__law_pick (fun vs H Q E h => len2 h) (fun cdv A outer s H vs Q E hr h => ?_)
  obtain ⟨a0, a1, rfl, h⟩ := h
  have hu := hu_of hr
  refine ⟨_, PSs.nox ((pss_cons (ps_set (i := 2) sc__law_pick.nd rfl (by first | exact Or.inl rfl | exact Or.inr rfl) (pe_ix (ix_X hu) (pv 0) pe_str (fun _ _ => rfl)))
      (pss_cons (ps_if (pt_truX (pe_ix (ix_X hu) (pv 0) pe_str (fun _ _ => rfl))) (pss_cons (ps_set (i := 5) sc__law_pick.nd rfl (by first | exact Or.inl rfl | exact Or.inr rfl) (pe_op op_mod (pe_ix (ix_X hu) (pv 0) pe_str (fun _ _ => rfl)) (pv 1)))
      (pss_cons (ps_asg (pe_op op_fdiv (pe_ix (ix_X hu) (pv 0) pe_str (fun _ _ => rfl)) (pv 1)) (pg_sub (pv 0) pe_str (set_X hu)))
      (pss_cons (ps_asg (pe_op op_sub (pe_ix (ix_X hu) (pv 0) pe_str (fun _ _ => rfl)) pe_int) (pg_sub (pv 0) pe_str (set_X hu)))
      (pss_cons (ps_if (pt_cmpR (op_eqX hr.units) (pe_ix (ix_X hu) (pv 0) pe_str (fun _ _ => rfl)) pe_int (nomark _)) (pss_cons (ps_asg (pe_op op_addX (pe_ix (ix_X hu) (pv 0) pe_str (fun _ _ => rfl)) pe_int) (pg_sub (pv 0) pe_str (set_X hu)))
      (pss_cons (ps_asg (pe_ix (ix_X hu) (pv 2) (pe_op op_mod (pe_ix (ix_X hu) (pv 0) pe_str (fun _ _ => rfl)) (pe_callB call_lenX (by rfl) T.b_len L2.A.boot_len (pa_cons (pv 2) pa_nil))) (fun _ _ => rfl)) (pg_sub (pv 0) pe_str (set_X hu)))
      (pss_one (ps_asg pe_int (pg_sub (pv 0) pe_str (set_X hu)))))) pss_nil)
      (pss_one (ps_ret (pv 5))))))) pss_nil)
      (pss_cons (ps_asg (pe_op op_addX (pe_ix (ix_X hu) (pv 0) pe_str (fun _ _ => rfl)) pe_int) (pg_sub (pv 0) pe_str (set_X hu)))
      (pss_cons (ps_set (i := 3) sc__law_pick.nd rfl (by first | exact Or.inl rfl | exact Or.inr rfl) (pe_ix (ix_X hu) (pv 0) pe_str (fun _ _ => rfl)))
      (pss_cons (ps_set (i := 4) sc__law_pick.nd rfl (by first | exact Or.inl rfl | exact Or.inr rfl) (pe_op op_mod (pe_op op_mulX (pe_op op_addX (pe_op op_addX (pe_op op_mod (pe_ix (ix_X hu) (pv 2) (pe_op op_mod (pv 3) (pe_callB call_lenX (by rfl) T.b_len L2.A.boot_len (pa_cons (pv 2) pa_nil))) (fun _ _ => rfl)) pe_int) (pe_op op_mulX (pe_op op_mulX (pv 3) (pv 3)) pe_int)) pe_int) pe_int) pe_int))
      (pss_cons (ps_set (i := 4) sc__law_pick.nd rfl (by first | exact Or.inl rfl | exact Or.inr rfl) (pe_op op_mod (pe_op op_mulX (pv 4) (pv 4)) pe_int))
      (pss_one (ps_ret (pe_op op_mod (pe_op op_fdiv (pv 4) pe_int) (pv 1))))))))))), ?_⟩
  refine go_start (σ := [some a0, some a1, none, none, none, none]) rfl ?_
  try dsimp only [cxOf, Cx.nox, Cx.wish, Cx.tr, Cx.suite]
  obtain ⟨⟨p, c, ns, a, l, num, d⟩, n, m, rfl, rfl, hL, ⟨r1, r2, r3, r4⟩, hn, hm1, hm2, hq⟩ := h
  dsimp only at r1 r2 r3 r4 hq ⊢
  have e1 : H p = some (.dK (drawL c a l num d)) := hL.get (.head _)
  have e2 : H c = some (.lst (ns.map V.int)) := hL.get (.tail _ (.head _))
  have pc : c ≠ p := fun z => by rw [z, e1] at e2; cases e2
  walk_at "*"
  refine if2 (fun cd => ?_) (fun cd => ?_)
  · walk_at "*"
    refine if2 (fun cl => ?_) (fun cl => ?_)
    · obtain ⟨z, ez⟩ := cells_at r1 (a + 1)
      walk_at "*"
      refine go_lenL (.of (by rw [upd_ne pc]; rw [upd_ne pc]; rw [upd_ne pc]; exact e2)) ?_
      rw [List.length_map]
      walk_at "*"
      refine go_xL (.of (by rw [upd_ne pc]; rw [upd_ne pc]; rw [upd_ne pc]; exact e2)) ez ?_
      walk_at "*"
      simp only [upd_upd]
      exact hq _ ⟨p, c, ns, _, _, _, _⟩ _ (Int.emod_nonneg _ (by omega)) (Int.emod_lt_of_pos _ (by omega)) rfl ⟨r1, r2, by dsimp only; omega, by dsimp only; omega⟩ ((Ext.refl hL).put pc_here rfl)
    · walk_at "*"
      rw [upd_upd]
      exact hq _ ⟨p, c, ns, _, _, _, _⟩ _ (Int.emod_nonneg _ (by omega)) (Int.emod_lt_of_pos _ (by omega)) rfl ⟨r1, r2, by dsimp only; omega, by dsimp only; omega⟩ ((Ext.refl hL).put pc_here rfl)
  · obtain ⟨z, ez⟩ := cells_at r1 (a + 1)
    walk_at "*"
    refine go_lenL (.of (by rw [upd_ne pc]; exact e2)) ?_
    rw [List.length_map]
    walk_at "*"
    refine go_xL (.of (by rw [upd_ne pc]; exact e2)) ez ?_
    walk_at "*"
    exact hq _ ⟨p, c, ns, _, _, _, _⟩ _ (Int.emod_nonneg _ (by omega)) (Int.emod_lt_of_pos _ (by omega)) rfl ⟨r1, r2, by dsimp only; omega, by dsimp only; omega⟩ ((Ext.refl hL).put pc_here rfl)

/-- small letters -/
def LowL (cs : List Nat) : Prop := ∀ c ∈ cs, 97 ≤ c ∧ c ≤ 122
theorem low_ok {cs : List Nat} (h : LowL cs) : okV (.str ⟨cs.toArray⟩) = true := by
  show (Array.all _ _ : Bool) = true
  rw [Array.all_eq_true]
  intro i hi
  have m := h cs[i] (List.getElem_mem _)
  exact decide_eq_true (show cs[i] < 0x110000 by omega)
theorem abc_low : ∀ c ∈ ("abcdefghijklmnopqrstuvwxyz" : Str).cps.toList, 97 ≤ c ∧ c ≤ 122 := by decide +kernel

/-! ### _law_letters -/
abbrev s__law_letters : Stmt := top 12
abbrev N__law_letters : List Str := ["_law_draw", "_law_many", "_law_k"]
theorem sc__law_letters : FnScope N__law_letters ["_law_draw", "_law_many"] (defScope s__law_letters) := ⟨rfl, rfl, rfl, by decide +kernel, rfl, by decide +kernel, by decide +kernel⟩
def pr__law_letters (K : PySem.W.Frag) : V → V → Hp → VK → XK → Prop := fun a0 a1 H Q E => ∃ (d : DrawD) (n : Int) (m : Nat), a0 = .ref d.p ∧ a1 = .int (m : Int) ∧ Lay (drawC d) H ∧ d.Ok n ∧ n ≤ 8000 ∧ m ≤ 100 ∧ ∀ (cs : List Nat) (d' : DrawD) (H' : Hp), cs.length = m → LowL cs → d'.p = d.p → d'.Ok (n + m) → Ext (drawC d) (drawC d') H H' → Q (.str ⟨cs.toArray⟩) H' 
abbrev sp__law_letters (K : PySem.W.Frag) : Sp := Sp2 (pr__law_letters K)
theorem ok__law_letters {P : Program} {w : World} {K : PySem.W.Frag} {mg : Str → Option Value} {base : Heap} {f : Addr} {fd : FuncData} (F : FunD K "_law_letters" "_law_letters" (defArgs s__law_letters) (defBody s__law_letters) (defScope s__law_letters) [] [] f fd) (T : Txt K mg) (d__law_pick : Dn P w K mg base CX0 1 "_law_pick" ["_law_draw", "_law_many"] [] (sp__law_pick K)) : FnOk P w K mg base CX0 2 f fd ["_law_draw", "_law_many"] (sp__law_letters K) := by
  refine F.ok sc__law_letters (fun vs H Q E h => len2 h) (fun cdv A outer s H vs Q E hr h => ?_)
  obtain ⟨a0, a1, rfl, h⟩ := h
  have hu := hu_of hr
  refine ⟨_, PSs.nox ((pss_one (ps_ret (pe_bm PySem.F.plainAttrs_str PySem.F.slot_str_join PySem.F.type_str_join mt_join pe_str (pa_cons (pe_lc (own := [("_law_k", 2)]) rfl sc__law_letters.nd (pi_range1 rfl T.b_range (pa_cons (pv 1) pa_nil)) (blkOk_by (N := N__law_letters) (sc := defScope s__law_letters) (own := [("_law_k", 2)]) (by decide +kernel)) (fun _ _ _ _ _ => (pg_name (i := 2) sc__law_letters.nd rfl (by first | exact Or.inl rfl | exact Or.inr rfl))) (fun _ _ _ _ _ => pts_nil) (fun _ _ _ _ _ => (pe_ix (ix_K (K := K) rfl hu) pe_str (pe_d d__law_pick (hr.mono (by decide)) rfl pass0 (pa_cons (pv 0) (pa_cons pe_int pa_nil))) (fun _ _ => rfl)))) pa_nil))))), ?_⟩
  refine go_start (σ := [some a0, some a1, none]) rfl ?_
  try dsimp only [cxOf, Cx.nox, Cx.wish, Cx.tr, Cx.suite]
  obtain ⟨d0, n, m, rfl, rfl, hL, dr, hn, hm, hq⟩ := h
  walk_at "*"
  refine LcW.it walk_range (fun D i ys H' => ∃ (zs : List Nat) (d : DrawD), ys = (zs.map fun k => (⟨#[k]⟩ : Str)).map V.str ∧ LowL zs ∧ zs.length = i ∧ d.p = d0.p ∧ d.Ok (n + i) ∧ Ext (drawC d0) ((D, .lst ys) :: drawC d) H H') (by omega) (fun D hD => ⟨[], d0, rfl, fun _ z => (by cases z), rfl, rfl, dr.le (by omega), (Ext.refl hL).addU hD rfl⟩) (fun _ _ _ _ _ _ _ _ => trivial) ?_ ?_
  · rintro D i x ys H1 H2 hD hi hl e ⟨zs, d, rfl, z1, zl, dp, dk, x1⟩ ⟨rfl, rfl⟩ yes no hy hn
    refine go_name rfl ⟨rfl, ?_⟩
    walk_at "*"
    refine go_sp2 ⟨d, _, _, by rw [dp], rfl, x1.lay.pull (pm_cons pm_all), dk, by omega, by omega, by omega, fun r d' H3 r0 r1 dp' dk' x2 => ?_⟩
    obtain ⟨s, es, ms⟩ := sign_some (z := "abcdefghijklmnopqrstuvwxyz") r0 (by exact r1)
    walk_at "*"
    refine go_xS (szl (Nat.le_of_ble_eq_true rfl)) es ?_
    have x3 := x1.call (pm_cons pm_all) x2
    refine hy _ _ (x3.lay.get (List.mem_append_right _ (.head _))) ⟨zs ++ [s], d', by rw [List.map_append, List.map_append]; rfl, ?_, by rw [List.length_append, zl]; rfl, dp'.trans dp, dk'.le (by omega), ?_⟩
    · intro z mz
      rcases List.mem_append.mp mz with mz | mz
      · exact z1 z mz
      · obtain rfl := List.mem_singleton.mp mz
        exact abc_low _ ms
    · exact (x3.put (pc_app pc_here) rfl).perm (by rw [List.append_nil])
  rintro D ys H1 hD e hl ⟨zs, d, rfl, z1, zl, dp, dk, x1⟩
  rw [Int.toNat_natCast] at zl dk
  walk_at "*"
  refine go_joinL (.of e) ?_ ?_
  · rw [show (zs.map fun k => (⟨#[k]⟩ : Str)).map (·.length) = List.replicate zs.length 1 by
      rw [List.map_map]
      apply List.eq_replicate_iff.mpr
      exact ⟨List.length_map .., fun b mb => by obtain ⟨z, mz, rfl⟩ := List.mem_map.mp mb; rfl⟩, List.sum_replicate_nat, show ("" : Str).length = 0 from rfl]
    omega
  rw [TL.join_eq, show ("" : Str) = ⟨#[]⟩ from rfl, PyProof.Rows.join_ones]
  exact hq zs d _ zl z1 dp (dk.le (by omega)) (x1.drop (pm_cons pm_all))
/-! ### BadRow.__init__ -/
abbrev s_BadRow_init : Stmt := inClass (top 2) 0
abbrev N_BadRow_init : List Str := ["self", "words", "place"]
theorem sc_BadRow_init : FnScope N_BadRow_init ["self", "words", "place"] (defScope s_BadRow_init) := ⟨rfl, rfl, rfl, by decide +kernel, rfl, by decide +kernel, by decide +kernel⟩
def pr_BadRow_init (K : PySem.W.Frag) : V → V → V → Hp → VK → XK → Prop := fun a0 a1 a2 H Q E => IniW (He.ga K "BadRow") [("place", a2)] a0 H Q
abbrev sp_BadRow_init (K : PySem.W.Frag) : Sp := Sp3 (pr_BadRow_init K)
theorem ok_BadRow_init {P : Program} {w : World} {K : PySem.W.Frag} {mg : Str → Option Value} {base : Heap} {f : Addr} {fd : FuncData} (F : FunD K "__init__" "BadRow.__init__" (defArgs s_BadRow_init) (defBody s_BadRow_init) (defScope s_BadRow_init) [] [] f fd) (T : Txt K mg)  : FnOk P w K mg base CX0 1 f fd ["self", "words", "place"] (sp_BadRow_init K) := by
  refine F.ok sc_BadRow_init (fun vs H Q E h => len3 h) (fun cdv A outer s H vs Q E hr h => ?_)
  obtain ⟨a0, a1, a2, rfl, h⟩ := h
  have hu := hu_of hr
  refine ⟨_, PSs.nox ((pss_cons (ps_expr (pe_binit rfl T.c_BookError T.bi_BookError (pa_cons (pv 0) (pa_cons (pv 1) pa_nil))))
      (pss_one (ps_ost (pv 0) (pv 2))))), ?_⟩
  have nf_BadRow_place := T.nf_BadRow_place
  refine go_start (σ := [some a0, some a1, some a2]) rfl ?_
  try dsimp only [cxOf, Cx.nox, Cx.wish, Cx.tr, Cx.suite]
  obtain ⟨a, rfl, ha, hq⟩ := h
  walk_at "*"
  refine go_veIW T.oex_BadRow ha rfl ?_
  walk_at "*"
  refine go_ost1 T.oex_BadRow T.nf_BadRow_place ha fun d H1 hd k1 e1 e2 => ?_
  walk_at "*"
  exact hq d _ hd k1 e1 e2
theorem rz_BadRow_2 {K : PySem.W.Frag} {v1 v2 : V} {H1 : Hp} {Q : XK} (h : ∀ d H', H1 d = none → Same H1 H' → H' d = some (.xd [("place", v2)]) → Q (.ref (He.ga K "BadRow")) (some d) H') : MkOW (He.ga K "BadRow") (sp_BadRow_init K) [] [v1, v2] H1 Q := go_mkOW _ rfl (fun a H Q h => ⟨_, _, _, rfl, h⟩) h
/-! ### Misplaced.__init__ -/
abbrev s_Misplaced_init : Stmt := inClass (top 3) 0
abbrev N_Misplaced_init : List Str := ["self", "words", "place"]
theorem sc_Misplaced_init : FnScope N_Misplaced_init ["self", "words", "place"] (defScope s_Misplaced_init) := ⟨rfl, rfl, rfl, by decide +kernel, rfl, by decide +kernel, by decide +kernel⟩
def pr_Misplaced_init (K : PySem.W.Frag) : V → V → V → Hp → VK → XK → Prop := fun a0 a1 a2 H Q E => IniW (He.ga K "Misplaced") [("place", a2)] a0 H Q
abbrev sp_Misplaced_init (K : PySem.W.Frag) : Sp := Sp3 (pr_Misplaced_init K)
theorem ok_Misplaced_init {P : Program} {w : World} {K : PySem.W.Frag} {mg : Str → Option Value} {base : Heap} {f : Addr} {fd : FuncData} (F : FunD K "__init__" "Misplaced.__init__" (defArgs s_Misplaced_init) (defBody s_Misplaced_init) (defScope s_Misplaced_init) [] [] f fd) (T : Txt K mg)  : FnOk P w K mg base CX0 1 f fd ["self", "words", "place"] (sp_Misplaced_init K) := by
  refine F.ok sc_Misplaced_init (fun vs H Q E h => len3 h) (fun cdv A outer s H vs Q E hr h => ?_)
  obtain ⟨a0, a1, a2, rfl, h⟩ := h
  have hu := hu_of hr
  refine ⟨_, PSs.nox ((pss_cons (ps_expr (pe_binit rfl T.c_BookError T.bi_BookError (pa_cons (pv 0) (pa_cons (pv 1) pa_nil))))
      (pss_one (ps_ost (pv 0) (pv 2))))), ?_⟩
  have nf_Misplaced_place := T.nf_Misplaced_place
  refine go_start (σ := [some a0, some a1, some a2]) rfl ?_
  try dsimp only [cxOf, Cx.nox, Cx.wish, Cx.tr, Cx.suite]
  obtain ⟨a, rfl, ha, hq⟩ := h
  walk_at "*"
  refine go_veIW T.oex_Misplaced ha rfl ?_
  walk_at "*"
  refine go_ost1 T.oex_Misplaced T.nf_Misplaced_place ha fun d H1 hd k1 e1 e2 => ?_
  walk_at "*"
  exact hq d _ hd k1 e1 e2
theorem rz_Misplaced_2 {K : PySem.W.Frag} {v1 v2 : V} {H1 : Hp} {Q : XK} (h : ∀ d H', H1 d = none → Same H1 H' → H' d = some (.xd [("place", v2)]) → Q (.ref (He.ga K "Misplaced")) (some d) H') : MkOW (He.ga K "Misplaced") (sp_Misplaced_init K) [] [v1, v2] H1 Q := go_mkOW _ rfl (fun a H Q h => ⟨_, _, _, rfl, h⟩) h
/-! ### Twice.__init__ -/
abbrev s_Twice_init : Stmt := inClass (top 4) 0
abbrev N_Twice_init : List Str := ["self", "words", "place"]
theorem sc_Twice_init : FnScope N_Twice_init ["self", "words", "place"] (defScope s_Twice_init) := ⟨rfl, rfl, rfl, by decide +kernel, rfl, by decide +kernel, by decide +kernel⟩
def pr_Twice_init (K : PySem.W.Frag) : V → V → V → Hp → VK → XK → Prop := fun a0 a1 a2 H Q E => IniW (He.ga K "Twice") [("place", a2)] a0 H Q
abbrev sp_Twice_init (K : PySem.W.Frag) : Sp := Sp3 (pr_Twice_init K)
theorem ok_Twice_init {P : Program} {w : World} {K : PySem.W.Frag} {mg : Str → Option Value} {base : Heap} {f : Addr} {fd : FuncData} (F : FunD K "__init__" "Twice.__init__" (defArgs s_Twice_init) (defBody s_Twice_init) (defScope s_Twice_init) [] [] f fd) (T : Txt K mg)  : FnOk P w K mg base CX0 1 f fd ["self", "words", "place"] (sp_Twice_init K) := by
  refine F.ok sc_Twice_init (fun vs H Q E h => len3 h) (fun cdv A outer s H vs Q E hr h => ?_)
  obtain ⟨a0, a1, a2, rfl, h⟩ := h
  have hu := hu_of hr
  refine ⟨_, PSs.nox ((pss_cons (ps_expr (pe_binit rfl T.c_BookError T.bi_BookError (pa_cons (pv 0) (pa_cons (pv 1) pa_nil))))
      (pss_one (ps_ost (pv 0) (pv 2))))), ?_⟩
  have nf_Twice_place := T.nf_Twice_place
  refine go_start (σ := [some a0, some a1, some a2]) rfl ?_
  try dsimp only [cxOf, Cx.nox, Cx.wish, Cx.tr, Cx.suite]
  obtain ⟨a, rfl, ha, hq⟩ := h
  walk_at "*"
  refine go_veIW T.oex_Twice ha rfl ?_
  walk_at "*"
  refine go_ost1 T.oex_Twice T.nf_Twice_place ha fun d H1 hd k1 e1 e2 => ?_
  walk_at "*"
  exact hq d _ hd k1 e1 e2
theorem rz_Twice_2 {K : PySem.W.Frag} {v1 v2 : V} {H1 : Hp} {Q : XK} (h : ∀ d H', H1 d = none → Same H1 H' → H' d = some (.xd [("place", v2)]) → Q (.ref (He.ga K "Twice")) (some d) H') : MkOW (He.ga K "Twice") (sp_Twice_init K) [] [v1, v2] H1 Q := go_mkOW _ rfl (fun a H Q h => ⟨_, _, _, rfl, h⟩) h
/-! ### Unfinished.__init__ -/
abbrev s_Unfinished_init : Stmt := inClass (top 5) 0
abbrev N_Unfinished_init : List Str := ["self", "words", "place"]
theorem sc_Unfinished_init : FnScope N_Unfinished_init ["self", "words", "place"] (defScope s_Unfinished_init) := ⟨rfl, rfl, rfl, by decide +kernel, rfl, by decide +kernel, by decide +kernel⟩
def pr_Unfinished_init (K : PySem.W.Frag) : V → V → V → Hp → VK → XK → Prop := fun a0 a1 a2 H Q E => IniW (He.ga K "Unfinished") [("place", a2)] a0 H Q
abbrev sp_Unfinished_init (K : PySem.W.Frag) : Sp := Sp3 (pr_Unfinished_init K)
theorem ok_Unfinished_init {P : Program} {w : World} {K : PySem.W.Frag} {mg : Str → Option Value} {base : Heap} {f : Addr} {fd : FuncData} (F : FunD K "__init__" "Unfinished.__init__" (defArgs s_Unfinished_init) (defBody s_Unfinished_init) (defScope s_Unfinished_init) [] [] f fd) (T : Txt K mg)  : FnOk P w K mg base CX0 1 f fd ["self", "words", "place"] (sp_Unfinished_init K) := by
  refine F.ok sc_Unfinished_init (fun vs H Q E h => len3 h) (fun cdv A outer s H vs Q E hr h => ?_)
  obtain ⟨a0, a1, a2, rfl, h⟩ := h
  have hu := hu_of hr
  refine ⟨_, PSs.nox ((pss_cons (ps_expr (pe_binit rfl T.c_BookError T.bi_BookError (pa_cons (pv 0) (pa_cons (pv 1) pa_nil))))
      (pss_one (ps_ost (pv 0) (pv 2))))), ?_⟩
  have nf_Unfinished_place := T.nf_Unfinished_place
  refine go_start (σ := [some a0, some a1, some a2]) rfl ?_
  try dsimp only [cxOf, Cx.nox, Cx.wish, Cx.tr, Cx.suite]
  obtain ⟨a, rfl, ha, hq⟩ := h
  walk_at "*"
  refine go_veIW T.oex_Unfinished ha rfl ?_
  walk_at "*"
  refine go_ost1 T.oex_Unfinished T.nf_Unfinished_place ha fun d H1 hd k1 e1 e2 => ?_
  walk_at "*"
  exact hq d _ hd k1 e1 e2
theorem rz_Unfinished_2 {K : PySem.W.Frag} {v1 v2 : V} {H1 : Hp} {Q : XK} (h : ∀ d H', H1 d = none → Same H1 H' → H' d = some (.xd [("place", v2)]) → Q (.ref (He.ga K "Unfinished")) (some d) H') : MkOW (He.ga K "Unfinished") (sp_Unfinished_init K) [] [v1, v2] H1 Q := go_mkOW _ rfl (fun a H Q h => ⟨_, _, _, rfl, h⟩) h
/-! ### Falling.__init__ -/
abbrev s_Falling_init : Stmt := inClass (top 6) 0
abbrev N_Falling_init : List Str := ["self", "words", "place"]
theorem sc_Falling_init : FnScope N_Falling_init ["self", "words", "place"] (defScope s_Falling_init) := ⟨rfl, rfl, rfl, by decide +kernel, rfl, by decide +kernel, by decide +kernel⟩
def pr_Falling_init (K : PySem.W.Frag) : V → V → V → Hp → VK → XK → Prop := fun a0 a1 a2 H Q E => IniW (He.ga K "Falling") [("place", a2)] a0 H Q
abbrev sp_Falling_init (K : PySem.W.Frag) : Sp := Sp3 (pr_Falling_init K)
theorem ok_Falling_init {P : Program} {w : World} {K : PySem.W.Frag} {mg : Str → Option Value} {base : Heap} {f : Addr} {fd : FuncData} (F : FunD K "__init__" "Falling.__init__" (defArgs s_Falling_init) (defBody s_Falling_init) (defScope s_Falling_init) [] [] f fd) (T : Txt K mg)  : FnOk P w K mg base CX0 1 f fd ["self", "words", "place"] (sp_Falling_init K) := by
  refine F.ok sc_Falling_init (fun vs H Q E h => len3 h) (fun cdv A outer s H vs Q E hr h => ?_)
  obtain ⟨a0, a1, a2, rfl, h⟩ := h
  have hu := hu_of hr
  refine ⟨_, PSs.nox ((pss_cons (ps_expr (pe_binit rfl T.c_BookError T.bi_BookError (pa_cons (pv 0) (pa_cons (pv 1) pa_nil))))
      (pss_one (ps_ost (pv 0) (pv 2))))), ?_⟩
  have nf_Falling_place := T.nf_Falling_place
  refine go_start (σ := [some a0, some a1, some a2]) rfl ?_
  try dsimp only [cxOf, Cx.nox, Cx.wish, Cx.tr, Cx.suite]
  obtain ⟨a, rfl, ha, hq⟩ := h
  walk_at "*"
  refine go_veIW T.oex_Falling ha rfl ?_
  walk_at "*"
  refine go_ost1 T.oex_Falling T.nf_Falling_place ha fun d H1 hd k1 e1 e2 => ?_
  walk_at "*"
  exact hq d _ hd k1 e1 e2
theorem rz_Falling_2 {K : PySem.W.Frag} {v1 v2 : V} {H1 : Hp} {Q : XK} (h : ∀ d H', H1 d = none → Same H1 H' → H' d = some (.xd [("place", v2)]) → Q (.ref (He.ga K "Falling")) (some d) H') : MkOW (He.ga K "Falling") (sp_Falling_init K) [] [v1, v2] H1 Q := go_mkOW _ rfl (fun a H Q h => ⟨_, _, _, rfl, h⟩) h
/-! ### NotLet.__init__ -/
abbrev s_NotLet_init : Stmt := inClass (top 7) 0
abbrev N_NotLet_init : List Str := ["self", "words", "rule", "number"]
theorem sc_NotLet_init : FnScope N_NotLet_init ["self", "words", "rule", "number"] (defScope s_NotLet_init) := ⟨rfl, rfl, rfl, by decide +kernel, rfl, by decide +kernel, by decide +kernel⟩
def pr_NotLet_init (K : PySem.W.Frag) : V → V → V → V → Hp → VK → XK → Prop := fun a0 a1 a2 a3 H Q E => IniW (He.ga K "NotLet") [("number", a3), ("rule", a2)] a0 H Q
abbrev sp_NotLet_init (K : PySem.W.Frag) : Sp := Sp4 (pr_NotLet_init K)
theorem ok_NotLet_init {P : Program} {w : World} {K : PySem.W.Frag} {mg : Str → Option Value} {base : Heap} {f : Addr} {fd : FuncData} (F : FunD K "__init__" "NotLet.__init__" (defArgs s_NotLet_init) (defBody s_NotLet_init) (defScope s_NotLet_init) [V.int 0] [] f fd) (T : Txt K mg)  : FnOk P w K mg base CX0 1 f fd ["self", "words", "rule", "number"] (sp_NotLet_init K) := by
  refine F.ok sc_NotLet_init (fun vs H Q E h => len4 h) (fun cdv A outer s H vs Q E hr h => ?_)
  obtain ⟨a0, a1, a2, a3, rfl, h⟩ := h
  have hu := hu_of hr
  refine ⟨_, PSs.nox ((pss_cons (ps_expr (pe_binit rfl T.c_BookError T.bi_BookError (pa_cons (pv 0) (pa_cons (pv 1) pa_nil))))
      (pss_cons (ps_ost (pv 0) (pv 2))
      (pss_one (ps_ost (pv 0) (pv 3)))))), ?_⟩
  have nf_NotLet_number := T.nf_NotLet_number
  have nf_NotLet_rule := T.nf_NotLet_rule
  refine go_start (σ := [some a0, some a1, some a2, some a3]) rfl ?_
  try dsimp only [cxOf, Cx.nox, Cx.wish, Cx.tr, Cx.suite]
  obtain ⟨a, rfl, ha, hq⟩ := h
  walk_at "*"
  refine go_veIW T.oex_NotLet ha rfl ?_
  walk_at "*"
  refine go_ost1 T.oex_NotLet T.nf_NotLet_rule ha fun d H1 hd k1 e1 e2 => ?_
  walk_at "*"
  refine go_ost2 T.oex_NotLet T.nf_NotLet_number e1 e2 rfl fun H2 k2 e3 e4 => ?_
  walk_at "*"
  exact hq d _ hd (fun b o e n => k2 b o (k1 b o e n) (ne_of_none e hd)) e3 e4
theorem rz_NotLet_3 {K : PySem.W.Frag} {v1 v2 v3 : V} {H1 : Hp} {Q : XK} (h : ∀ d H', H1 d = none → Same H1 H' → H' d = some (.xd [("number", v3), ("rule", v2)]) → Q (.ref (He.ga K "NotLet")) (some d) H') : MkOW (He.ga K "NotLet") (sp_NotLet_init K) [] [v1, v2, v3] H1 Q := go_mkOW _ rfl (fun a H Q h => ⟨_, _, _, _, rfl, h⟩) h
theorem rz_NotLet_2 {K : PySem.W.Frag} {v1 v2 : V} {H1 : Hp} {Q : XK} (h : ∀ d H', H1 d = none → Same H1 H' → H' d = some (.xd [("number", V.int 0), ("rule", v2)]) → Q (.ref (He.ga K "NotLet")) (some d) H') : MkOW (He.ga K "NotLet") (sp_NotLet_init K) [V.int 0] [v1, v2] H1 Q := go_mkOW _ rfl (fun a H Q h => ⟨_, _, _, _, rfl, h⟩) h
/-! ### NoEntry.__init__ -/
abbrev s_NoEntry_init : Stmt := inClass (top 8) 0
abbrev N_NoEntry_init : List Str := ["self", "words", "number"]
theorem sc_NoEntry_init : FnScope N_NoEntry_init ["self", "words", "number"] (defScope s_NoEntry_init) := ⟨rfl, rfl, rfl, by decide +kernel, rfl, by decide +kernel, by decide +kernel⟩
def pr_NoEntry_init (K : PySem.W.Frag) : V → V → V → Hp → VK → XK → Prop := fun a0 a1 a2 H Q E => IniW (He.ga K "NoEntry") [("number", a2)] a0 H Q
abbrev sp_NoEntry_init (K : PySem.W.Frag) : Sp := Sp3 (pr_NoEntry_init K)
theorem ok_NoEntry_init {P : Program} {w : World} {K : PySem.W.Frag} {mg : Str → Option Value} {base : Heap} {f : Addr} {fd : FuncData} (F : FunD K "__init__" "NoEntry.__init__" (defArgs s_NoEntry_init) (defBody s_NoEntry_init) (defScope s_NoEntry_init) [] [] f fd) (T : Txt K mg)  : FnOk P w K mg base CX0 1 f fd ["self", "words", "number"] (sp_NoEntry_init K) := by
  refine F.ok sc_NoEntry_init (fun vs H Q E h => len3 h) (fun cdv A outer s H vs Q E hr h => ?_)
  obtain ⟨a0, a1, a2, rfl, h⟩ := h
  have hu := hu_of hr
  refine ⟨_, PSs.nox ((pss_cons (ps_expr (pe_binit rfl T.c_BookError T.bi_BookError (pa_cons (pv 0) (pa_cons (pv 1) pa_nil))))
      (pss_one (ps_ost (pv 0) (pv 2))))), ?_⟩
  have nf_NoEntry_number := T.nf_NoEntry_number
  refine go_start (σ := [some a0, some a1, some a2]) rfl ?_
  try dsimp only [cxOf, Cx.nox, Cx.wish, Cx.tr, Cx.suite]
  obtain ⟨a, rfl, ha, hq⟩ := h
  walk_at "*"
  refine go_veIW T.oex_NoEntry ha rfl ?_
  walk_at "*"
  refine go_ost1 T.oex_NoEntry T.nf_NoEntry_number ha fun d H1 hd k1 e1 e2 => ?_
  walk_at "*"
  exact hq d _ hd k1 e1 e2
theorem rz_NoEntry_2 {K : PySem.W.Frag} {v1 v2 : V} {H1 : Hp} {Q : XK} (h : ∀ d H', H1 d = none → Same H1 H' → H' d = some (.xd [("number", v2)]) → Q (.ref (He.ga K "NoEntry")) (some d) H') : MkOW (He.ga K "NoEntry") (sp_NoEntry_init K) [] [v1, v2] H1 Q := go_mkOW _ rfl (fun a H Q h => ⟨_, _, _, rfl, h⟩) h
def clsN (w : Int) : Str := if w = 0 then "BadRow" else if w = 1 then "Misplaced" else if w = 2 then "Twice" else if w = 3 then "Unfinished" else if w = 4 then "Falling" else if w = 5 then "NotLet" else if w = 6 then "NoEntry" else ""
/-- an error of the class of that number -/
def Err (K : PySem.W.Frag) (H : Hp) (a dd : Addr) (w : Int) (fs : List (Str × V)) : Prop := H a = some (exq a (.ref (He.ga K (clsN w))) (some dd)) ∧ H dd = some (.xd fs)
theorem Err.same {K : PySem.W.Frag} {H H' : Hp} {a dd : Addr} {w : Int} {fs : List (Str × V)} (h : Err K H a dd w fs) (s : Same H H') : Err K H' a dd w fs := ⟨s _ _ h.1, s _ _ h.2⟩
/-! ### _law_made -/
abbrev s__law_made : Stmt := top 13
abbrev N__law_made : List Str := ["_law_which", "_law_words", "_law_place"]
theorem sc__law_made : FnScope N__law_made ["_law_which", "_law_words", "_law_place"] (defScope s__law_made) := ⟨rfl, rfl, rfl, by decide +kernel, rfl, by decide +kernel, by decide +kernel⟩
def pr__law_made (K : PySem.W.Frag) : V → V → V → Hp → VK → XK → Prop := fun a0 a1 a2 H Q E => ∃ (w n : Int) (z : Str), a0 = .int w ∧ a1 = .str z ∧ a2 = .int n ∧ 0 ≤ w ∧ w ≤ 4 ∧ ∀ (a dd : Addr) (H' : Hp), H a = none → Same H H' → Err K H' a dd w [("place", .int n)] → Q (.ref a) H' 
abbrev sp__law_made (K : PySem.W.Frag) : Sp := Sp3 (pr__law_made K)
theorem ok__law_made {P : Program} {w : World} {K : PySem.W.Frag} {mg : Str → Option Value} {base : Heap} {f : Addr} {fd : FuncData} (F : FunD K "_law_made" "_law_made" (defArgs s__law_made) (defBody s__law_made) (defScope s__law_made) [] [] f fd) (T : Txt K mg) (x_BadRow_2 : XkD P w K mg base 1 (He.ga K "BadRow") "BadRow" ["self", "words", "place"] [] (sp_BadRow_init K)) (x_Falling_2 : XkD P w K mg base 1 (He.ga K "Falling") "Falling" ["self", "words", "place"] [] (sp_Falling_init K)) (x_Misplaced_2 : XkD P w K mg base 1 (He.ga K "Misplaced") "Misplaced" ["self", "words", "place"] [] (sp_Misplaced_init K)) (x_Twice_2 : XkD P w K mg base 1 (He.ga K "Twice") "Twice" ["self", "words", "place"] [] (sp_Twice_init K)) (x_Unfinished_2 : XkD P w K mg base 1 (He.ga K "Unfinished") "Unfinished" ["self", "words", "place"] [] (sp_Unfinished_init K)) : FnOk P w K mg base CX0 3 f fd ["_law_which", "_law_words", "_law_place"] (sp__law_made K) := by
  refine F.ok sc__law_made (fun vs H Q E h => len3 h) (fun cdv A outer s H vs Q E hr h => ?_)
  obtain ⟨a0, a1, a2, rfl, h⟩ := h
  have hu := hu_of hr
  refine ⟨_, PSs.nox ((pss_cons (ps_if (pt_cmpR (op_eqX hr.units) (pv 0) pe_int (nomark _)) (pss_one (ps_ret (pe_exv (pmk_x x_BadRow_2 (hr.mono (by decide)) rfl (pa_cons (pv 1) (pa_cons (pv 2) pa_nil)))))) pss_nil)
      (pss_cons (ps_if (pt_cmpR (op_eqX hr.units) (pv 0) pe_int (nomark _)) (pss_one (ps_ret (pe_exv (pmk_x x_Misplaced_2 (hr.mono (by decide)) rfl (pa_cons (pv 1) (pa_cons (pv 2) pa_nil)))))) pss_nil)
      (pss_cons (ps_if (pt_cmpR (op_eqX hr.units) (pv 0) pe_int (nomark _)) (pss_one (ps_ret (pe_exv (pmk_x x_Twice_2 (hr.mono (by decide)) rfl (pa_cons (pv 1) (pa_cons (pv 2) pa_nil)))))) pss_nil)
      (pss_cons (ps_if (pt_cmpR (op_eqX hr.units) (pv 0) pe_int (nomark _)) (pss_one (ps_ret (pe_exv (pmk_x x_Unfinished_2 (hr.mono (by decide)) rfl (pa_cons (pv 1) (pa_cons (pv 2) pa_nil)))))) pss_nil)
      (pss_one (ps_ret (pe_exv (pmk_x x_Falling_2 (hr.mono (by decide)) rfl (pa_cons (pv 1) (pa_cons (pv 2) pa_nil))))))))))), ?_⟩
  refine go_start (σ := [some a0, some a1, some a2]) rfl ?_
  try dsimp only [cxOf, Cx.nox, Cx.wish, Cx.tr, Cx.suite]
  obtain ⟨w, n, z, rfl, rfl, rfl, w0, w1, hq⟩ := h
  have hw : w = 0 ∨ w = 1 ∨ w = 2 ∨ w = 3 ∨ w = 4 := by omega
  rcases hw with rfl | rfl | rfl | rfl | rfl
  · walk_at "*"
    refine ite_T rfl ?_
    walk_at "*"
    refine rz_BadRow_2 fun d H1 n1 s1 e1 => ?_
    refine go_exNew fun a H2 na s2 e2 => ?_
    exact hq a d _ (s1.free na) (s1.trans s2) ⟨e2, s2 _ _ e1⟩
  · walk_at "*"
    refine ite_F rfl ?_
    walk_at "*"
    refine ite_T rfl ?_
    walk_at "*"
    refine rz_Misplaced_2 fun d H1 n1 s1 e1 => ?_
    refine go_exNew fun a H2 na s2 e2 => ?_
    exact hq a d _ (s1.free na) (s1.trans s2) ⟨e2, s2 _ _ e1⟩
  · walk_at "*"
    refine ite_F rfl ?_
    walk_at "*"
    refine ite_F rfl ?_
    walk_at "*"
    refine ite_T rfl ?_
    walk_at "*"
    refine rz_Twice_2 fun d H1 n1 s1 e1 => ?_
    refine go_exNew fun a H2 na s2 e2 => ?_
    exact hq a d _ (s1.free na) (s1.trans s2) ⟨e2, s2 _ _ e1⟩
  · walk_at "*"
    refine ite_F rfl ?_
    walk_at "*"
    refine ite_F rfl ?_
    walk_at "*"
    refine ite_F rfl ?_
    walk_at "*"
    refine ite_T rfl ?_
    walk_at "*"
    refine rz_Unfinished_2 fun d H1 n1 s1 e1 => ?_
    refine go_exNew fun a H2 na s2 e2 => ?_
    exact hq a d _ (s1.free na) (s1.trans s2) ⟨e2, s2 _ _ e1⟩
  · walk_at "*"
    refine ite_F rfl ?_
    walk_at "*"
    refine ite_F rfl ?_
    walk_at "*"
    refine ite_F rfl ?_
    walk_at "*"
    refine ite_F rfl ?_
    walk_at "*"
    walk_at "*"
    refine rz_Falling_2 fun d H1 n1 s1 e1 => ?_
    refine go_exNew fun a H2 na s2 e2 => ?_
    exact hq a d _ (s1.free na) (s1.trans s2) ⟨e2, s2 _ _ e1⟩
/-! ### _law_kinds -/
abbrev s__law_kinds : Stmt := top 14
abbrev N__law_kinds : List Str := ["_law_error", "_law_kinds_here"]
theorem sc__law_kinds : FnScope N__law_kinds ["_law_error"] (defScope s__law_kinds) := ⟨rfl, rfl, rfl, by decide +kernel, rfl, by decide +kernel, by decide +kernel⟩
def pr__law_kinds (K : PySem.W.Frag) : V → Hp → VK → XK → Prop := fun a0 H Q E => ∃ (a dd : Addr) (w : Int) (fs : List (Str × V)), a0 = .ref a ∧ 0 ≤ w ∧ w ≤ 6 ∧ Err K H a dd w fs ∧ ∀ (b : Addr) (H' : Hp), H b = none → Same H H' → H' b = some (.lst ((List.range 7).map fun (i : Nat) => V.bl (decide ((i : Int) = w)))) → Q (.ref b) H' 
abbrev sp__law_kinds (K : PySem.W.Frag) : Sp := Sp1 (pr__law_kinds K)
theorem ok__law_kinds {P : Program} {w : World} {K : PySem.W.Frag} {mg : Str → Option Value} {base : Heap} {f : Addr} {fd : FuncData} (F : FunD K "_law_kinds" "_law_kinds" (defArgs s__law_kinds) (defBody s__law_kinds) (defScope s__law_kinds) [] [] f fd) (T : Txt K mg)  : FnOk P w K mg base CX0 1 f fd ["_law_error"] (sp__law_kinds K) := by
  refine F.ok sc__law_kinds (fun vs H Q E h => len1 h) (fun cdv A outer s H vs Q E hr h => ?_)
  obtain ⟨a0, rfl, h⟩ := h
  have hu := hu_of hr
  refine ⟨_, PSs.nox ((pss_cons (ps_set (i := 1) sc__law_kinds.nd rfl (by first | exact Or.inl rfl | exact Or.inr rfl) (pe_lst (pa_cons (pe_callB call_isiY (by rfl) T.b_isinstance L2.A.boot_isinstance (pa_cons (pv 0) (pa_cons (pe_glob (v := .ref (He.ga K "BadRow")) rfl T.c_BadRow rfl) pa_nil))) (pa_cons (pe_callB call_isiY (by rfl) T.b_isinstance L2.A.boot_isinstance (pa_cons (pv 0) (pa_cons (pe_glob (v := .ref (He.ga K "Misplaced")) rfl T.c_Misplaced rfl) pa_nil))) (pa_cons (pe_callB call_isiY (by rfl) T.b_isinstance L2.A.boot_isinstance (pa_cons (pv 0) (pa_cons (pe_glob (v := .ref (He.ga K "Twice")) rfl T.c_Twice rfl) pa_nil))) pa_nil)))))
      (pss_cons (ps_set (i := 1) sc__law_kinds.nd rfl (by first | exact Or.inl rfl | exact Or.inr rfl) (pe_op op_addX (pv 1) (pe_lst (pa_cons (pe_callB call_isiY (by rfl) T.b_isinstance L2.A.boot_isinstance (pa_cons (pv 0) (pa_cons (pe_glob (v := .ref (He.ga K "Unfinished")) rfl T.c_Unfinished rfl) pa_nil))) (pa_cons (pe_callB call_isiY (by rfl) T.b_isinstance L2.A.boot_isinstance (pa_cons (pv 0) (pa_cons (pe_glob (v := .ref (He.ga K "Falling")) rfl T.c_Falling rfl) pa_nil))) (pa_cons (pe_callB call_isiY (by rfl) T.b_isinstance L2.A.boot_isinstance (pa_cons (pv 0) (pa_cons (pe_glob (v := .ref (He.ga K "NotLet")) rfl T.c_NotLet rfl) pa_nil))) pa_nil))))))
      (pss_one (ps_ret (pe_op op_addX (pv 1) (pe_lst (pa_cons (pe_callB call_isiY (by rfl) T.b_isinstance L2.A.boot_isinstance (pa_cons (pv 0) (pa_cons (pe_glob (v := .ref (He.ga K "NoEntry")) rfl T.c_NoEntry rfl) pa_nil))) pa_nil)))))))), ?_⟩
  have kit_BadRow_BadRow := T.kit_BadRow_BadRow
  have kit_BadRow_Falling := T.kit_BadRow_Falling
  have kit_BadRow_Misplaced := T.kit_BadRow_Misplaced
  have kit_BadRow_NoEntry := T.kit_BadRow_NoEntry
  have kit_BadRow_NotLet := T.kit_BadRow_NotLet
  have kit_BadRow_Twice := T.kit_BadRow_Twice
  have kit_BadRow_Unfinished := T.kit_BadRow_Unfinished
  have kit_Falling_BadRow := T.kit_Falling_BadRow
  have kit_Falling_Falling := T.kit_Falling_Falling
  have kit_Falling_Misplaced := T.kit_Falling_Misplaced
  have kit_Falling_NoEntry := T.kit_Falling_NoEntry
  have kit_Falling_NotLet := T.kit_Falling_NotLet
  have kit_Falling_Twice := T.kit_Falling_Twice
  have kit_Falling_Unfinished := T.kit_Falling_Unfinished
  have kit_Misplaced_BadRow := T.kit_Misplaced_BadRow
  have kit_Misplaced_Falling := T.kit_Misplaced_Falling
  have kit_Misplaced_Misplaced := T.kit_Misplaced_Misplaced
  have kit_Misplaced_NoEntry := T.kit_Misplaced_NoEntry
  have kit_Misplaced_NotLet := T.kit_Misplaced_NotLet
  have kit_Misplaced_Twice := T.kit_Misplaced_Twice
  have kit_Misplaced_Unfinished := T.kit_Misplaced_Unfinished
  have kit_NoEntry_BadRow := T.kit_NoEntry_BadRow
  have kit_NoEntry_Falling := T.kit_NoEntry_Falling
  have kit_NoEntry_Misplaced := T.kit_NoEntry_Misplaced
  have kit_NoEntry_NoEntry := T.kit_NoEntry_NoEntry
  have kit_NoEntry_NotLet := T.kit_NoEntry_NotLet
  have kit_NoEntry_Twice := T.kit_NoEntry_Twice
  have kit_NoEntry_Unfinished := T.kit_NoEntry_Unfinished
  have kit_NotLet_BadRow := T.kit_NotLet_BadRow
  have kit_NotLet_Falling := T.kit_NotLet_Falling
  have kit_NotLet_Misplaced := T.kit_NotLet_Misplaced
  have kit_NotLet_NoEntry := T.kit_NotLet_NoEntry
  have kit_NotLet_NotLet := T.kit_NotLet_NotLet
  have kit_NotLet_Twice := T.kit_NotLet_Twice
  have kit_NotLet_Unfinished := T.kit_NotLet_Unfinished
  have kit_Twice_BadRow := T.kit_Twice_BadRow
  have kit_Twice_Falling := T.kit_Twice_Falling
  have kit_Twice_Misplaced := T.kit_Twice_Misplaced
  have kit_Twice_NoEntry := T.kit_Twice_NoEntry
  have kit_Twice_NotLet := T.kit_Twice_NotLet
  have kit_Twice_Twice := T.kit_Twice_Twice
  have kit_Twice_Unfinished := T.kit_Twice_Unfinished
  have kit_Unfinished_BadRow := T.kit_Unfinished_BadRow
  have kit_Unfinished_Falling := T.kit_Unfinished_Falling
  have kit_Unfinished_Misplaced := T.kit_Unfinished_Misplaced
  have kit_Unfinished_NoEntry := T.kit_Unfinished_NoEntry
  have kit_Unfinished_NotLet := T.kit_Unfinished_NotLet
  have kit_Unfinished_Twice := T.kit_Unfinished_Twice
  have kit_Unfinished_Unfinished := T.kit_Unfinished_Unfinished
  have xd_BadRow := T.xd_BadRow
  have xd_Falling := T.xd_Falling
  have xd_Misplaced := T.xd_Misplaced
  have xd_NoEntry := T.xd_NoEntry
  have xd_NotLet := T.xd_NotLet
  have xd_Twice := T.xd_Twice
  have xd_Unfinished := T.xd_Unfinished
  refine go_start (σ := [some a0, none]) rfl ?_
  try dsimp only [cxOf, Cx.nox, Cx.wish, Cx.tr, Cx.suite]
  obtain ⟨a, dd, w, fs, rfl, w0, w1, ⟨ea, ed⟩, hq⟩ := h
  have hw : w = 0 ∨ w = 1 ∨ w = 2 ∨ w = 3 ∨ w = 4 ∨ w = 5 ∨ w = 6 := by omega
  rcases hw with rfl | rfl | rfl | rfl | rfl | rfl | rfl
  
  all_goals (
    simp only [clsN] at ea
    simp only [if_true, if_false, reduceCtorEq, Int.reduceEq] at ea
    walk_at "*"
    refine go_new fun b1 H1 n1 s1 e1 => ?_
    replace ea := s1 _ _ ea
    replace ed := s1 _ _ ed
    walk_at "*"
    refine go_new fun b2 H2 n2 s2 e2 => ?_
    refine go_addL (s2 _ _ e1) e2 (szl (Nat.le_of_ble_eq_true rfl)) ?_
    refine go_new fun b3 H3 n3 s3 e3 => ?_
    replace ea := s3 _ _ (s2 _ _ ea)
    replace ed := s3 _ _ (s2 _ _ ed)
    walk_at "*"
    refine go_new fun b4 H4 n4 s4 e4 => ?_
    refine go_addL (s4 _ _ e3) e4 (szl (Nat.le_of_ble_eq_true rfl)) ?_
    refine go_newS (H0 := H) ((s1.trans s2).trans (s3.trans s4)) fun b5 H5 n5 s5 e5 => ?_
    exact hq b5 _ n5 s5 (by rw [e5]; rfl))
/-! ### _law_is -/
abbrev s__law_is : Stmt := top 15
abbrev N__law_is : List Str := ["_law_error", "_law_which", "_law_k"]
theorem sc__law_is : FnScope N__law_is ["_law_error", "_law_which"] (defScope s__law_is) := ⟨rfl, rfl, rfl, by decide +kernel, rfl, by decide +kernel, by decide +kernel⟩
def pr__law_is (K : PySem.W.Frag) : V → V → Hp → VK → XK → Prop := fun a0 a1 H Q E => ∃ (a dd : Addr) (w : Int) (fs : List (Str × V)), a0 = .ref a ∧ a1 = .int w ∧ 0 ≤ w ∧ w ≤ 6 ∧ Err K H a dd w fs ∧ ∀ (H' : Hp), Same H H' → Q (.bl true) H' 
abbrev sp__law_is (K : PySem.W.Frag) : Sp := Sp2 (pr__law_is K)
theorem ok__law_is {P : Program} {w : World} {K : PySem.W.Frag} {mg : Str → Option Value} {base : Heap} {f : Addr} {fd : FuncData} (F : FunD K "_law_is" "_law_is" (defArgs s__law_is) (defBody s__law_is) (defScope s__law_is) [] [] f fd) (T : Txt K mg) (d__law_kinds : Dn P w K mg base CX0 1 "_law_kinds" ["_law_error"] [] (sp__law_kinds K)) : FnOk P w K mg base CX0 2 f fd ["_law_error", "_law_which"] (sp__law_is K) := by
  refine F.ok sc__law_is (fun vs H Q E h => len2 h) (fun cdv A outer s H vs Q E hr h => ?_)
  obtain ⟨a0, a1, rfl, h⟩ := h
  have hu := hu_of hr
  refine ⟨_, PSs.nox ((pss_cons (ps_if (PW.pt (pw_or (pt_not (pt_truX (pe_callB call_isiY (by rfl) T.b_isinstance L2.A.boot_isinstance (pa_cons (pv 0) (pa_cons (pe_glob (v := .ref (He.ga K "BookError")) rfl T.c_BookError rfl) pa_nil))))) (pw_or1 (pt_not (pt_truX (pe_callB call_isiY (by rfl) T.b_isinstance L2.A.boot_isinstance (pa_cons (pv 0) (pa_cons (pe_bltn (v := .ty "ValueError") (by rfl) T.b_ValueError L2.A.boot_ValueError rfl) pa_nil)))))))) (pss_one (ps_ret pe_bl)) pss_nil)
      (pss_one (ps_ret (pe_cmpR (op_eqX hr.units) (pe_d d__law_kinds (hr.mono (by decide)) rfl pass0 (pa_cons (pv 0) pa_nil)) (pe_lc (own := [("_law_k", 2)]) rfl sc__law_is.nd (pi_range1 rfl T.b_range (pa_cons pe_int pa_nil)) (blkOk_by (N := N__law_is) (sc := defScope s__law_is) (own := [("_law_k", 2)]) (by decide +kernel)) (fun _ _ _ _ _ => (pg_name (i := 2) sc__law_is.nd rfl (by first | exact Or.inl rfl | exact Or.inr rfl))) (fun _ _ _ _ _ => pts_nil) (fun _ _ _ _ _ => (pe_cmpR (op_eqK (K := K) rfl hr.units) (pv 2) (pv 1) (nomark _)))) (nomark _)))))), ?_⟩
  have kit_BadRow_BookError := T.kit_BadRow_BookError
  have kit_BadRow_ValueError := T.kit_BadRow_ValueError
  have kit_Falling_BookError := T.kit_Falling_BookError
  have kit_Falling_ValueError := T.kit_Falling_ValueError
  have kit_Misplaced_BookError := T.kit_Misplaced_BookError
  have kit_Misplaced_ValueError := T.kit_Misplaced_ValueError
  have kit_NoEntry_BookError := T.kit_NoEntry_BookError
  have kit_NoEntry_ValueError := T.kit_NoEntry_ValueError
  have kit_NotLet_BookError := T.kit_NotLet_BookError
  have kit_NotLet_ValueError := T.kit_NotLet_ValueError
  have kit_Twice_BookError := T.kit_Twice_BookError
  have kit_Twice_ValueError := T.kit_Twice_ValueError
  have kit_Unfinished_BookError := T.kit_Unfinished_BookError
  have kit_Unfinished_ValueError := T.kit_Unfinished_ValueError
  have xd_BadRow := T.xd_BadRow
  have xd_Falling := T.xd_Falling
  have xd_Misplaced := T.xd_Misplaced
  have xd_NoEntry := T.xd_NoEntry
  have xd_NotLet := T.xd_NotLet
  have xd_Twice := T.xd_Twice
  have xd_Unfinished := T.xd_Unfinished
  refine go_start (σ := [some a0, some a1, none]) rfl ?_
  try dsimp only [cxOf, Cx.nox, Cx.wish, Cx.tr, Cx.suite]
  obtain ⟨a, dd, w, fs, rfl, rfl, w0, w1, er, hq⟩ := h
  have ea := er.1
  have ed := er.2
  have xw : ExcD K (He.ga K (clsN w)) ∧ PySem.W.kitOne K (.ref (He.ga K (clsN w))) (.ref (He.ga K "BookError")) = some true ∧ PySem.W.kitOne K (.ref (He.ga K (clsN w))) (.type "ValueError") = some true := by
    have hw : w = 0 ∨ w = 1 ∨ w = 2 ∨ w = 3 ∨ w = 4 ∨ w = 5 ∨ w = 6 := by omega
    rcases hw with rfl | rfl | rfl | rfl | rfl | rfl | rfl
    all_goals (simp only [clsN, if_true, if_false, reduceCtorEq, Int.reduceEq]; exact ⟨by assumption, by assumption, by assumption⟩)
  obtain ⟨xd, k1, k2⟩ := xw
  walk_at "*"
  refine iteNT ?_
  walk_at "*"
  refine go_sp1 ⟨a, dd, w, fs, rfl, w0, w1, er, fun b H1 n1 s1 e1 => ?_⟩
  walk_at "*"
  refine LcW.it walk_range (fun D i ys H' => Same H1 H' ∧ ys = (List.range i).map fun (i : Nat) => V.bl (decide ((i : Int) = w))) (by decide) (fun D hD => ⟨same_new hD, rfl⟩) (fun _ _ _ _ _ _ _ _ => trivial) ?_ ?_
  · rintro D i x ys H2 H3 hD hi hl e ⟨s2, rfl⟩ ⟨rfl, rfl⟩ yes no hy hn
    refine go_name rfl ⟨rfl, ?_⟩
    walk_at "*"
    rw [dec_int]
    refine hy _ _ e ⟨same_mut s2 hD, ?_⟩
    rw [List.range_succ, List.map_append, show (0 : Int) + (i : Int) = i by omega]
    rfl
  rintro D ys H2 hD e hl ⟨s2, rfl⟩
  have all7 : ∀ n : Nat, ((List.range n).map fun (i : Nat) => V.bl (decide ((i : Int) = w))).all okV = true := fun n => by
    rw [List.all_eq_true]
    intro v m
    obtain ⟨i, _, rfl⟩ := List.mem_map.mp m
    rfl
  refine go_eqL (.of (s2 _ _ e1)) (.of e) (all7 _) (all7 _) ?_
  show Q (.bl (eqVs ((List.range 7).map _) ((List.range 7).map _))) H2
  rw [eqVs_refl (all7 _)]
  exact hq _ (s1.trans s2)
/-! ### law -/
abbrev s_law : Stmt := top 16
abbrev N_law : List Str := ["_law_script", "_law_draw", "_law_which", "_law_rule", "_law_number", "_law_plain", "_law_error", "_law_other", "_law_place"]
theorem sc_law : FnScope N_law ["_law_script"] (defScope s_law) := ⟨rfl, rfl, rfl, by decide +kernel, rfl, by decide +kernel, by decide +kernel⟩
def pr_law (K : PySem.W.Frag) : V → Hp → VK → XK → Prop := fun a0 H Q E => ∃ (a : Addr) (ns : List Int), a0 = .ref a ∧ SqL K H a (ns.map V.int) ∧ ns.length ≤ 63 ∧ ∀ H', Q (.bl true) H' 
abbrev sp_law (K : PySem.W.Frag) : Sp := Sp1 (pr_law K)
theorem ok_law {P : Program} {w : World} {K : PySem.W.Frag} {mg : Str → Option Value} {base : Heap} {f : Addr} {fd : FuncData} (F : FunD K "law" "law" (defArgs s_law) (defBody s_law) (defScope s_law) [] [] f fd) (T : Txt K mg) (d__law_drawn : Dn P w K mg base CX0 1 "_law_drawn" ["_law_script"] [] (sp__law_drawn K)) (d__law_letters : Dn P w K mg base CX0 2 "_law_letters" ["_law_draw", "_law_many"] [] (sp__law_letters K)) (d__law_pick : Dn P w K mg base CX0 1 "_law_pick" ["_law_draw", "_law_many"] [] (sp__law_pick K)) (d__law_made : Dn P w K mg base CX0 3 "_law_made" ["_law_which", "_law_words", "_law_place"] [] (sp__law_made K)) (d__law_is : Dn P w K mg base CX0 2 "_law_is" ["_law_error", "_law_which"] [] (sp__law_is K)) (x_NoEntry_2 : XkD P w K mg base 1 (He.ga K "NoEntry") "NoEntry" ["self", "words", "number"] [] (sp_NoEntry_init K)) (x_NotLet_2 : XkD P w K mg base 1 (He.ga K "NotLet") "NotLet" ["self", "words", "rule", "number"] [V.int 0] (sp_NotLet_init K)) (x_NotLet_3 : XkD P w K mg base 1 (He.ga K "NotLet") "NotLet" ["self", "words", "rule", "number"] [] (sp_NotLet_init K)) : FnOk P w K mg base CX0 4 f fd ["_law_script"] (sp_law K) := by
  refine F.ok sc_law (fun vs H Q E h => len1 h) (fun cdv A outer s H vs Q E hr h => ?_)
  obtain ⟨a0, rfl, h⟩ := h
  have hu := hu_of hr
  refine ⟨_, PSs.nox ((pss_cons (ps_set (i := 1) sc_law.nd rfl (by first | exact Or.inl rfl | exact Or.inr rfl) (pe_d d__law_drawn (hr.mono (by decide)) rfl pass0 (pa_cons (pv 0) pa_nil)))
      (pss_cons (ps_for PassesOwn.never rfl (pi_range1 rfl T.b_range (pa_cons pe_int pa_nil)) (pg_name (i := 2) sc_law.nd rfl (by first | exact Or.inl rfl | exact Or.inr rfl)) (pss_cons (ps_set (i := 8) sc_law.nd rfl (by first | exact Or.inl rfl | exact Or.inr rfl) (pe_op op_addX pe_int (pe_d d__law_pick (hr.mono (by decide)) rfl pass0 (pa_cons (pv 1) (pa_cons pe_int pa_nil)))))
      (pss_cons (ps_set (i := 6) sc_law.nd rfl (by first | exact Or.inl rfl | exact Or.inr rfl) (pe_d d__law_made (hr.mono (by decide)) rfl pass0 (pa_cons (pv 2) (pa_cons (pe_d d__law_letters (hr.mono (by decide)) rfl pass0 (pa_cons (pv 1) (pa_cons (pe_d d__law_pick (hr.mono (by decide)) rfl pass0 (pa_cons (pv 1) (pa_cons pe_int pa_nil))) pa_nil))) (pa_cons (pv 8) pa_nil)))))
      (pss_one (ps_if (PW.pt (pw_or (pt_not (pt_truX (pe_d d__law_is (hr.mono (by decide)) rfl pass0 (pa_cons (pv 6) (pa_cons (pv 2) pa_nil))))) (pw_or1 (pt_cmpR (op_neX hr.units) (pe_xq (K := K) rfl (pv 6)) (pv 8) (nomark _))))) (pss_one (ps_ret pe_bl)) pss_nil)))))
      (pss_cons (ps_set (i := 3) sc_law.nd rfl (by first | exact Or.inl rfl | exact Or.inr rfl) (pe_d d__law_letters (hr.mono (by decide)) rfl pass0 (pa_cons (pv 1) (pa_cons (pe_op op_addX pe_int (pe_d d__law_pick (hr.mono (by decide)) rfl pass0 (pa_cons (pv 1) (pa_cons pe_int pa_nil)))) pa_nil))))
      (pss_cons (ps_set (i := 4) sc_law.nd rfl (by first | exact Or.inl rfl | exact Or.inr rfl) (pe_d d__law_pick (hr.mono (by decide)) rfl pass0 (pa_cons (pv 1) (pa_cons pe_int pa_nil))))
      (pss_cons (ps_set (i := 5) sc_law.nd rfl (by first | exact Or.inl rfl | exact Or.inr rfl) (pe_exv (pmk_x x_NotLet_2 (hr.mono (by decide)) rfl (pa_cons pe_str (pa_cons (pv 3) pa_nil)))))
      (pss_cons (ps_set (i := 6) sc_law.nd rfl (by first | exact Or.inl rfl | exact Or.inr rfl) (pe_exv (pmk_x x_NotLet_3 (hr.mono (by decide)) rfl (pa_cons pe_str (pa_cons (pv 3) (pa_cons (pv 4) pa_nil))))))
      (pss_cons (ps_if (PW.pt (pw_or (pt_not (pt_truX (pe_d d__law_is (hr.mono (by decide)) rfl pass0 (pa_cons (pv 5) (pa_cons pe_int pa_nil))))) (pw_or (pt_not (pt_truX (pe_d d__law_is (hr.mono (by decide)) rfl pass0 (pa_cons (pv 6) (pa_cons pe_int pa_nil))))) (pw_or1 (pt_cmpR (op_neX hr.units) (pe_lst (pa_cons (pe_xq (K := K) rfl (pv 5)) (pa_cons (pe_xq (K := K) rfl (pv 5)) pa_nil))) (pe_lst (pa_cons (pv 3) (pa_cons pe_int pa_nil))) (nomark _)))))) (pss_one (ps_ret pe_bl)) pss_nil)
      (pss_cons (ps_set (i := 7) sc_law.nd rfl (by first | exact Or.inl rfl | exact Or.inr rfl) (pe_exv (pmk_x x_NoEntry_2 (hr.mono (by decide)) rfl (pa_cons pe_str (pa_cons (pv 4) pa_nil)))))
      (pss_one (ps_ret (pe_and (pe_cmpR (op_eqX hr.units) (pe_lst (pa_cons (pe_xq (K := K) rfl (pv 6)) (pa_cons (pe_xq (K := K) rfl (pv 6)) pa_nil))) (pe_lst (pa_cons (pv 3) (pa_cons (pv 4) pa_nil))) (nomark _)) (pe_and (pe_d d__law_is (hr.mono (by decide)) rfl pass0 (pa_cons (pv 7) (pa_cons pe_int pa_nil))) (pe_one (pe_cmpR (op_eqX hr.units) (pe_xq (K := K) rfl (pv 7)) (pv 4) (nomark _)))))))))))))))), ?_⟩
  have nf_BadRow_place := T.nf_BadRow_place
  have nf_Falling_place := T.nf_Falling_place
  have nf_Misplaced_place := T.nf_Misplaced_place
  have nf_NoEntry_number := T.nf_NoEntry_number
  have nf_NotLet_number := T.nf_NotLet_number
  have nf_NotLet_rule := T.nf_NotLet_rule
  have nf_Twice_place := T.nf_Twice_place
  have nf_Unfinished_place := T.nf_Unfinished_place
  have xd_BadRow := T.xd_BadRow
  have xd_Falling := T.xd_Falling
  have xd_Misplaced := T.xd_Misplaced
  have xd_NoEntry := T.xd_NoEntry
  have xd_NotLet := T.xd_NotLet
  have xd_Twice := T.xd_Twice
  have xd_Unfinished := T.xd_Unfinished
  refine go_start (σ := [some a0, none, none, none, none, none, none, none, none]) rfl ?_
  try dsimp only [cxOf, Cx.nox, Cx.wish, Cx.tr, Cx.suite]
  obtain ⟨a, ns, rfl, hS, hn, hq⟩ := h
  walk_at "*"
  refine go_sp1 ⟨a, ns, rfl, hS, hn, fun d0 H1 ok0 x0 => ?_⟩
  walk_at "*"
  refine ForW.range (fun i σ H' => ∃ (d : DrawD) (v2 v3 v4 : Option V), σ = [some (.ref a), some (.ref d0.p), v2, none, none, none, v3, none, v4] ∧ d.p = d0.p ∧ d.Ok (10 * i) ∧ Ext [] (drawC d) H H') ⟨d0, _, _, _, rfl, rfl, ok0.le (by omega), x0⟩ ?_ ?_
  · rintro i σ H2 hi ⟨d, v2, v3, v4, rfl, dp, dk, x⟩
    replace hi : i < 5 := hi
    walk_at "*"
    refine go_sp2 ⟨d, _, _, by rw [dp], rfl, x.lay.pull pm_all, dk, by omega, by omega, by omega, fun r d1 H1 r01 r11 dp1 ok1 y1 => ?_⟩
    have x1 := (x.call pm_all y1).perm (by rw [List.append_nil])
    have dp1 := dp1.trans dp
    walk_at "*"
    refine go_sp2 ⟨d1, _, _, by rw [dp1], rfl, x1.lay.pull pm_all, ok1, by omega, by omega, by omega, fun q d2 H2 r02 r12 dp2 ok2 y2 => ?_⟩
    have x2 := (x1.call pm_all y2).perm (by rw [List.append_nil])
    have dp2 := dp2.trans dp1
    walk_at "*"
    refine go_sp2 ⟨d2, _, q.toNat, by rw [dp2], by congr 1; omega, x2.lay.pull pm_all, ok2, by omega, by omega, fun z d3 H3 zl3 low3 dp3 ok3 y3 => ?_⟩
    have x3 := (x2.call pm_all y3).perm (by rw [List.append_nil])
    have dp3 := dp3.trans dp2
    walk_at "*"
    refine go_sp3 ⟨_, _, _, rfl, rfl, rfl, by omega, by omega, fun e dd H4 ne s4 er => ?_⟩
    have x4 := x3.same s4
    walk_at "*"
    have fin : ∀ {H' : Hp} {v2 v3 v4 : Option V}, Same H4 H' → ∃ (d' : DrawD) (w2 w3 w4 : Option V), [some (V.ref a), some (V.ref d0.p), v2, none, none, none, v3, none, v4] = [some (V.ref a), some (V.ref d0.p), w2, none, none, none, w3, none, w4] ∧ d'.p = d0.p ∧ d'.Ok (10 * ((i + 1 : Nat) : Int)) ∧ Ext [] (drawC d') H H' := fun s => ⟨d3, _, _, _, rfl, dp3, ok3.le (by omega), x4.same s⟩
    refine go_sp2 ⟨e, dd, _, _, rfl, rfl, by omega, by omega, er, fun H5 s5 => ?_⟩
    walk_at "*"
    have er5 := er.same s5
    have ea := er5.1
    have ed := er5.2
    have xw : ExcD K (He.ga K (clsN (0 + (i : Int)))) ∧ PySem.W.findIn K (.ref (He.ga K (clsN (0 + (i : Int))))) "place" = some none := by
      have hw : i = 0 ∨ i = 1 ∨ i = 2 ∨ i = 3 ∨ i = 4 := by omega
      rcases hw with rfl | rfl | rfl | rfl | rfl
      all_goals exact ⟨by assumption, by assumption⟩
    obtain ⟨xd, nf⟩ := xw
    refine go_xqW ea (ExcD.xf xd) nf ed rfl ?_
    walk_at "*"
    refine ite_F (by simp) ?_
    walk_at "*"
    exact fin s5
  rintro σ H2 ⟨d, v2, v3, v4, rfl, dp, dk, x⟩
  walk_at "*"
  refine go_sp2 ⟨d, _, _, by rw [dp], rfl, x.lay.pull pm_all, dk, by omega, by omega, by omega, fun q d1 H1 r01 r11 dp1 ok1 y1 => ?_⟩
  have x1 := (x.call pm_all y1).perm (by rw [List.append_nil])
  have dp1 := dp1.trans dp
  walk_at "*"
  refine go_sp2 ⟨d1, _, (1 + q).toNat, by rw [dp1], by congr 1; omega, x1.lay.pull pm_all, ok1, by omega, by omega, fun z d2 H2 zl2 low2 dp2 ok2 y2 => ?_⟩
  have x2 := (x1.call pm_all y2).perm (by rw [List.append_nil])
  have dp2 := dp2.trans dp1
  walk_at "*"
  refine go_sp2 ⟨d2, _, _, by rw [dp2], rfl, x2.lay.pull pm_all, ok2, by omega, by omega, by omega, fun r d3 H3 r03 r13 dp3 ok3 y3 => ?_⟩
  have x3 := (x2.call pm_all y3).perm (by rw [List.append_nil])
  have dp3 := dp3.trans dp2
  walk_at "*"
  refine rz_NotLet_2 fun b1 H4 n4 s4 e4 => ?_
  refine go_exNew fun f1 H5 n5 s5 e5 => ?_
  walk_at "*"
  refine rz_NotLet_3 fun b2 H6 n6 s6 e6 => ?_
  refine go_exNew fun f2 H7 n7 s7 e7 => ?_
  have er1 : Err K H7 f1 b1 5 [("number", .int 0), ("rule", .str ⟨z.toArray⟩)] := ⟨s7 _ _ (s6 _ _ e5), s7 _ _ (s6 _ _ (s5 _ _ e4))⟩
  have er2 : Err K H7 f2 b2 5 [("number", .int r), ("rule", .str ⟨z.toArray⟩)] := ⟨e7, s7 _ _ e6⟩
  walk_at "*"
  have okz := low_ok low2
  refine go_sp2 ⟨f1, b1, 5, _, rfl, rfl, by decide, by decide, er1, fun H8 s8 => ?_⟩
  replace er1 := er1.same s8
  replace er2 := er2.same s8
  walk_at "*"
  walk_at "*"
  refine go_sp2 ⟨f2, b2, 5, _, rfl, rfl, by decide, by decide, er2, fun H9 s9 => ?_⟩
  replace er1 := er1.same s9
  replace er2 := er2.same s9
  obtain ⟨ea1, ed1⟩ := id er1
  obtain ⟨ea2, ed2⟩ := id er2
  walk_at "*"
  have xd : ExcD K (He.ga K (clsN 5)) := by assumption
  have nr : PySem.W.findIn K (.ref (He.ga K (clsN 5))) "rule" = some none := by assumption
  have nn : PySem.W.findIn K (.ref (He.ga K (clsN 5))) "number" = some none := by assumption
  walk_at "*"
  refine go_new fun l1 H10 n10 s10 e10 => ?_
  walk_at "*"
  refine go_new fun l2 H11 n11 s11 e11 => ?_
  have oz : ∀ i : Int, [V.str ⟨z.toArray⟩, .int i].all okV = true := fun i => by simp only [List.all_cons, okz, List.all_nil]; rfl
  refine go_neL (.of (s11 _ _ e10)) (.of e11) (oz 0) (oz 0) ?_
  rw [eqVs_refl (oz 0)]
  replace er2 := (er2.same s10).same s11
  walk_at "*"
  refine rz_NoEntry_2 fun b3 H12 n12 s12 e12 => ?_
  refine go_exNew fun f3 H13 n13 s13 e13 => ?_
  have er3 : Err K H13 f3 b3 6 [("number", .int r)] := ⟨e13, s13 _ _ e12⟩
  replace er2 := (er2.same s12).same s13
  obtain ⟨ea2, ed2⟩ := id er2
  walk_at "*"
  refine go_new fun l3 H14 n14 s14 e14 => ?_
  walk_at "*"
  refine go_new fun l4 H15 n15 s15 e15 => ?_
  refine go_eqL (.of (s15 _ _ e14)) (.of e15) (oz r) (oz r) ?_
  rw [eqVs_refl (oz r)]
  walk_at "*"
  replace er3 := (er3.same s14).same s15
  refine go_sp2 ⟨f3, b3, 6, _, rfl, rfl, by decide, by decide, er3, fun H16 s16 => ?_⟩
  replace er3 := er3.same s16
  obtain ⟨ea3, ed3⟩ := id er3
  walk_at "*"
  have xd3 : ExcD K (He.ga K (clsN 6)) := by assumption
  have nn3 : PySem.W.findIn K (.ref (He.ga K (clsN 6))) "number" = some none := by assumption
  exact ret_V (by simp) (hq _)
/-! ### the head -/
def D__law_drawn : He.DefD := ⟨("_law_drawn", none), "_law_drawn", "_law_drawn", defArgs s__law_drawn, defBody s__law_drawn, defScope s__law_drawn, [], []⟩
def D__law_pick : He.DefD := ⟨("_law_pick", none), "_law_pick", "_law_pick", defArgs s__law_pick, defBody s__law_pick, defScope s__law_pick, [], []⟩
def D__law_letters : He.DefD := ⟨("_law_letters", none), "_law_letters", "_law_letters", defArgs s__law_letters, defBody s__law_letters, defScope s__law_letters, [], []⟩
def D_BadRow_init : He.DefD := ⟨("BadRow", some "__init__"), "__init__", "BadRow.__init__", defArgs s_BadRow_init, defBody s_BadRow_init, defScope s_BadRow_init, [], []⟩
def D_Misplaced_init : He.DefD := ⟨("Misplaced", some "__init__"), "__init__", "Misplaced.__init__", defArgs s_Misplaced_init, defBody s_Misplaced_init, defScope s_Misplaced_init, [], []⟩
def D_Twice_init : He.DefD := ⟨("Twice", some "__init__"), "__init__", "Twice.__init__", defArgs s_Twice_init, defBody s_Twice_init, defScope s_Twice_init, [], []⟩
def D_Unfinished_init : He.DefD := ⟨("Unfinished", some "__init__"), "__init__", "Unfinished.__init__", defArgs s_Unfinished_init, defBody s_Unfinished_init, defScope s_Unfinished_init, [], []⟩
def D_Falling_init : He.DefD := ⟨("Falling", some "__init__"), "__init__", "Falling.__init__", defArgs s_Falling_init, defBody s_Falling_init, defScope s_Falling_init, [], []⟩
def D_NotLet_init : He.DefD := ⟨("NotLet", some "__init__"), "__init__", "NotLet.__init__", defArgs s_NotLet_init, defBody s_NotLet_init, defScope s_NotLet_init, [.int 0], []⟩
def D_NoEntry_init : He.DefD := ⟨("NoEntry", some "__init__"), "__init__", "NoEntry.__init__", defArgs s_NoEntry_init, defBody s_NoEntry_init, defScope s_NoEntry_init, [], []⟩
def D__law_made : He.DefD := ⟨("_law_made", none), "_law_made", "_law_made", defArgs s__law_made, defBody s__law_made, defScope s__law_made, [], []⟩
def D__law_kinds : He.DefD := ⟨("_law_kinds", none), "_law_kinds", "_law_kinds", defArgs s__law_kinds, defBody s__law_kinds, defScope s__law_kinds, [], []⟩
def D__law_is : He.DefD := ⟨("_law_is", none), "_law_is", "_law_is", defArgs s__law_is, defBody s__law_is, defScope s__law_is, [], []⟩
def D_law : He.DefD := ⟨("law", none), "law", "law", defArgs s_law, defBody s_law, defScope s_law, [], []⟩
def fn : List He.DefD := [D__law_drawn, D__law_pick, D__law_letters, D_BadRow_init, D_Misplaced_init, D_Twice_init, D_Unfinished_init, D_Falling_init, D_NotLet_init, D_NoEntry_init, D__law_made, D__law_kinds, D__law_is, D_law]
def fa : List He.Fa := [.glo "_law_drawn", .glo "_law_pick", .glo "_law_letters", .glo "BadRow", .glo "Misplaced", .glo "Twice", .glo "Unfinished", .glo "Falling", .glo "NotLet", .glo "NoEntry", .glo "_law_made", .glo "_law_kinds", .glo "_law_is", .glo "law", .free "ValueError", .free "int", .free "isinstance", .free "len", .free "list", .free "range", .glo "BookError"]
def xs : List (PySem.W.Frag → Bool) := [fun K => biB K (He.ga K "BookError"),
  fun K => decide (PySem.W.typeIn K (.ref (He.ma K (He.ga K "BadRow") "__init__")) = some (.type "function")),
  fun K => decide (PySem.W.typeIn K (.ref (He.ma K (He.ga K "Falling") "__init__")) = some (.type "function")),
  fun K => decide (PySem.W.typeIn K (.ref (He.ma K (He.ga K "Misplaced") "__init__")) = some (.type "function")),
  fun K => decide (PySem.W.typeIn K (.ref (He.ma K (He.ga K "NoEntry") "__init__")) = some (.type "function")),
  fun K => decide (PySem.W.typeIn K (.ref (He.ma K (He.ga K "NotLet") "__init__")) = some (.type "function")),
  fun K => decide (PySem.W.typeIn K (.ref (He.ma K (He.ga K "Twice") "__init__")) = some (.type "function")),
  fun K => decide (PySem.W.typeIn K (.ref (He.ma K (He.ga K "Unfinished") "__init__")) = some (.type "function")),
  fun K => decide (PySem.W.findIn K (.ref (He.ga K "BadRow")) "__init__" = some (some (.ref (He.ma K (He.ga K "BadRow") "__init__")))),
  fun K => decide (PySem.W.findIn K (.ref (He.ga K "Falling")) "__init__" = some (some (.ref (He.ma K (He.ga K "Falling") "__init__")))),
  fun K => decide (PySem.W.findIn K (.ref (He.ga K "Misplaced")) "__init__" = some (some (.ref (He.ma K (He.ga K "Misplaced") "__init__")))),
  fun K => decide (PySem.W.findIn K (.ref (He.ga K "NoEntry")) "__init__" = some (some (.ref (He.ma K (He.ga K "NoEntry") "__init__")))),
  fun K => decide (PySem.W.findIn K (.ref (He.ga K "NotLet")) "__init__" = some (some (.ref (He.ma K (He.ga K "NotLet") "__init__")))),
  fun K => decide (PySem.W.findIn K (.ref (He.ga K "Twice")) "__init__" = some (some (.ref (He.ma K (He.ga K "Twice") "__init__")))),
  fun K => decide (PySem.W.findIn K (.ref (He.ga K "Unfinished")) "__init__" = some (some (.ref (He.ma K (He.ga K "Unfinished") "__init__")))),
  fun K => decide (PySem.W.kitOne K (.ref (He.ga K "BadRow")) (.ref (He.ga K "BadRow")) = some true),
  fun K => decide (PySem.W.kitOne K (.ref (He.ga K "BadRow")) (.ref (He.ga K "BookError")) = some true),
  fun K => decide (PySem.W.kitOne K (.ref (He.ga K "BadRow")) (.ref (He.ga K "Falling")) = some false),
  fun K => decide (PySem.W.kitOne K (.ref (He.ga K "BadRow")) (.ref (He.ga K "Misplaced")) = some false),
  fun K => decide (PySem.W.kitOne K (.ref (He.ga K "BadRow")) (.ref (He.ga K "NoEntry")) = some false),
  fun K => decide (PySem.W.kitOne K (.ref (He.ga K "BadRow")) (.ref (He.ga K "NotLet")) = some false),
  fun K => decide (PySem.W.kitOne K (.ref (He.ga K "BadRow")) (.ref (He.ga K "Twice")) = some false),
  fun K => decide (PySem.W.kitOne K (.ref (He.ga K "BadRow")) (.ref (He.ga K "Unfinished")) = some false),
  fun K => decide (PySem.W.kitOne K (.ref (He.ga K "BadRow")) (.type "ValueError") = some true),
  fun K => decide (PySem.W.kitOne K (.ref (He.ga K "Falling")) (.ref (He.ga K "BadRow")) = some false),
  fun K => decide (PySem.W.kitOne K (.ref (He.ga K "Falling")) (.ref (He.ga K "BookError")) = some true),
  fun K => decide (PySem.W.kitOne K (.ref (He.ga K "Falling")) (.ref (He.ga K "Falling")) = some true),
  fun K => decide (PySem.W.kitOne K (.ref (He.ga K "Falling")) (.ref (He.ga K "Misplaced")) = some false),
  fun K => decide (PySem.W.kitOne K (.ref (He.ga K "Falling")) (.ref (He.ga K "NoEntry")) = some false),
  fun K => decide (PySem.W.kitOne K (.ref (He.ga K "Falling")) (.ref (He.ga K "NotLet")) = some false),
  fun K => decide (PySem.W.kitOne K (.ref (He.ga K "Falling")) (.ref (He.ga K "Twice")) = some false),
  fun K => decide (PySem.W.kitOne K (.ref (He.ga K "Falling")) (.ref (He.ga K "Unfinished")) = some false),
  fun K => decide (PySem.W.kitOne K (.ref (He.ga K "Falling")) (.type "ValueError") = some true),
  fun K => decide (PySem.W.kitOne K (.ref (He.ga K "Misplaced")) (.ref (He.ga K "BadRow")) = some false),
  fun K => decide (PySem.W.kitOne K (.ref (He.ga K "Misplaced")) (.ref (He.ga K "BookError")) = some true),
  fun K => decide (PySem.W.kitOne K (.ref (He.ga K "Misplaced")) (.ref (He.ga K "Falling")) = some false),
  fun K => decide (PySem.W.kitOne K (.ref (He.ga K "Misplaced")) (.ref (He.ga K "Misplaced")) = some true),
  fun K => decide (PySem.W.kitOne K (.ref (He.ga K "Misplaced")) (.ref (He.ga K "NoEntry")) = some false),
  fun K => decide (PySem.W.kitOne K (.ref (He.ga K "Misplaced")) (.ref (He.ga K "NotLet")) = some false),
  fun K => decide (PySem.W.kitOne K (.ref (He.ga K "Misplaced")) (.ref (He.ga K "Twice")) = some false),
  fun K => decide (PySem.W.kitOne K (.ref (He.ga K "Misplaced")) (.ref (He.ga K "Unfinished")) = some false),
  fun K => decide (PySem.W.kitOne K (.ref (He.ga K "Misplaced")) (.type "ValueError") = some true),
  fun K => decide (PySem.W.kitOne K (.ref (He.ga K "NoEntry")) (.ref (He.ga K "BadRow")) = some false),
  fun K => decide (PySem.W.kitOne K (.ref (He.ga K "NoEntry")) (.ref (He.ga K "BookError")) = some true),
  fun K => decide (PySem.W.kitOne K (.ref (He.ga K "NoEntry")) (.ref (He.ga K "Falling")) = some false),
  fun K => decide (PySem.W.kitOne K (.ref (He.ga K "NoEntry")) (.ref (He.ga K "Misplaced")) = some false),
  fun K => decide (PySem.W.kitOne K (.ref (He.ga K "NoEntry")) (.ref (He.ga K "NoEntry")) = some true),
  fun K => decide (PySem.W.kitOne K (.ref (He.ga K "NoEntry")) (.ref (He.ga K "NotLet")) = some false),
  fun K => decide (PySem.W.kitOne K (.ref (He.ga K "NoEntry")) (.ref (He.ga K "Twice")) = some false),
  fun K => decide (PySem.W.kitOne K (.ref (He.ga K "NoEntry")) (.ref (He.ga K "Unfinished")) = some false),
  fun K => decide (PySem.W.kitOne K (.ref (He.ga K "NoEntry")) (.type "ValueError") = some true),
  fun K => decide (PySem.W.kitOne K (.ref (He.ga K "NotLet")) (.ref (He.ga K "BadRow")) = some false),
  fun K => decide (PySem.W.kitOne K (.ref (He.ga K "NotLet")) (.ref (He.ga K "BookError")) = some true),
  fun K => decide (PySem.W.kitOne K (.ref (He.ga K "NotLet")) (.ref (He.ga K "Falling")) = some false),
  fun K => decide (PySem.W.kitOne K (.ref (He.ga K "NotLet")) (.ref (He.ga K "Misplaced")) = some false),
  fun K => decide (PySem.W.kitOne K (.ref (He.ga K "NotLet")) (.ref (He.ga K "NoEntry")) = some false),
  fun K => decide (PySem.W.kitOne K (.ref (He.ga K "NotLet")) (.ref (He.ga K "NotLet")) = some true),
  fun K => decide (PySem.W.kitOne K (.ref (He.ga K "NotLet")) (.ref (He.ga K "Twice")) = some false),
  fun K => decide (PySem.W.kitOne K (.ref (He.ga K "NotLet")) (.ref (He.ga K "Unfinished")) = some false),
  fun K => decide (PySem.W.kitOne K (.ref (He.ga K "NotLet")) (.type "ValueError") = some true),
  fun K => decide (PySem.W.kitOne K (.ref (He.ga K "Twice")) (.ref (He.ga K "BadRow")) = some false),
  fun K => decide (PySem.W.kitOne K (.ref (He.ga K "Twice")) (.ref (He.ga K "BookError")) = some true),
  fun K => decide (PySem.W.kitOne K (.ref (He.ga K "Twice")) (.ref (He.ga K "Falling")) = some false),
  fun K => decide (PySem.W.kitOne K (.ref (He.ga K "Twice")) (.ref (He.ga K "Misplaced")) = some false),
  fun K => decide (PySem.W.kitOne K (.ref (He.ga K "Twice")) (.ref (He.ga K "NoEntry")) = some false),
  fun K => decide (PySem.W.kitOne K (.ref (He.ga K "Twice")) (.ref (He.ga K "NotLet")) = some false),
  fun K => decide (PySem.W.kitOne K (.ref (He.ga K "Twice")) (.ref (He.ga K "Twice")) = some true),
  fun K => decide (PySem.W.kitOne K (.ref (He.ga K "Twice")) (.ref (He.ga K "Unfinished")) = some false),
  fun K => decide (PySem.W.kitOne K (.ref (He.ga K "Twice")) (.type "ValueError") = some true),
  fun K => decide (PySem.W.kitOne K (.ref (He.ga K "Unfinished")) (.ref (He.ga K "BadRow")) = some false),
  fun K => decide (PySem.W.kitOne K (.ref (He.ga K "Unfinished")) (.ref (He.ga K "BookError")) = some true),
  fun K => decide (PySem.W.kitOne K (.ref (He.ga K "Unfinished")) (.ref (He.ga K "Falling")) = some false),
  fun K => decide (PySem.W.kitOne K (.ref (He.ga K "Unfinished")) (.ref (He.ga K "Misplaced")) = some false),
  fun K => decide (PySem.W.kitOne K (.ref (He.ga K "Unfinished")) (.ref (He.ga K "NoEntry")) = some false),
  fun K => decide (PySem.W.kitOne K (.ref (He.ga K "Unfinished")) (.ref (He.ga K "NotLet")) = some false),
  fun K => decide (PySem.W.kitOne K (.ref (He.ga K "Unfinished")) (.ref (He.ga K "Twice")) = some false),
  fun K => decide (PySem.W.kitOne K (.ref (He.ga K "Unfinished")) (.ref (He.ga K "Unfinished")) = some true),
  fun K => decide (PySem.W.kitOne K (.ref (He.ga K "Unfinished")) (.type "ValueError") = some true),
  fun K => decide (PySem.W.findIn K (.ref (He.ga K "BadRow")) "place" = some none),
  fun K => decide (PySem.W.findIn K (.ref (He.ga K "Falling")) "place" = some none),
  fun K => decide (PySem.W.findIn K (.ref (He.ga K "Misplaced")) "place" = some none),
  fun K => decide (PySem.W.findIn K (.ref (He.ga K "NoEntry")) "number" = some none),
  fun K => decide (PySem.W.findIn K (.ref (He.ga K "NotLet")) "number" = some none),
  fun K => decide (PySem.W.findIn K (.ref (He.ga K "NotLet")) "rule" = some none),
  fun K => decide (PySem.W.findIn K (.ref (He.ga K "Twice")) "place" = some none),
  fun K => decide (PySem.W.findIn K (.ref (He.ga K "Unfinished")) "place" = some none),
  fun K => oexB K (He.ga K "BadRow"),
  fun K => oexB K (He.ga K "Falling"),
  fun K => oexB K (He.ga K "Misplaced"),
  fun K => oexB K (He.ga K "NoEntry"),
  fun K => oexB K (He.ga K "NotLet"),
  fun K => oexB K (He.ga K "Twice"),
  fun K => oexB K (He.ga K "Unfinished"),
  fun K => excDB K (He.ga K "BadRow"),
  fun K => excDB K (He.ga K "Falling"),
  fun K => excDB K (He.ga K "Misplaced"),
  fun K => excDB K (He.ga K "NoEntry"),
  fun K => excDB K (He.ga K "NotLet"),
  fun K => excDB K (He.ga K "Twice"),
  fun K => excDB K (He.ga K "Unfinished")]
abbrev R : PySem.W.OpenRow := PySem.W.OpenLaw.row PySem.Challenge.rw_inningsbook_k09_refusals_apart
abbrev hk : PySem.W.Hook := hookX 4 fa fn xs
def ob (s : PySem.W.SharedT) : Bool × He.AlD := obsXG 4 fa fn xs (HandSHeadRun.getT s)
theorem ob_eq (s : PySem.W.SharedT) : ob s = hk.obs s.abs := obsXG_eq (HandSHeadRun.getT_eq s)
abbrev loose : List Str := (["BookError", "BadRow", "Misplaced", "Twice", "Unfinished", "Falling", "NotLet", "NoEntry", "_law_drawn", "_law_pick", "_law_letters", "_law_made", "_law_kinds", "_law_is"] : List Str)
theorem run (w : World) : HandSHeadRun.RunEq R (PySem.W.view R.prog [16]) hk ob 3000 loose w := by
  intro os
  kernel_rfl
theorem facts {P : Program} {w : World} {K : PySem.W.Frag} {h : Heap} {mg : Str → Option Value} {f : Addr} (X : K.In h) (G : h.Ns mainGlobals mg) (hfa : mg ("law" : Str) = some (.ref f)) (c : He.SaysD fa fn K) (cx : (xs.all fun f => f K) = true) :
    ∃ fd : FuncData, (∀ (s : Shared) (v : Value), BindsTo s fd ⟨[v], []⟩ [("_law_script", v)]) ∧ ∀ base : Heap, K.In base → base.Ns mainGlobals mg → FnOk P w K mg base CX0 4 f fd ["_law_script"] (sp_law K) := by
  have T : Txt K mg := ⟨He.free_ok X G (c.fact 14 (f := .free "ValueError") rfl), He.free_ok X G (c.fact 15 (f := .free "int") rfl), He.free_ok X G (c.fact 16 (f := .free "isinstance") rfl), He.free_ok X G (c.fact 17 (f := .free "len") rfl), He.free_ok X G (c.fact 18 (f := .free "list") rfl), He.free_ok X G (c.fact 19 (f := .free "range") rfl), more_fact cx 0 (f := fun K => biB K (He.ga K "BookError")) rfl, He.glo_ok X G (c.fact 3 (f := .glo "BadRow") rfl), He.glo_ok X G (c.fact 20 (f := .glo "BookError") rfl), He.glo_ok X G (c.fact 7 (f := .glo "Falling") rfl), He.glo_ok X G (c.fact 4 (f := .glo "Misplaced") rfl), He.glo_ok X G (c.fact 9 (f := .glo "NoEntry") rfl), He.glo_ok X G (c.fact 8 (f := .glo "NotLet") rfl), He.glo_ok X G (c.fact 5 (f := .glo "Twice") rfl), He.glo_ok X G (c.fact 6 (f := .glo "Unfinished") rfl), of_decide_eq_true (more_fact cx 15 (f := fun K => decide (PySem.W.kitOne K (.ref (He.ga K "BadRow")) (.ref (He.ga K "BadRow")) = some true)) rfl), of_decide_eq_true (more_fact cx 16 (f := fun K => decide (PySem.W.kitOne K (.ref (He.ga K "BadRow")) (.ref (He.ga K "BookError")) = some true)) rfl), of_decide_eq_true (more_fact cx 17 (f := fun K => decide (PySem.W.kitOne K (.ref (He.ga K "BadRow")) (.ref (He.ga K "Falling")) = some false)) rfl), of_decide_eq_true (more_fact cx 18 (f := fun K => decide (PySem.W.kitOne K (.ref (He.ga K "BadRow")) (.ref (He.ga K "Misplaced")) = some false)) rfl), of_decide_eq_true (more_fact cx 19 (f := fun K => decide (PySem.W.kitOne K (.ref (He.ga K "BadRow")) (.ref (He.ga K "NoEntry")) = some false)) rfl), of_decide_eq_true (more_fact cx 20 (f := fun K => decide (PySem.W.kitOne K (.ref (He.ga K "BadRow")) (.ref (He.ga K "NotLet")) = some false)) rfl), of_decide_eq_true (more_fact cx 21 (f := fun K => decide (PySem.W.kitOne K (.ref (He.ga K "BadRow")) (.ref (He.ga K "Twice")) = some false)) rfl), of_decide_eq_true (more_fact cx 22 (f := fun K => decide (PySem.W.kitOne K (.ref (He.ga K "BadRow")) (.ref (He.ga K "Unfinished")) = some false)) rfl), of_decide_eq_true (more_fact cx 23 (f := fun K => decide (PySem.W.kitOne K (.ref (He.ga K "BadRow")) (.type "ValueError") = some true)) rfl), of_decide_eq_true (more_fact cx 24 (f := fun K => decide (PySem.W.kitOne K (.ref (He.ga K "Falling")) (.ref (He.ga K "BadRow")) = some false)) rfl), of_decide_eq_true (more_fact cx 25 (f := fun K => decide (PySem.W.kitOne K (.ref (He.ga K "Falling")) (.ref (He.ga K "BookError")) = some true)) rfl), of_decide_eq_true (more_fact cx 26 (f := fun K => decide (PySem.W.kitOne K (.ref (He.ga K "Falling")) (.ref (He.ga K "Falling")) = some true)) rfl), of_decide_eq_true (more_fact cx 27 (f := fun K => decide (PySem.W.kitOne K (.ref (He.ga K "Falling")) (.ref (He.ga K "Misplaced")) = some false)) rfl), of_decide_eq_true (more_fact cx 28 (f := fun K => decide (PySem.W.kitOne K (.ref (He.ga K "Falling")) (.ref (He.ga K "NoEntry")) = some false)) rfl), of_decide_eq_true (more_fact cx 29 (f := fun K => decide (PySem.W.kitOne K (.ref (He.ga K "Falling")) (.ref (He.ga K "NotLet")) = some false)) rfl), of_decide_eq_true (more_fact cx 30 (f := fun K => decide (PySem.W.kitOne K (.ref (He.ga K "Falling")) (.ref (He.ga K "Twice")) = some false)) rfl), of_decide_eq_true (more_fact cx 31 (f := fun K => decide (PySem.W.kitOne K (.ref (He.ga K "Falling")) (.ref (He.ga K "Unfinished")) = some false)) rfl), of_decide_eq_true (more_fact cx 32 (f := fun K => decide (PySem.W.kitOne K (.ref (He.ga K "Falling")) (.type "ValueError") = some true)) rfl), of_decide_eq_true (more_fact cx 33 (f := fun K => decide (PySem.W.kitOne K (.ref (He.ga K "Misplaced")) (.ref (He.ga K "BadRow")) = some false)) rfl), of_decide_eq_true (more_fact cx 34 (f := fun K => decide (PySem.W.kitOne K (.ref (He.ga K "Misplaced")) (.ref (He.ga K "BookError")) = some true)) rfl), of_decide_eq_true (more_fact cx 35 (f := fun K => decide (PySem.W.kitOne K (.ref (He.ga K "Misplaced")) (.ref (He.ga K "Falling")) = some false)) rfl), of_decide_eq_true (more_fact cx 36 (f := fun K => decide (PySem.W.kitOne K (.ref (He.ga K "Misplaced")) (.ref (He.ga K "Misplaced")) = some true)) rfl), of_decide_eq_true (more_fact cx 37 (f := fun K => decide (PySem.W.kitOne K (.ref (He.ga K "Misplaced")) (.ref (He.ga K "NoEntry")) = some false)) rfl), of_decide_eq_true (more_fact cx 38 (f := fun K => decide (PySem.W.kitOne K (.ref (He.ga K "Misplaced")) (.ref (He.ga K "NotLet")) = some false)) rfl), of_decide_eq_true (more_fact cx 39 (f := fun K => decide (PySem.W.kitOne K (.ref (He.ga K "Misplaced")) (.ref (He.ga K "Twice")) = some false)) rfl), of_decide_eq_true (more_fact cx 40 (f := fun K => decide (PySem.W.kitOne K (.ref (He.ga K "Misplaced")) (.ref (He.ga K "Unfinished")) = some false)) rfl), of_decide_eq_true (more_fact cx 41 (f := fun K => decide (PySem.W.kitOne K (.ref (He.ga K "Misplaced")) (.type "ValueError") = some true)) rfl), of_decide_eq_true (more_fact cx 42 (f := fun K => decide (PySem.W.kitOne K (.ref (He.ga K "NoEntry")) (.ref (He.ga K "BadRow")) = some false)) rfl), of_decide_eq_true (more_fact cx 43 (f := fun K => decide (PySem.W.kitOne K (.ref (He.ga K "NoEntry")) (.ref (He.ga K "BookError")) = some true)) rfl), of_decide_eq_true (more_fact cx 44 (f := fun K => decide (PySem.W.kitOne K (.ref (He.ga K "NoEntry")) (.ref (He.ga K "Falling")) = some false)) rfl), of_decide_eq_true (more_fact cx 45 (f := fun K => decide (PySem.W.kitOne K (.ref (He.ga K "NoEntry")) (.ref (He.ga K "Misplaced")) = some false)) rfl), of_decide_eq_true (more_fact cx 46 (f := fun K => decide (PySem.W.kitOne K (.ref (He.ga K "NoEntry")) (.ref (He.ga K "NoEntry")) = some true)) rfl), of_decide_eq_true (more_fact cx 47 (f := fun K => decide (PySem.W.kitOne K (.ref (He.ga K "NoEntry")) (.ref (He.ga K "NotLet")) = some false)) rfl), of_decide_eq_true (more_fact cx 48 (f := fun K => decide (PySem.W.kitOne K (.ref (He.ga K "NoEntry")) (.ref (He.ga K "Twice")) = some false)) rfl), of_decide_eq_true (more_fact cx 49 (f := fun K => decide (PySem.W.kitOne K (.ref (He.ga K "NoEntry")) (.ref (He.ga K "Unfinished")) = some false)) rfl), of_decide_eq_true (more_fact cx 50 (f := fun K => decide (PySem.W.kitOne K (.ref (He.ga K "NoEntry")) (.type "ValueError") = some true)) rfl), of_decide_eq_true (more_fact cx 51 (f := fun K => decide (PySem.W.kitOne K (.ref (He.ga K "NotLet")) (.ref (He.ga K "BadRow")) = some false)) rfl), of_decide_eq_true (more_fact cx 52 (f := fun K => decide (PySem.W.kitOne K (.ref (He.ga K "NotLet")) (.ref (He.ga K "BookError")) = some true)) rfl), of_decide_eq_true (more_fact cx 53 (f := fun K => decide (PySem.W.kitOne K (.ref (He.ga K "NotLet")) (.ref (He.ga K "Falling")) = some false)) rfl), of_decide_eq_true (more_fact cx 54 (f := fun K => decide (PySem.W.kitOne K (.ref (He.ga K "NotLet")) (.ref (He.ga K "Misplaced")) = some false)) rfl), of_decide_eq_true (more_fact cx 55 (f := fun K => decide (PySem.W.kitOne K (.ref (He.ga K "NotLet")) (.ref (He.ga K "NoEntry")) = some false)) rfl), of_decide_eq_true (more_fact cx 56 (f := fun K => decide (PySem.W.kitOne K (.ref (He.ga K "NotLet")) (.ref (He.ga K "NotLet")) = some true)) rfl), of_decide_eq_true (more_fact cx 57 (f := fun K => decide (PySem.W.kitOne K (.ref (He.ga K "NotLet")) (.ref (He.ga K "Twice")) = some false)) rfl), of_decide_eq_true (more_fact cx 58 (f := fun K => decide (PySem.W.kitOne K (.ref (He.ga K "NotLet")) (.ref (He.ga K "Unfinished")) = some false)) rfl), of_decide_eq_true (more_fact cx 59 (f := fun K => decide (PySem.W.kitOne K (.ref (He.ga K "NotLet")) (.type "ValueError") = some true)) rfl), of_decide_eq_true (more_fact cx 60 (f := fun K => decide (PySem.W.kitOne K (.ref (He.ga K "Twice")) (.ref (He.ga K "BadRow")) = some false)) rfl), of_decide_eq_true (more_fact cx 61 (f := fun K => decide (PySem.W.kitOne K (.ref (He.ga K "Twice")) (.ref (He.ga K "BookError")) = some true)) rfl), of_decide_eq_true (more_fact cx 62 (f := fun K => decide (PySem.W.kitOne K (.ref (He.ga K "Twice")) (.ref (He.ga K "Falling")) = some false)) rfl), of_decide_eq_true (more_fact cx 63 (f := fun K => decide (PySem.W.kitOne K (.ref (He.ga K "Twice")) (.ref (He.ga K "Misplaced")) = some false)) rfl), of_decide_eq_true (more_fact cx 64 (f := fun K => decide (PySem.W.kitOne K (.ref (He.ga K "Twice")) (.ref (He.ga K "NoEntry")) = some false)) rfl), of_decide_eq_true (more_fact cx 65 (f := fun K => decide (PySem.W.kitOne K (.ref (He.ga K "Twice")) (.ref (He.ga K "NotLet")) = some false)) rfl), of_decide_eq_true (more_fact cx 66 (f := fun K => decide (PySem.W.kitOne K (.ref (He.ga K "Twice")) (.ref (He.ga K "Twice")) = some true)) rfl), of_decide_eq_true (more_fact cx 67 (f := fun K => decide (PySem.W.kitOne K (.ref (He.ga K "Twice")) (.ref (He.ga K "Unfinished")) = some false)) rfl), of_decide_eq_true (more_fact cx 68 (f := fun K => decide (PySem.W.kitOne K (.ref (He.ga K "Twice")) (.type "ValueError") = some true)) rfl), of_decide_eq_true (more_fact cx 69 (f := fun K => decide (PySem.W.kitOne K (.ref (He.ga K "Unfinished")) (.ref (He.ga K "BadRow")) = some false)) rfl), of_decide_eq_true (more_fact cx 70 (f := fun K => decide (PySem.W.kitOne K (.ref (He.ga K "Unfinished")) (.ref (He.ga K "BookError")) = some true)) rfl), of_decide_eq_true (more_fact cx 71 (f := fun K => decide (PySem.W.kitOne K (.ref (He.ga K "Unfinished")) (.ref (He.ga K "Falling")) = some false)) rfl), of_decide_eq_true (more_fact cx 72 (f := fun K => decide (PySem.W.kitOne K (.ref (He.ga K "Unfinished")) (.ref (He.ga K "Misplaced")) = some false)) rfl), of_decide_eq_true (more_fact cx 73 (f := fun K => decide (PySem.W.kitOne K (.ref (He.ga K "Unfinished")) (.ref (He.ga K "NoEntry")) = some false)) rfl), of_decide_eq_true (more_fact cx 74 (f := fun K => decide (PySem.W.kitOne K (.ref (He.ga K "Unfinished")) (.ref (He.ga K "NotLet")) = some false)) rfl), of_decide_eq_true (more_fact cx 75 (f := fun K => decide (PySem.W.kitOne K (.ref (He.ga K "Unfinished")) (.ref (He.ga K "Twice")) = some false)) rfl), of_decide_eq_true (more_fact cx 76 (f := fun K => decide (PySem.W.kitOne K (.ref (He.ga K "Unfinished")) (.ref (He.ga K "Unfinished")) = some true)) rfl), of_decide_eq_true (more_fact cx 77 (f := fun K => decide (PySem.W.kitOne K (.ref (He.ga K "Unfinished")) (.type "ValueError") = some true)) rfl), of_decide_eq_true (more_fact cx 78 (f := fun K => decide (PySem.W.findIn K (.ref (He.ga K "BadRow")) "place" = some none)) rfl), of_decide_eq_true (more_fact cx 79 (f := fun K => decide (PySem.W.findIn K (.ref (He.ga K "Falling")) "place" = some none)) rfl), of_decide_eq_true (more_fact cx 80 (f := fun K => decide (PySem.W.findIn K (.ref (He.ga K "Misplaced")) "place" = some none)) rfl), of_decide_eq_true (more_fact cx 81 (f := fun K => decide (PySem.W.findIn K (.ref (He.ga K "NoEntry")) "number" = some none)) rfl), of_decide_eq_true (more_fact cx 82 (f := fun K => decide (PySem.W.findIn K (.ref (He.ga K "NotLet")) "number" = some none)) rfl), of_decide_eq_true (more_fact cx 83 (f := fun K => decide (PySem.W.findIn K (.ref (He.ga K "NotLet")) "rule" = some none)) rfl), of_decide_eq_true (more_fact cx 84 (f := fun K => decide (PySem.W.findIn K (.ref (He.ga K "Twice")) "place" = some none)) rfl), of_decide_eq_true (more_fact cx 85 (f := fun K => decide (PySem.W.findIn K (.ref (He.ga K "Unfinished")) "place" = some none)) rfl), oexB_ok (more_fact cx 86 (f := fun K => oexB K (He.ga K "BadRow")) rfl), oexB_ok (more_fact cx 87 (f := fun K => oexB K (He.ga K "Falling")) rfl), oexB_ok (more_fact cx 88 (f := fun K => oexB K (He.ga K "Misplaced")) rfl), oexB_ok (more_fact cx 89 (f := fun K => oexB K (He.ga K "NoEntry")) rfl), oexB_ok (more_fact cx 90 (f := fun K => oexB K (He.ga K "NotLet")) rfl), oexB_ok (more_fact cx 91 (f := fun K => oexB K (He.ga K "Twice")) rfl), oexB_ok (more_fact cx 92 (f := fun K => oexB K (He.ga K "Unfinished")) rfl), excDB_ok (more_fact cx 93 (f := fun K => excDB K (He.ga K "BadRow")) rfl), excDB_ok (more_fact cx 94 (f := fun K => excDB K (He.ga K "Falling")) rfl), excDB_ok (more_fact cx 95 (f := fun K => excDB K (He.ga K "Misplaced")) rfl), excDB_ok (more_fact cx 96 (f := fun K => excDB K (He.ga K "NoEntry")) rfl), excDB_ok (more_fact cx 97 (f := fun K => excDB K (He.ga K "NotLet")) rfl), excDB_ok (more_fact cx 98 (f := fun K => excDB K (He.ga K "Twice")) rfl), excDB_ok (more_fact cx 99 (f := fun K => excDB K (He.ga K "Unfinished")) rfl)⟩
  obtain ⟨fd__law_drawn, F__law_drawn⟩ := c.def_ 0 (d := D__law_drawn) rfl
  obtain ⟨fd__law_pick, F__law_pick⟩ := c.def_ 1 (d := D__law_pick) rfl
  obtain ⟨fd__law_letters, F__law_letters⟩ := c.def_ 2 (d := D__law_letters) rfl
  obtain ⟨fd_BadRow_init, F_BadRow_init⟩ := c.def_ 3 (d := D_BadRow_init) rfl
  obtain ⟨fd_Misplaced_init, F_Misplaced_init⟩ := c.def_ 4 (d := D_Misplaced_init) rfl
  obtain ⟨fd_Twice_init, F_Twice_init⟩ := c.def_ 5 (d := D_Twice_init) rfl
  obtain ⟨fd_Unfinished_init, F_Unfinished_init⟩ := c.def_ 6 (d := D_Unfinished_init) rfl
  obtain ⟨fd_Falling_init, F_Falling_init⟩ := c.def_ 7 (d := D_Falling_init) rfl
  obtain ⟨fd_NotLet_init, F_NotLet_init⟩ := c.def_ 8 (d := D_NotLet_init) rfl
  obtain ⟨fd_NoEntry_init, F_NoEntry_init⟩ := c.def_ 9 (d := D_NoEntry_init) rfl
  obtain ⟨fd__law_made, F__law_made⟩ := c.def_ 10 (d := D__law_made) rfl
  obtain ⟨fd__law_kinds, F__law_kinds⟩ := c.def_ 11 (d := D__law_kinds) rfl
  obtain ⟨fd__law_is, F__law_is⟩ := c.def_ 12 (d := D__law_is) rfl
  obtain ⟨fd_law, F_law⟩ := c.def_ 13 (d := D_law) rfl
  have e := hfa.symm.trans (He.glo_ok X G (c.fact 13 (f := .glo "law") rfl))
  cases e
  have b := FunD.bindsA (ps := ["_law_script"]) F_law fun _ _ _ _ _ _ us hl => match us, hl with | [_], _ => rfl
  refine ⟨fd_law, fun s v => b s [v] rfl, fun base hb hn => ?_⟩
  have d__law_drawn : Dn P w K mg base CX0 1 "_law_drawn" ["_law_script"] [] (sp__law_drawn K) := ⟨⟨_, _, [], ok__law_drawn F__law_drawn T , He.glo_ok X G (c.fact 0 (f := .glo "_law_drawn") rfl), F__law_drawn.kp, FunD.bindsN F__law_drawn fun _ _ _ _ _ _ us hl => match us, hl with | [_], _ => rfl, .nil⟩⟩
  have d__law_pick : Dn P w K mg base CX0 1 "_law_pick" ["_law_draw", "_law_many"] [] (sp__law_pick K) := ⟨⟨_, _, [], ok__law_pick F__law_pick T , He.glo_ok X G (c.fact 1 (f := .glo "_law_pick") rfl), F__law_pick.kp, FunD.bindsN F__law_pick fun _ _ _ _ _ _ us hl => match us, hl with | [_, _], _ => rfl, .nil⟩⟩
  have d__law_letters : Dn P w K mg base CX0 2 "_law_letters" ["_law_draw", "_law_many"] [] (sp__law_letters K) := ⟨⟨_, _, [], ok__law_letters F__law_letters T d__law_pick, He.glo_ok X G (c.fact 2 (f := .glo "_law_letters") rfl), F__law_letters.kp, FunD.bindsN F__law_letters fun _ _ _ _ _ _ us hl => match us, hl with | [_, _], _ => rfl, .nil⟩⟩
  have ok_BadRow_init' := ok_BadRow_init (P := P) (w := w) (base := base) F_BadRow_init T 
  obtain ⟨ds_x_BadRow_2, hv_x_BadRow_2, hb_x_BadRow_2⟩ := (⟨[], .nil, FunD.bindsN F_BadRow_init fun _ _ _ _ _ _ us hl => match us, hl with | [_, _, _], _ => rfl⟩ : ∃ ds, Vals [] ds ∧ Binds K fd_BadRow_init ["self", "words", "place"] ds)
  have x_BadRow_2 : XkD P w K mg base 1 (He.ga K "BadRow") "BadRow" ["self", "words", "place"] [] (sp_BadRow_init K) := ⟨⟨_, _, ds_x_BadRow_2, ok_BadRow_init', T.oex_BadRow, of_decide_eq_true (more_fact cx 8 (f := fun K => decide (PySem.W.findIn K (.ref (He.ga K "BadRow")) "__init__" = some (some (.ref (He.ma K (He.ga K "BadRow") "__init__"))))) rfl), of_decide_eq_true (more_fact cx 1 (f := fun K => decide (PySem.W.typeIn K (.ref (He.ma K (He.ga K "BadRow") "__init__")) = some (.type "function"))) rfl), He.glo_ok X G (c.fact 3 (f := .glo "BadRow") rfl), hb_x_BadRow_2, hv_x_BadRow_2⟩⟩
  have ok_Misplaced_init' := ok_Misplaced_init (P := P) (w := w) (base := base) F_Misplaced_init T 
  obtain ⟨ds_x_Misplaced_2, hv_x_Misplaced_2, hb_x_Misplaced_2⟩ := (⟨[], .nil, FunD.bindsN F_Misplaced_init fun _ _ _ _ _ _ us hl => match us, hl with | [_, _, _], _ => rfl⟩ : ∃ ds, Vals [] ds ∧ Binds K fd_Misplaced_init ["self", "words", "place"] ds)
  have x_Misplaced_2 : XkD P w K mg base 1 (He.ga K "Misplaced") "Misplaced" ["self", "words", "place"] [] (sp_Misplaced_init K) := ⟨⟨_, _, ds_x_Misplaced_2, ok_Misplaced_init', T.oex_Misplaced, of_decide_eq_true (more_fact cx 10 (f := fun K => decide (PySem.W.findIn K (.ref (He.ga K "Misplaced")) "__init__" = some (some (.ref (He.ma K (He.ga K "Misplaced") "__init__"))))) rfl), of_decide_eq_true (more_fact cx 3 (f := fun K => decide (PySem.W.typeIn K (.ref (He.ma K (He.ga K "Misplaced") "__init__")) = some (.type "function"))) rfl), He.glo_ok X G (c.fact 4 (f := .glo "Misplaced") rfl), hb_x_Misplaced_2, hv_x_Misplaced_2⟩⟩
  have ok_Twice_init' := ok_Twice_init (P := P) (w := w) (base := base) F_Twice_init T 
  obtain ⟨ds_x_Twice_2, hv_x_Twice_2, hb_x_Twice_2⟩ := (⟨[], .nil, FunD.bindsN F_Twice_init fun _ _ _ _ _ _ us hl => match us, hl with | [_, _, _], _ => rfl⟩ : ∃ ds, Vals [] ds ∧ Binds K fd_Twice_init ["self", "words", "place"] ds)
  have x_Twice_2 : XkD P w K mg base 1 (He.ga K "Twice") "Twice" ["self", "words", "place"] [] (sp_Twice_init K) := ⟨⟨_, _, ds_x_Twice_2, ok_Twice_init', T.oex_Twice, of_decide_eq_true (more_fact cx 13 (f := fun K => decide (PySem.W.findIn K (.ref (He.ga K "Twice")) "__init__" = some (some (.ref (He.ma K (He.ga K "Twice") "__init__"))))) rfl), of_decide_eq_true (more_fact cx 6 (f := fun K => decide (PySem.W.typeIn K (.ref (He.ma K (He.ga K "Twice") "__init__")) = some (.type "function"))) rfl), He.glo_ok X G (c.fact 5 (f := .glo "Twice") rfl), hb_x_Twice_2, hv_x_Twice_2⟩⟩
  have ok_Unfinished_init' := ok_Unfinished_init (P := P) (w := w) (base := base) F_Unfinished_init T 
  obtain ⟨ds_x_Unfinished_2, hv_x_Unfinished_2, hb_x_Unfinished_2⟩ := (⟨[], .nil, FunD.bindsN F_Unfinished_init fun _ _ _ _ _ _ us hl => match us, hl with | [_, _, _], _ => rfl⟩ : ∃ ds, Vals [] ds ∧ Binds K fd_Unfinished_init ["self", "words", "place"] ds)
  have x_Unfinished_2 : XkD P w K mg base 1 (He.ga K "Unfinished") "Unfinished" ["self", "words", "place"] [] (sp_Unfinished_init K) := ⟨⟨_, _, ds_x_Unfinished_2, ok_Unfinished_init', T.oex_Unfinished, of_decide_eq_true (more_fact cx 14 (f := fun K => decide (PySem.W.findIn K (.ref (He.ga K "Unfinished")) "__init__" = some (some (.ref (He.ma K (He.ga K "Unfinished") "__init__"))))) rfl), of_decide_eq_true (more_fact cx 7 (f := fun K => decide (PySem.W.typeIn K (.ref (He.ma K (He.ga K "Unfinished") "__init__")) = some (.type "function"))) rfl), He.glo_ok X G (c.fact 6 (f := .glo "Unfinished") rfl), hb_x_Unfinished_2, hv_x_Unfinished_2⟩⟩
  have ok_Falling_init' := ok_Falling_init (P := P) (w := w) (base := base) F_Falling_init T 
  obtain ⟨ds_x_Falling_2, hv_x_Falling_2, hb_x_Falling_2⟩ := (⟨[], .nil, FunD.bindsN F_Falling_init fun _ _ _ _ _ _ us hl => match us, hl with | [_, _, _], _ => rfl⟩ : ∃ ds, Vals [] ds ∧ Binds K fd_Falling_init ["self", "words", "place"] ds)
  have x_Falling_2 : XkD P w K mg base 1 (He.ga K "Falling") "Falling" ["self", "words", "place"] [] (sp_Falling_init K) := ⟨⟨_, _, ds_x_Falling_2, ok_Falling_init', T.oex_Falling, of_decide_eq_true (more_fact cx 9 (f := fun K => decide (PySem.W.findIn K (.ref (He.ga K "Falling")) "__init__" = some (some (.ref (He.ma K (He.ga K "Falling") "__init__"))))) rfl), of_decide_eq_true (more_fact cx 2 (f := fun K => decide (PySem.W.typeIn K (.ref (He.ma K (He.ga K "Falling") "__init__")) = some (.type "function"))) rfl), He.glo_ok X G (c.fact 7 (f := .glo "Falling") rfl), hb_x_Falling_2, hv_x_Falling_2⟩⟩
  have ok_NotLet_init' := ok_NotLet_init (P := P) (w := w) (base := base) F_NotLet_init T 
  obtain ⟨ds_x_NotLet_2, hv_x_NotLet_2, hb_x_NotLet_2⟩ := F_NotLet_init.binds1 (ps := ["self", "words", "rule", "number"]) 3 0 (fun z => by cases z) rfl fun _ _ _ _ _ _ _ us its hl hi => match us, hl, its, hi with | [_, _, _], _, [_], _ => ⟨_, rfl, rfl⟩
  have x_NotLet_2 : XkD P w K mg base 1 (He.ga K "NotLet") "NotLet" ["self", "words", "rule", "number"] [V.int 0] (sp_NotLet_init K) := ⟨⟨_, _, ds_x_NotLet_2, ok_NotLet_init', T.oex_NotLet, of_decide_eq_true (more_fact cx 12 (f := fun K => decide (PySem.W.findIn K (.ref (He.ga K "NotLet")) "__init__" = some (some (.ref (He.ma K (He.ga K "NotLet") "__init__"))))) rfl), of_decide_eq_true (more_fact cx 5 (f := fun K => decide (PySem.W.typeIn K (.ref (He.ma K (He.ga K "NotLet") "__init__")) = some (.type "function"))) rfl), He.glo_ok X G (c.fact 8 (f := .glo "NotLet") rfl), hb_x_NotLet_2, hv_x_NotLet_2⟩⟩
  obtain ⟨ds_x_NotLet_3, hv_x_NotLet_3, hb_x_NotLet_3⟩ := F_NotLet_init.binds1 (ps := ["self", "words", "rule", "number"]) 4 1 (fun z => by cases z) rfl fun _ _ _ _ _ _ _ us its hl hi => match us, hl, its, hi with | [_, _, _, _], _, [_], _ => ⟨_, rfl, rfl⟩
  have x_NotLet_3 : XkD P w K mg base 1 (He.ga K "NotLet") "NotLet" ["self", "words", "rule", "number"] [] (sp_NotLet_init K) := ⟨⟨_, _, ds_x_NotLet_3, ok_NotLet_init', T.oex_NotLet, of_decide_eq_true (more_fact cx 12 (f := fun K => decide (PySem.W.findIn K (.ref (He.ga K "NotLet")) "__init__" = some (some (.ref (He.ma K (He.ga K "NotLet") "__init__"))))) rfl), of_decide_eq_true (more_fact cx 5 (f := fun K => decide (PySem.W.typeIn K (.ref (He.ma K (He.ga K "NotLet") "__init__")) = some (.type "function"))) rfl), He.glo_ok X G (c.fact 8 (f := .glo "NotLet") rfl), hb_x_NotLet_3, hv_x_NotLet_3⟩⟩
  have ok_NoEntry_init' := ok_NoEntry_init (P := P) (w := w) (base := base) F_NoEntry_init T 
  obtain ⟨ds_x_NoEntry_2, hv_x_NoEntry_2, hb_x_NoEntry_2⟩ := (⟨[], .nil, FunD.bindsN F_NoEntry_init fun _ _ _ _ _ _ us hl => match us, hl with | [_, _, _], _ => rfl⟩ : ∃ ds, Vals [] ds ∧ Binds K fd_NoEntry_init ["self", "words", "number"] ds)
  have x_NoEntry_2 : XkD P w K mg base 1 (He.ga K "NoEntry") "NoEntry" ["self", "words", "number"] [] (sp_NoEntry_init K) := ⟨⟨_, _, ds_x_NoEntry_2, ok_NoEntry_init', T.oex_NoEntry, of_decide_eq_true (more_fact cx 11 (f := fun K => decide (PySem.W.findIn K (.ref (He.ga K "NoEntry")) "__init__" = some (some (.ref (He.ma K (He.ga K "NoEntry") "__init__"))))) rfl), of_decide_eq_true (more_fact cx 4 (f := fun K => decide (PySem.W.typeIn K (.ref (He.ma K (He.ga K "NoEntry") "__init__")) = some (.type "function"))) rfl), He.glo_ok X G (c.fact 9 (f := .glo "NoEntry") rfl), hb_x_NoEntry_2, hv_x_NoEntry_2⟩⟩
  have d__law_made : Dn P w K mg base CX0 3 "_law_made" ["_law_which", "_law_words", "_law_place"] [] (sp__law_made K) := ⟨⟨_, _, [], ok__law_made F__law_made T x_BadRow_2 x_Falling_2 x_Misplaced_2 x_Twice_2 x_Unfinished_2, He.glo_ok X G (c.fact 10 (f := .glo "_law_made") rfl), F__law_made.kp, FunD.bindsN F__law_made fun _ _ _ _ _ _ us hl => match us, hl with | [_, _, _], _ => rfl, .nil⟩⟩
  have d__law_kinds : Dn P w K mg base CX0 1 "_law_kinds" ["_law_error"] [] (sp__law_kinds K) := ⟨⟨_, _, [], ok__law_kinds F__law_kinds T , He.glo_ok X G (c.fact 11 (f := .glo "_law_kinds") rfl), F__law_kinds.kp, FunD.bindsN F__law_kinds fun _ _ _ _ _ _ us hl => match us, hl with | [_], _ => rfl, .nil⟩⟩
  have d__law_is : Dn P w K mg base CX0 2 "_law_is" ["_law_error", "_law_which"] [] (sp__law_is K) := ⟨⟨_, _, [], ok__law_is F__law_is T d__law_kinds, He.glo_ok X G (c.fact 12 (f := .glo "_law_is") rfl), F__law_is.kp, FunD.bindsN F__law_is fun _ _ _ _ _ _ us hl => match us, hl with | [_, _], _ => rfl, .nil⟩⟩
  exact ok_law F_law T d__law_drawn d__law_letters d__law_pick d__law_made d__law_is x_NoEntry_2 x_NotLet_2 x_NotLet_3
end L2.Toy
open PySem PySem.W PySem.Calls PyProof.Rows
set_option maxRecDepth 100000 in
set_option maxHeartbeats 0 in
theorem PySem.Challenge.cw_inningsbook_k09_refusals_apart_holds : PySem.Challenge.rw_inningsbook_k09_refusals_apart.Holds := by
  w_on; o_law
  refine HandSHeadRun.head_any (r := OpenLaw.row PySem.Challenge.rw_inningsbook_k09_refusals_apart) (q := view (OpenLaw.row PySem.Challenge.rw_inningsbook_k09_refusals_apart).prog [16]) (H := L2.Toy.hk) (ob := L2.Toy.ob) (M := 3000) (loose := L2.Toy.loose) (d := HandSHeadRun.topDef (OpenLaw.row PySem.Challenge.rw_inningsbook_k09_refusals_apart).prog 16) (kwd := []) L2.Toy.ob_eq
    (by kernel_rfl) (fun s => by kernel_rfl) L2.Toy.run (by kernel_rfl) (by kernel_rfl) (by kernel_rfl) (by rfl) (by first | assumption | decide +kernel) (by decide +kernel) ⟨rfl, rfl, rfl, rfl, rfl, by decide +kernel⟩ ?hw ?hc
  case hw => w_witness2
  case hc =>
    refine L2.walk_ofE (l := PySem.Challenge.rw_inningsbook_k09_refusals_apart) (n := 63) (k := 4) (x := "_law_script") (CX := L2.CX0) rfl (by decide) (by kernel_rfl) ⟨rfl, by decide, by decide⟩ ?F (fun _ _ _ _ z => z)
    intro w mg fa h Y G hmg0
    obtain ⟨K, KX, c, cx⟩ := Y
    have hmg : mg ("law" : PySem.Str) = some (.ref fa) := by
      have e : (HandSHeadRun.topDef (OpenLaw.row PySem.Challenge.rw_inningsbook_k09_refusals_apart).prog 16).name = ("law" : PySem.Str) := by kernel_rfl
      rw [← e]
      exact hmg0
    obtain ⟨fd, hb, hF⟩ := L2.Toy.facts (P := (PySem.Challenge.rw_inningsbook_k09_refusals_apart).prog) (w := w) KX G hmg c cx
    exact ⟨K, fd, L2.Toy.sp_law K, KX, hb, fun H a ns hl _ hS => ⟨L2.V.ref a, rfl, a, ns, rfl, hS, hl, fun _ => rfl⟩, hF⟩
#print axioms PySem.Challenge.cw_inningsbook_k09_refusals_apart_holds

