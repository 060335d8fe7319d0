import PyProof.Rows.All
import Wide.All
import OpenK.AllK
import Wide.FinOn
import KE.KStateDown
import Lean
import HandS.ForMost
import HandS.Steps
import HandS.IsInst
import HandS.More
import HandS.Exc
import HandS.WordsExc
import HandS.Defaults
import HandS.Head0
import HandS.Head1
import HandS.Head2
import HandS.HeadEnd
import HandS.HeadHook1
import HandS.HeadHook2
import HandS.Style
import HandS.TupLe
import HandS.Rev
import HandS.RevRange
import HandS.DictTup
import HandS.RaiseFrom
import HandS.SuiteRaise
import HandS.SetKeys
import HandS.ExcInit
import HandS.ExcField
import HandS.Walk
import PySem.Challenge.RW_inningsbook_k64_whole_rain
set_option Elab.async false
set_option linter.all false
set_option maxRecDepth 100000
set_option maxHeartbeats 4000000

namespace L2.A
open PySem PySem.Spec PyProof.Rows
/-! a layer of our own over HandS: defs by name, operators for every kind of value, one step a construct -/
/-- what is at fp may change, the rest stays -/
def Kp (fp : Addr → Prop) (H H' : Hp) : Prop := ∀ a o, H a = some o → ¬ fp a → H' a = some o
theorem Kp.same {fp : Addr → Prop} {H H' : Hp} (h : Same H H') : Kp fp H H' := fun a o e _ => h a o e
theorem Kp.refl {fp : Addr → Prop} {H : Hp} : Kp fp H H := fun _ _ e _ => e
theorem Kp.trans {fp : Addr → Prop} {H H1 H2 : Hp} (a : Kp fp H H1) (b : Kp fp H1 H2) : Kp fp H H2 := fun x o e n => b x o (a x o e n) n
theorem Kp.upd {H : Hp} {p : Addr} {o : HO} : Kp (fun a => a = p) H (upd H p o) := fun a u e n => by rw [upd_ne n]; exact e
theorem same_new {H : Hp} {p : Addr} {o : HO} (h : H p = none) : Same H (upd H p o) := fun a u e => by rw [upd_ne (ne_of_none e h)]; exact e
theorem same_new2 {H H' : Hp} {p : Addr} {o : HO} (s : Same H H') (h : H' p = none) : Same H (upd H' p o) := s.trans (same_new h)
/-- an object that H does not know may change -/
theorem same_mut {H H' : Hp} {p : Addr} {o : HO} (s : Same H H') (h : H p = none) : Same H (upd H' p o) := fun a u e => by rw [upd_ne (ne_of_none e h)]; exact s a u e
theorem same_kp {H H1 H2 : Hp} {p : Addr} (s : Same H H1) (k : Kp (fun a => a = p) H1 H2) (h : H p = none) : Same H H2 := fun a o e => k a o (s a o e) (ne_of_none e h)
theorem ge_same {H H' : Hp} {a : Addr} {o : HO} (s : Same H H') (h : H a = some o) : H' a = some o := s a o h

section
variable {P : Program} {w : World} {K : PySem.W.Frag} {mg : Str → Option Value} {base : Heap} {CX : CXT} {k : Nat}
/-- a def of the top by its name -/
structure Dn (P : Program) (w : World) (K : PySem.W.Frag) (mg : Str → Option Value) (base : Heap) (CX : CXT) (k : Nat) (x : Str) (ps : List Str) (dvs : List V) (sp : Sp) : Prop where
  ex : ∃ (f : Addr) (fd : FuncData) (ds : List Value), FnOk P w K mg base CX k f fd ps sp ∧ mg x = some (.ref f) ∧ PySem.W.keepIn K (.ref f) = true ∧ Binds K fd ps ds ∧ Vals dvs ds
end
section
variable {X : Cx} {CX : CXT} {k : Nat} {ps : List Str} {dvs : List V} {sp : Sp} {E : XK} {x : Str} {p pos : Pos} {e : Expr} {es : List Expr} {t : TA}
theorem pe_d (D : Dn X.prog X.w X.K X.mg X.base CX k x ps dvs sp) (hr : Room k X.A) (hg : Gl X x) (hx : Passes CX X E) (ha : PA X (e :: es) t) (hdb : (x == ("__debug__" : Str)) = false := by decide)
    (he : starEach (e :: es) X.env = (false, eval e X.env) :: starEach es X.env := by rfl) (hpl : (backTo pos (starEach es X.env)).any (·.1) = false := by rfl) : PE X (.Call (.Name x p) (e :: es) [] pos) (tCall sp dvs E t) := by
  obtain ⟨f, fd, ds, F, hm, hk, hb, hv⟩ := D.ex
  exact pe_call F hr hg hm hk hb hv hx ha hdb he hpl
theorem pe_d0 (D : Dn X.prog X.w X.K X.mg X.base CX k x ps dvs sp) (hr : Room k X.A) (hg : Gl X x) (hx : Passes CX X E) (hdb : (x == ("__debug__" : Str)) = false := by decide) : PE X (.Call (.Name x p) [] [] pos) (tCall sp dvs E tNil) := by
  obtain ⟨f, fd, ds, F, hm, hk, hb, hv⟩ := D.ex
  exact pe_call0 F hr hg hm hk hb hv hx hdb
end

/-! ### steps -/
section
variable {t u : TS} {D : Ends} {σ σ' : St} {H : Hp} {te ta tb tc : TE} {g : TG} {v : V} {i : Nat} {Q : VK} {r r' : R2} {tt tu : TT} {QB : Bool → Hp → Prop} {QS : St → Hp → Prop} {ts : TA} {QL : List V → Hp → Prop} {K : PySem.W.Frag}
theorem go_seq (h : t { D with nx := u D } σ H) : tSeq t u D σ H := h
theorem go_asg (h : te σ H fun x H1 => g x σ H1 D.nx) : tAsg te g D σ H := h
theorem go_name (e : σ.set i (some v) = σ') (h : QS σ' H) : gName i v σ H QS := by show QS (σ.set i (some v)) H; rw [e]; exact h
theorem go_var (e : σ[i]? = some (some v)) (h : Q v H) : tVar i σ H Q := ⟨v, e, h⟩
theorem go_c (h : Q v H) : tC v σ H Q := h
theorem go_op (h : ta σ H fun x H1 => tb σ H1 fun y H2 => r x y H2 Q) : tOp r ta tb σ H Q := h
theorem go_un {ru : V → Hp → VK → Prop} (h : ta σ H fun x H1 => ru x H1 Q) : tUn ru ta σ H Q := h
theorem go_I0 {f : Int → Int → V} {a b : Int} (h : Q (f a b) H) : rI0 f (.int a) (.int b) H Q := ⟨a, b, rfl, rfl, h⟩
theorem go_I {C : Int → Int → Prop} {f : Int → Int → V} {a b : Int} (c : C a b) (h : Q (f a b) H) : rI C f (.int a) (.int b) H Q := ⟨a, b, rfl, rfl, c, h⟩
theorem go_U {f : Int → V} {a : Int} (h : Q (f a) H) : rU f (.int a) H Q := ⟨a, rfl, h⟩
theorem go_ret (h : te σ H D.rt) : tRet te D σ H := h
theorem go_retN (h : D.rt .non H) : tRetN D σ H := h
theorem go_next (h : D.nx σ H) : tNext D σ H := h
theorem go_brk (h : D.bk σ H) : tBreak D σ H := h
theorem go_ct (h : D.ct σ H) : tCont D σ H := h
theorem go_if (h : tt σ H fun b H1 => if b = true then t D σ H1 else u D σ H1) : tIfS tt t u D σ H := h
theorem go_ifx (h : tt σ H fun c H1 => if c = true then ta σ H1 Q else tb σ H1 Q) : tIf tt ta tb σ H Q := h
def KB (x : V) (H : Hp) (QB : Bool → Hp → Prop) : Prop := ∃ k, x = .bl k ∧ QB k H
theorem go_test (h : te σ H fun x H' => KB x H' QB) : tTest te σ H QB := h
theorem go_B (h : te σ H fun x H' => KB x H' QB) : tB te σ H QB := h
theorem go_bl {b : Bool} (h : QB b H) : KB (.bl b) H QB := ⟨b, rfl, h⟩
theorem go_not (h : tt σ H fun c H1 => QB (!c) H1) : tNot tt σ H QB := h
theorem go_and (h : tt σ H fun c H1 => if c = true then tu σ H1 QB else QB false H1) : tAnd tt tu σ H QB := h
theorem go_or (h : tt σ H fun c H1 => if c = true then QB true H1 else tu σ H1 QB) : tOr tt tu σ H QB := h
theorem go_andV (h : ta σ H fun x H1 => KB x H1 fun c H1 => if c = true then tb σ H1 Q else Q (.bl false) H1) : tAndV ta tb σ H Q := h
theorem go_orV (h : ta σ H fun x H1 => KB x H1 fun c H1 => if c = true then Q (.bl true) H1 else tb σ H1 Q) : tOrV ta tb σ H Q := h
theorem go_notV (h : ta σ H fun x H1 => KB x H1 fun c H1 => Q (.bl (!c)) H1) : tNotV ta σ H Q := h
theorem go_drop (h : te σ H fun _ H1 => D.nx σ H1) : tDrop te D σ H := h
theorem go_nil (h : QL [] H) : tNil σ H QL := h
theorem go_cons (h : te σ H fun x H1 => ts σ H1 fun xs H2 => QL (x :: xs) H2) : tCons te ts σ H QL := h
def NewO (o : HO) (H : Hp) (Q : VK) : Prop := ∀ p, H p = none → Q (.ref p) (upd H p o)
def NewT (xs : List V) (H : Hp) (Q : VK) : Prop := xs.length ≤ sizeLine ∧ NewO (.tup xs) H Q
def NewL (xs : List V) (H : Hp) (Q : VK) : Prop := xs.length ≤ sizeLine ∧ NewO (.lst xs) H Q
theorem go_tup (h : ts σ H fun xs H1 => NewT xs H1 Q) : tTup ts σ H Q := h
theorem go_lst (h : ts σ H fun xs H1 => NewL xs H1 Q) : tLst ts σ H Q := h
theorem go_newT {xs : List V} (e : Nat.ble xs.length 1000 = true) (h : NewO (.tup xs) H Q) : NewT xs H Q := ⟨Nat.le_trans (Nat.le_of_ble_eq_true e) (by decide), h⟩
theorem go_newL {xs : List V} (e : Nat.ble xs.length 1000 = true) (h : NewO (.lst xs) H Q) : NewL xs H Q := ⟨Nat.le_trans (Nat.le_of_ble_eq_true e) (by decide), h⟩
theorem go_CB {rc : List V → Hp → VK → Prop} (h : ts σ H fun vs H1 => rc vs H1 Q) : tCB rc ts σ H Q := h
theorem go_call {sp : Sp} {dvs : List V} {E : XK} (h : ts σ H fun vs H1 => sp (vs ++ dvs) H1 Q E) : tCall sp dvs E ts σ H Q := h
theorem go_eq {x y : V} (e : scal x y = true) (h : Q (.bl (decide (x = y))) H) : rEq x y H Q := ⟨e, h⟩
theorem go_ne {x y : V} (e : scal x y = true) (h : Q (.bl (!decide (x = y))) H) : rNe x y H Q := ⟨e, h⟩
theorem go_chain (h : ta σ H fun x H1 => tb σ H1 fun y H2 => r x y H2 fun z H3 => KB z H3 fun k H3 => (if k = true then tc σ H3 fun w' H4 => r' y w' H4 Q else Q (.bl false) H3)) : tChain r r' ta tb tc σ H Q := h
theorem go_gtup {n : Nat} {tg : TGs} {a : Addr} {xs : List V} (hs : SqT K H a xs) (hl : xs.length = n) (h : tg xs σ H QS) : gTup K n tg (.ref a) σ H QS := ⟨a, xs, rfl, hs, hl, h⟩
theorem go_gcons {tg : TGs} {vs : List V} (h : g v σ H fun σ' H' => tg vs σ' H' QS) : gCons g tg (v :: vs) σ H QS := ⟨v, vs, rfl, h⟩
theorem go_gnil (h : QS σ H) : gNil [] σ H QS := ⟨rfl, h⟩
theorem go_nx {a : St → Hp → Prop} {b : VK} {c d : St → Hp → Prop} (h : a σ H) : Ends.nx ⟨a, b, c, d⟩ σ H := h
theorem go_rt {a : St → Hp → Prop} {b : VK} {c d : St → Hp → Prop} (h : b v H) : Ends.rt ⟨a, b, c, d⟩ v H := h
theorem go_bk {a : St → Hp → Prop} {b : VK} {c d : St → Hp → Prop} (h : c σ H) : Ends.bk ⟨a, b, c, d⟩ σ H := h
theorem go_ctx {a : St → Hp → Prop} {b : VK} {c d : St → Hp → Prop} (h : d σ H) : Ends.ct ⟨a, b, c, d⟩ σ H := h
theorem go_sub {to ti : TE} {ps : TSet} (h : to σ H fun o H1 => ti σ H1 fun i H2 => ps o i v H2 fun H3 => QS σ H3) : gSub to ti ps v σ H QS := h
theorem iteNT {A B : Prop} (h : B) : if (!true) = true then A else B := by rw [if_neg (by decide)]; exact h
theorem iteNF {A B : Prop} (h : A) : if (!false) = true then A else B := by rw [if_pos (by decide)]; exact h
theorem if2 {b : Bool} {A B : Prop} (h1 : b = true → A) (h2 : b = false → B) : if b = true then A else B := by
  cases b with
  | true => exact h1 rfl
  | false => exact h2 rfl
end
end L2.A

namespace L2.A
open PySem PySem.Spec PyProof.Rows
/-! ### operators for every kind of value -/
theorem boot_len : bootBuiltins "len" = some (.builtin "len") := by decide +kernel
theorem boot_isinstance : bootBuiltins "isinstance" = some (.builtin "isinstance") := by decide +kernel
theorem boot_sum : bootBuiltins "sum" = some (.builtin "sum") := by decide +kernel
theorem boot_max : bootBuiltins "max" = some (.builtin "max") := by decide +kernel
theorem boot_min : bootBuiltins "min" = some (.builtin "min") := by decide +kernel
theorem boot_all : bootBuiltins "all" = some (.builtin "all") := by decide +kernel
theorem boot_any : bootBuiltins "any" = some (.builtin "any") := by decide +kernel
theorem boot_abs : bootBuiltins "abs" = some (.builtin "abs") := by decide +kernel
theorem boot_sorted : bootBuiltins "sorted" = some (.builtin "sorted") := by decide +kernel
theorem boot_int : bootBuiltins "int" = some (.type "int") := by decide +kernel
theorem boot_str : bootBuiltins "str" = some (.type "str") := by decide +kernel
theorem boot_bool : bootBuiltins "bool" = some (.type "bool") := by decide +kernel
theorem boot_list : bootBuiltins "list" = some (.type "list") := by decide +kernel
theorem boot_tuple : bootBuiltins "tuple" = some (.type "tuple") := by decide +kernel
theorem boot_dict : bootBuiltins "dict" = some (.type "dict") := by decide +kernel
theorem boot_set : bootBuiltins "set" = some (.type "set") := by decide +kernel
theorem boot_ValueError : bootBuiltins "ValueError" = some (.type "ValueError") := by decide +kernel
section
variable {X : Cx} {K : PySem.W.Frag} {H : Hp} {Q : VK} {v : V}
abbrev rStrA : R2 := fun x y H Q => ∃ i j, x = .str i ∧ y = .str j ∧ i.length + j.length ≤ sizeLine ∧ Q (.str (i ++ j)) H
abbrev rIntB : R2 := fun x y H Q => ∃ i k, x = .int i ∧ y = .bl k ∧ Q (.int (i + b2i k)) H
def rAddX (K : PySem.W.Frag) : R2 := fun x y H Q => rI0 (fun i j => .int (i + j)) x y H Q ∨ rStrA x y H Q ∨ rCat x y H Q ∨ rCatT K x y H Q ∨ rIntB x y H Q
theorem op_addX : OpR X (binaryOp .Add) (rAddX X.K) := op_add.or (op_add_str.or (op_cat.or (op_catT.or op_add_ib)))
theorem go_addI {a b : Int} (h : Q (.int (a + b)) H) : rAddX K (.int a) (.int b) H Q := .inl ⟨a, b, rfl, rfl, h⟩
theorem go_addS {a b : Str} (z : a.length + b.length ≤ sizeLine) (h : Q (.str (a ++ b)) H) : rAddX K (.str a) (.str b) H Q := .inr (.inl ⟨a, b, rfl, rfl, z, h⟩)
theorem go_addB {a : Int} {b : Bool} (h : Q (.int (a + b2i b)) H) : rAddX K (.int a) (.bl b) H Q := .inr (.inr (.inr (.inr ⟨a, b, rfl, rfl, h⟩)))
theorem go_addL {p q : Addr} {xs ys : List V} (hp : H p = some (.lst xs)) (hq : H q = some (.lst ys)) (z : xs.length + ys.length ≤ sizeLine) (h : NewO (.lst (xs ++ ys)) H Q) : rAddX K (.ref p) (.ref q) H Q :=
  .inr (.inr (.inl ⟨p, q, xs, ys, rfl, rfl, hp, hq, z, h⟩))
theorem go_addT {p q : Addr} {x : V} {xs : List V} {y : V} {ys : List V} (hp : SqT K H p (x :: xs)) (hq : SqT K H q (y :: ys)) (z : (x :: xs).length + (y :: ys).length ≤ sizeLine) (h : NewO (.tup (x :: xs ++ y :: ys)) H Q) : rAddX K (.ref p) (.ref q) H Q :=
  .inr (.inr (.inr (.inl ⟨p, q, _, _, rfl, rfl, hp, hq, by simp, z, (fun e => nomatch e), fun _ => h⟩)))
/-- whole numbers, or a list so many times -/
def rMulX : R2 := fun x y H Q => rI CMul (fun i j => .int (i * j)) x y H Q ∨ rRep x y H Q
theorem op_mulX : OpR X (binaryOp .Mult) rMulX := op_mul.or op_rep
theorem go_mulI {a b : Int} (c : CMul a b) (h : Q (.int (a * b)) H) : rMulX (.int a) (.int b) H Q := .inl ⟨a, b, rfl, rfl, c, h⟩
/-- == -/
def rEqX (K : PySem.W.Frag) : R2 := fun x y H Q => rEq x y H Q ∨ rEqD K x y H Q
def rNeX (K : PySem.W.Frag) : R2 := fun x y H Q => rNe x y H Q ∨ rNeD K x y H Q
theorem op_eqX (hu : X.A.units + 64 < cLine) : OpR X (compareOp .Eq) (rEqX X.K) := op_eq.or (op_eqD hu)
theorem op_neX (hu : X.A.units + 64 < cLine) : OpR X (compareOp .NotEq) (rNeX X.K) := op_ne.or (op_neD hu)
theorem go_eqS {x y : V} (e : scal x y = true) (h : Q (.bl (decide (x = y))) H) : rEqX K x y H Q := .inl ⟨e, h⟩
theorem go_neS {x y : V} (e : scal x y = true) (h : Q (.bl (!decide (x = y))) H) : rNeX K x y H Q := .inl ⟨e, h⟩
/-- in -/
theorem op_in_d (hu : X.A.units + 1 < cLine) : OpR X (compareOp .In) (fun y x H Q => ∃ a o, x = .ref a ∧ DGet H a y o ∧ Q (.bl o.isSome) H) := by
  intro pins s σ H y x iv u Q I ry rx h
  obtain ⟨a, o, rfl, g, q⟩ := h
  cases rx
  exact d_in hu I g ry fun s3 I3 => ⟨.bl o.isSome, H, I3, rfl, q⟩
theorem op_notIn_d (hu : X.A.units + 1 < cLine) : OpR X (compareOp .NotIn) (fun y x H Q => ∃ a o, x = .ref a ∧ DGet H a y o ∧ Q (.bl (!o.isSome)) H) := by
  intro pins s σ H y x iv u Q I ry rx h
  obtain ⟨a, o, rfl, g, q⟩ := h
  cases rx
  exact d_notIn hu I g ry fun s3 I3 => ⟨.bl (!o.isSome), H, I3, rfl, q⟩
abbrev rInD : R2 := fun y x H Q => ∃ a o, x = .ref a ∧ DGet H a y o ∧ Q (.bl o.isSome) H
abbrev rNotInD : R2 := fun y x H Q => ∃ a o, x = .ref a ∧ DGet H a y o ∧ Q (.bl (!o.isSome)) H
def rInX (K : PySem.W.Frag) : R2 := fun x y H Q => rIn K false x y H Q ∨ rInS x y H Q ∨ rInD x y H Q
def rNotInX (K : PySem.W.Frag) : R2 := fun x y H Q => rIn K true x y H Q ∨ rNotInS x y H Q ∨ rNotInD x y H Q
theorem op_inX (hu : X.A.units + 1 < cLine) : OpR X (compareOp .In) (rInX X.K) := op_in_seq.or (op_inS.or (op_in_d hu))
theorem op_notInX (hu : X.A.units + 1 < cLine) : OpR X (compareOp .NotIn) (rNotInX X.K) := op_notIn_seq.or (op_notInS.or (op_notIn_d hu))
theorem go_inL {x : V} {p : Addr} {xs : List V} (hp : SqL K H p xs) (fx : flatV x = true) (fs : xs.all flatV = true) (h : Q (.bl (inV x xs)) H) : rInX K x (.ref p) H Q := .inl ⟨p, xs, rfl, .inl hp, fx, fs, h⟩
theorem go_inT {x : V} {p : Addr} {xs : List V} (hp : SqT K H p xs) (fx : flatV x = true) (fs : xs.all flatV = true) (h : Q (.bl (inV x xs)) H) : rInX K x (.ref p) H Q := .inl ⟨p, xs, rfl, .inr hp, fx, fs, h⟩
theorem go_inSg {c : Nat} {z : Str} (h : Q (.bl (decide (c ∈ z.cps.toList))) H) : rInX K (.str ⟨#[c]⟩) (.str z) H Q := .inr (.inl ⟨c, z, rfl, rfl, h⟩)
theorem go_inK {p : Addr} {kvs : List (Key × V)} (k : Key) (hp : H p = some (.dK kvs)) (h : Q (.bl (valV kvs k).isSome) H) : rInX K (kV k) (.ref p) H Q := .inr (.inr ⟨p, _, rfl, DGet.k hp, h⟩)
theorem go_ninL {x : V} {p : Addr} {xs : List V} (hp : SqL K H p xs) (fx : flatV x = true) (fs : xs.all flatV = true) (h : Q (.bl (!inV x xs)) H) : rNotInX K x (.ref p) H Q := .inl ⟨p, xs, rfl, .inl hp, fx, fs, h⟩
theorem go_ninT {x : V} {p : Addr} {xs : List V} (hp : SqT K H p xs) (fx : flatV x = true) (fs : xs.all flatV = true) (h : Q (.bl (!inV x xs)) H) : rNotInX K x (.ref p) H Q := .inl ⟨p, xs, rfl, .inr hp, fx, fs, h⟩
theorem go_ninSg {c : Nat} {z : Str} (h : Q (.bl (!decide (c ∈ z.cps.toList))) H) : rNotInX K (.str ⟨#[c]⟩) (.str z) H Q := .inr (.inl ⟨c, z, rfl, rfl, h⟩)
theorem go_ninK {p : Addr} {kvs : List (Key × V)} (k : Key) (hp : H p = some (.dK kvs)) (h : Q (.bl (!(valV kvs k).isSome)) H) : rNotInX K (kV k) (.ref p) H Q := .inr (.inr ⟨p, _, rfl, DGet.k hp, h⟩)
/-- is: None alone, or a truth -/
abbrev rIsO : R2 := fun x y H Q => ∃ a b oa ob, x = .ref a ∧ y = .ref b ∧ H a = some oa ∧ isObj oa = true ∧ H b = some ob ∧ isObj ob = true ∧ Q (.bl (decide (a = b))) H
abbrev rNotO : R2 := fun x y H Q => ∃ a b oa ob, x = .ref a ∧ y = .ref b ∧ H a = some oa ∧ isObj oa = true ∧ H b = some ob ∧ isObj ob = true ∧ Q (.bl (!decide (a = b))) H
abbrev rIsC (K : PySem.W.Frag) : R2 := fun x y H Q => ∃ a b, x = V.ref a ∧ y = V.ref b ∧ (a = b ∨ (PySem.W.makesIn K a = true ∧ PySem.W.makesIn K b = true)) ∧ Q (.bl (decide (a = b))) H
abbrev rNotC (K : PySem.W.Frag) : R2 := fun x y H Q => ∃ a b, x = V.ref a ∧ y = V.ref b ∧ (a = b ∨ (PySem.W.makesIn K a = true ∧ PySem.W.makesIn K b = true)) ∧ Q (.bl (!decide (a = b))) H
def rIsX (K : PySem.W.Frag) : R2 := fun x y H Q => rIsN x y H Q ∨ rIsB x y H Q ∨ rIsO x y H Q ∨ rIsC K x y H Q
def rIsNotX (K : PySem.W.Frag) : R2 := fun x y H Q => rNotN x y H Q ∨ rNotB x y H Q ∨ rNotO x y H Q ∨ rNotC K x y H Q
theorem op_isX : OpR X (compareOp .Is) (rIsX X.K) := op_isN1.or (op_isBl.or (op_is_ref.or op_is_cls))
theorem op_isNotX : OpR X (compareOp .IsNot) (rIsNotX X.K) := op_notN1.or (op_notBl.or (op_isnot_ref.or op_isnot_cls))
theorem go_isN {x : V} (h : Q (.bl (decide (x = .non))) H) : rIsX K x .non H Q := .inl ⟨rfl, h⟩
theorem go_notN {x : V} (h : Q (.bl (!decide (x = .non))) H) : rIsNotX K x .non H Q := .inl ⟨rfl, h⟩
theorem go_isB {a b : Bool} (h : Q (.bl (decide (a = b))) H) : rIsX K (.bl a) (.bl b) H Q := .inr (.inl ⟨_, _, rfl, rfl, h⟩)
theorem go_notB {a b : Bool} (h : Q (.bl (!decide (a = b))) H) : rIsNotX K (.bl a) (.bl b) H Q := .inr (.inl ⟨_, _, rfl, rfl, h⟩)
/-- o[i] -/
abbrev rIxD : R2 := fun x y H Q => ∃ a v, x = .ref a ∧ DGet H a y (some v) ∧ Q v H
theorem ix_dict (hu : X.A.units + 1 < cLine) : IxR X rIxD := by
  intro value slice pins s σ H x y v u Q I rx ry h hs
  obtain ⟨a, z, rfl, g, q⟩ := h
  cases rx
  exact tail_any (dict_typeIs I g) PySem.F.slot_dict_getitem.lookup (d_getItem hu I g ry fun w' s3 I3 rw' => ⟨z, H, I3, rw', q⟩) hs
def rIxX (K : PySem.W.Frag) : R2 := fun x y H Q => rIxL K x y H Q ∨ rIxT K x y H Q ∨ rIxS x y H Q ∨ rIxD x y H Q
theorem ix_X (hu : X.A.units + 1 < cLine) : IxR X (rIxX X.K) := ix_list.or (ix_tup.or (ix_str.or (ix_dict hu)))
theorem go_xL {p : Addr} {xs : List V} {j : Int} (hp : SqL K H p xs) (ha : atI xs j = some v) (h : Q v H) : rIxX K (.ref p) (.int j) H Q := .inl ⟨p, xs, j, v, rfl, rfl, hp, ha, h⟩
theorem go_xT {p : Addr} {xs : List V} {j : Int} (hp : SqT K H p xs) (ha : atI xs j = some v) (h : Q v H) : rIxX K (.ref p) (.int j) H Q := .inr (.inl ⟨p, xs, j, v, rfl, rfl, hp, ha, h⟩)
theorem go_xS {z : Str} {j : Int} {c : Nat} (hz : z.length ≤ sizeLine) (ha : atI z.cps.toList j = some c) (h : Q (.str ⟨#[c]⟩) H) : rIxX K (.str z) (.int j) H Q := .inr (.inr (.inl ⟨z, j, c, rfl, rfl, hz, ha, h⟩))
theorem go_xK {p : Addr} {kvs : List (Key × V)} (k : Key) (hp : H p = some (.dK kvs)) (hv : valV kvs k = some v) (h : Q v H) : rIxX K (.ref p) (kV k) H Q := .inr (.inr (.inr ⟨p, v, rfl, hv ▸ DGet.k hp, h⟩))
theorem go_xKs {p : Addr} {kvs : List (Key × V)} {z : Str} (hp : H p = some (.dK kvs)) (hv : valV kvs (Sum.inr z) = some v) (h : Q v H) : rIxX K (.ref p) (.str z) H Q := go_xK (Sum.inr z) hp hv h
/-- o[i] = e -/
theorem PSet.or {r r' : TSet} (h : PSet X r) (h' : PSet X r') : PSet X (fun o i v H Q => r o i v H Q ∨ r' o i v H Q) := by
  intro pins s σ H o i v ov iv u Q I ro ri rv q
  rcases q with q | q
  · exact h pins s σ H o i v ov iv u Q I ro ri rv q
  · exact h' pins s σ H o i v ov iv u Q I ro ri rv q
abbrev rSetD : TSet := fun o i v H Q => ∃ a H4, o = .ref a ∧ DPut H a i v H4 ∧ Q H4
theorem set_dict (hu : X.A.units + 1 < cLine) : PSet X rSetD := by
  intro pins s σ H o i v ov iv u Q I ro ri rv h
  obtain ⟨a, H4, rfl, g, q⟩ := h
  cases ro
  exact d_setItem hu I g ri rv fun s4 I4 => ⟨H4, I4, q⟩
def rSetX : TSet := fun o i v H Q => rSetL o i v H Q ∨ rSetD o i v H Q
theorem set_X (hu : X.A.units + 1 < cLine) : PSet X rSetX := PSet.or set_list (set_dict hu)
variable {QH : Hp → Prop}
theorem go_sL {l : Addr} {xs : List V} {j : Int} {n : Nat} (hl : H l = some (.lst xs)) (hj : ixN xs.length j = some n) (h : QH (upd H l (.lst (xs.set n v)))) : rSetX (.ref l) (.int j) v H QH := .inl ⟨l, xs, j, n, rfl, rfl, hl, hj, h⟩
theorem go_sK {p : Addr} {kvs : List (Key × V)} (k : Key) (hp : H p = some (.dK kvs)) (z : kvs.length < sizeLine) (h : QH (upd H p (.dK (putK kvs k v)))) : rSetX (.ref p) (kV k) v H QH := .inr ⟨p, _, rfl, DPut.k hp z, h⟩
theorem go_sKs {p : Addr} {kvs : List (Key × V)} {x : Str} (hp : H p = some (.dK kvs)) (z : kvs.length < sizeLine) (h : QH (upd H p (.dK (putK kvs (Sum.inr x) v)))) : rSetX (.ref p) (.str x) v H QH := go_sK (Sum.inr x) hp z h
/-- slices -/
abbrev rSlS : V → Option Int → Option Int → Hp → VK → Prop := fun x lo hi H Q => ∃ z, x = .str z ∧ z.length ≤ sizeLine ∧ Q (.str (cutS z lo hi)) H
def rSlX (K : PySem.W.Frag) : V → Option Int → Option Int → Hp → VK → Prop := fun x lo hi H Q => rSlL K x lo hi H Q ∨ rSlT K x lo hi H Q ∨ rSlS x lo hi H Q
theorem sl_X : SlR X (rSlX X.K) := sl_list.or (sl_tup.or sl_str)
/-- len, int, isinstance, truth -/
abbrev rLenD : List V → Hp → VK → Prop := fun xs H Q => ∃ a kvs, xs = [V.ref a] ∧ H a = some (.dK kvs) ∧ Q (.int kvs.length) H
abbrev rLenV (K : PySem.W.Frag) : List V → Hp → VK → Prop := fun xs H Q => ∃ x n, xs = [x] ∧ LenV K x H n ∧ Q (.int n) H
def rLenX (K : PySem.W.Frag) : List V → Hp → VK → Prop := fun xs H Q => rLenV K xs H Q ∨ rLenD xs H Q
theorem call_lenX : CallR X (.builtin "len") (rLenX X.K) := call_len.or call_lenD
theorem go_lenL {p : Addr} {xs : List V} (hp : SqL K H p xs) (h : Q (.int xs.length) H) : rLenX K [.ref p] H Q := .inl ⟨_, _, rfl, .inl ⟨xs, hp, rfl⟩, h⟩
theorem go_lenT {p : Addr} {xs : List V} (hp : SqT K H p xs) (h : Q (.int xs.length) H) : rLenX K [.ref p] H Q := .inl ⟨_, _, rfl, .inr ⟨xs, hp, rfl⟩, h⟩
theorem go_lenS {z : Str} (hz : z.length ≤ sizeLine) (h : Q (.int z.length) H) : rLenX K [.str z] H Q := .inl ⟨.str z, z.length, rfl, ⟨hz, rfl⟩, h⟩
theorem go_lenD {p : Addr} {kvs : List (Key × V)} (hp : H p = some (.dK kvs)) (h : Q (.int kvs.length) H) : rLenX K [.ref p] H Q := .inr ⟨p, kvs, rfl, hp, h⟩
abbrev rInt1 : List V → Hp → VK → Prop := fun xs H Q => (∃ i, xs = [.int i] ∧ Q (.int i) H) ∨ ∃ k, xs = [.bl k] ∧ Q (.int (if k then 1 else 0)) H
abbrev rIntS : List V → Hp → VK → Prop := fun xs H Q => ∃ a n, xs = [.str a] ∧ PySem.intText? a = some n ∧ a.length ≤ 640 ∧ Q (.int n) H
def rIntX : List V → Hp → VK → Prop := fun xs H Q => rInt1 xs H Q ∨ rIntS xs H Q
theorem call_intX : CallR X (.type "int") rIntX := call_int1.or call_int_str
theorem go_intI {i : Int} (h : Q (.int i) H) : rIntX [.int i] H Q := .inl (.inl ⟨i, rfl, h⟩)
theorem go_intB {k : Bool} (h : Q (.int (if k then 1 else 0)) H) : rIntX [.bl k] H Q := .inl (.inr ⟨k, rfl, h⟩)
theorem go_intS {a : Str} {n : Int} (e : PySem.intText? a = some n) (z : a.length ≤ 640) (h : Q (.int n) H) : rIntX [.str a] H Q := .inr ⟨a, n, rfl, e, z, h⟩
def rIsiX (K : PySem.W.Frag) : List V → Hp → VK → Prop := fun xs H Q => rIsi K xs H Q ∨ rIsiT K xs H Q
theorem call_isiX : CallR X (.builtin "isinstance") (rIsiX X.K) := call_isi.or call_isiT
theorem go_isi {x : V} {T U : String} {b : Bool} (ty : TyX K H x (.type U)) (e : kitB U T = some b) (h : Q (.bl b) H) : rIsiX K [x, .ty T] H Q := .inl ⟨x, .ty T, .type U, .type T, b, rfl, .ty T, ty, kit_ty e, h⟩
def rListO (K : PySem.W.Frag) : List V → Hp → VK → Prop := fun xs H Q => ∃ p ys, xs = [.ref p] ∧ (SqL K H p ys ∨ SqT K H p ys) ∧ ∀ l, H l = none → Q (.ref l) (upd H l (.lst ys))
theorem call_listO : CallR X (.type "list") (rListO X.K) := call_list_of
def rTupO (K : PySem.W.Frag) : List V → Hp → VK → Prop := fun xs H Q => ∃ p ys, xs = [.ref p] ∧ ((SqL K H p ys ∧ ∀ l, H l = none → Q (.ref l) (upd H l (.tup ys))) ∨ (SqT K H p ys ∧ Q (.ref p) H))
theorem call_tupO : CallR X (.type "tuple") (rTupO X.K) := call_tuple_of
def rMx2 : List V → Hp → VK → Prop := fun xs H Q => ∃ i j, xs = [.int i, .int j] ∧ Q (.int (if j > i then j else i)) H
def rMn2 : List V → Hp → VK → Prop := fun xs H Q => ∃ i j, xs = [.int i, .int j] ∧ Q (.int (if j < i then j else i)) H
theorem call_mx2 (hc : X.calm = true) : CallR X (.builtin "max") rMx2 := call_max2 hc
theorem call_mn2 (hc : X.calm = true) : CallR X (.builtin "min") rMn2 := call_min2 hc
def rAbsI : List V → Hp → VK → Prop := fun xs H Q => ∃ i, xs = [.int i] ∧ Q (.int (if i < 0 then -i else i)) H
theorem call_absI : CallR X (.builtin "abs") rAbsI := call_abs
def rStrI : List V → Hp → VK → Prop := fun xs H Q => ∃ i, xs = [.int i] ∧ i.natAbs.log2 < 1920 ∧ Q (.str (toString i)) H
theorem call_strI : CallR X (.type "str") rStrI := call_str_int
theorem go_listL {l : Addr} {xs : List V} (hS : SqL K H l xs) (h : NewO (.lst xs) H Q) : rListO K [V.ref l] H Q := ⟨l, xs, rfl, .inl hS, h⟩
theorem go_listT {l : Addr} {xs : List V} (hS : SqT K H l xs) (h : NewO (.lst xs) H Q) : rListO K [V.ref l] H Q := ⟨l, xs, rfl, .inr hS, h⟩
theorem go_tupL {l : Addr} {xs : List V} (hS : SqL K H l xs) (h : NewO (.tup xs) H Q) : rTupO K [V.ref l] H Q := ⟨l, xs, rfl, .inl ⟨hS, h⟩⟩
theorem go_tupT {l : Addr} {xs : List V} (hS : SqT K H l xs) (h : Q (.ref l) H) : rTupO K [V.ref l] H Q := ⟨l, xs, rfl, .inr ⟨hS, h⟩⟩
theorem go_max {a b : Int} (h : Q (.int (max a b)) H) : rMx2 [V.int a, V.int b] H Q := ⟨a, b, rfl, by
  have e : (if b > a then b else a) = max a b := by
    by_cases c : b > a
    · rw [if_pos c]; omega
    · rw [if_neg c]; omega
  rw [e]; exact h⟩
theorem go_min {a b : Int} (h : Q (.int (min a b)) H) : rMn2 [V.int a, V.int b] H Q := ⟨a, b, rfl, by
  have e : (if b < a then b else a) = min a b := by
    by_cases c : b < a
    · rw [if_pos c]; omega
    · rw [if_neg c]; omega
  rw [e]; exact h⟩
theorem go_abs {a : Int} (h : Q (.int a.natAbs) H) : rAbsI [V.int a] H Q := ⟨a, rfl, by
  have e : (if a < 0 then -a else a) = (a.natAbs : Int) := by
    by_cases c : a < 0
    · rw [if_pos c]; omega
    · rw [if_neg c]; omega
  rw [e]; exact h⟩
theorem go_str {a : Int} (z : a.natAbs.log2 < 1920) (h : Q (.str (toString a)) H) : rStrI [V.int a] H Q := ⟨a, rfl, z, h⟩
def tTruX (K : PySem.W.Frag) (te : TE) : TT := fun σ H Q => te σ H fun x H' => ∃ k, TruV K x H' k ∧ Q k H'
theorem pt_truX {a : Expr} {ta : TE} (ha : PE X a ta) (he : ∀ whole, isTrue a X.env whole = (do let v ← whole; standAt a.pos; holding [v] (truthy v)) := by intro _; rfl) : PT X a (tTruX X.K ta) := pt_truth ha he
def KT (K : PySem.W.Frag) (x : V) (H : Hp) (QB : Bool → Hp → Prop) : Prop := ∃ k, TruV K x H k ∧ QB k H
theorem go_tru {te : TE} {σ : St} {QB : Bool → Hp → Prop} (h : te σ H fun x H' => KT K x H' QB) : tTruX K te σ H QB := h
theorem go_truB {b : Bool} {QB : Bool → Hp → Prop} (h : QB b H) : KT K (.bl b) H QB := ⟨b, rfl, h⟩
theorem go_truI {i : Int} {QB : Bool → Hp → Prop} (h : QB (i != 0) H) : KT K (.int i) H QB := ⟨_, rfl, h⟩
theorem go_truN {QB : Bool → Hp → Prop} (h : QB false H) : KT K .non H QB := ⟨_, rfl, h⟩
theorem kit_ii : kitB "int" "int" = some true := by decide +kernel
theorem kit_ib : kitB "int" "bool" = some false := by decide +kernel
theorem kit_bb : kitB "bool" "bool" = some true := by decide +kernel
theorem kit_bi : kitB "bool" "int" = some true := by decide +kernel
theorem kit_ss : kitB "str" "str" = some true := by decide +kernel
theorem kit_nb : kitB "NoneType" "bool" = some false := by decide +kernel
theorem kit_ni : kitB "NoneType" "int" = some false := by decide +kernel
theorem kit_ns : kitB "NoneType" "str" = some false := by decide +kernel
theorem kit_nt : kitB "NoneType" "tuple" = some false := by decide +kernel
theorem kit_is : kitB "int" "str" = some false := by decide +kernel
theorem kit_si : kitB "str" "int" = some false := by decide +kernel
theorem kit_sb : kitB "str" "bool" = some false := by decide +kernel
theorem kit_tt : kitB "tuple" "tuple" = some true := by decide +kernel
theorem kit_ll : kitB "list" "list" = some true := by decide +kernel
theorem kit_tl : kitB "tuple" "list" = some false := by decide +kernel
theorem kit_lt : kitB "list" "tuple" = some false := by decide +kernel
theorem kit_bs : kitB "bool" "str" = some false := by decide +kernel
/-- a list or a tuple that is walked -/
def IX (K : PySem.W.Frag) (x : V) (H1 : Hp) (R : It → Hp → Prop) : Prop := (∃ a, x = .ref a ∧ (∃ xs, SqL K H1 a xs) ∧ R (Itl K a) H1) ∨ (∃ a, x = .ref a ∧ (∃ xs, SqT K H1 a xs) ∧ R (Itt K a) H1) ∨ (∃ z, x = .str z ∧ R (Its z) H1)
def iX (K : PySem.W.Frag) (tl : TE) : TI := fun σ H R => tl σ H fun x H1 => (∃ a, x = .ref a ∧ (∃ xs, SqL K H1 a xs) ∧ R (Itl K a) H1) ∨ (∃ a, x = .ref a ∧ (∃ xs, SqT K H1 a xs) ∧ R (Itt K a) H1) ∨ (∃ z, x = .str z ∧ R (Its z) H1)
theorem pi_X {tg l : Expr} {tl : TE} (hl : PE X l tl) : PI X tg l (iX X.K tl) := by
  refine ⟨fun pins s σ H R I h => ?_⟩
  refine thn (hl.run pins s σ H _ I h) fun v s1 ⟨x, H1, I1, r1, q1⟩ => ?_
  rcases q1 with ⟨a, ex, ⟨xs, hq⟩, q⟩ | ⟨a, ex, ⟨xs, hq⟩, q⟩ | ⟨z, ex, q⟩
  · subst ex
    cases r1
    obtain ⟨its, rv, p, hz⟩ := I1.list hq
    refine wpAny_pyIter_list p.isList ?_
    refine ⟨s1.heap.objs.size, [s1.heap.objs.size], _, _, H1, rfl, I1.kept (t' := s1.toks) fun b o e => Heap.get?_push_of_some _ e, turn_list a _, ⟨_, Heap.get?_push_size _ rfl, rfl, rfl⟩, fun b hb => ?_, q⟩
    have e : b = s1.heap.objs.size := by simpa using hb
    subst e
    exact I1.fpOk (Nat.le_refl _) (I1.hok.fresh (Nat.le_refl _))
  · subst ex
    cases r1
    obtain ⟨its, rv, p, hz⟩ := I1.tuple hq
    refine wpAny_pyIter_tuple (show s1.heap.IsTuple a its.toArray from p) ?_
    refine ⟨s1.heap.objs.size, [s1.heap.objs.size], _, _, H1, rfl, I1.kept (t' := s1.toks) fun b o e => Heap.get?_push_of_some _ e, turn_tuple a _, ⟨_, Heap.get?_push_size _ rfl, rfl, rfl⟩, fun b hb => ?_, q⟩
    have e : b = s1.heap.objs.size := by simpa using hb
    subst e
    exact I1.fpOk (Nat.le_refl _) (I1.hok.fresh (Nat.le_refl _))
  · subst ex
    obtain ⟨t, rfl⟩ := r1
    cases ha : z.cps.all (· < 128)
    · exact wpAny_pyIter_wide ha (pi_one (tk := s1.toks) I1 _ (turn_str _ z t "str_iterator" (.inr rfl)) ⟨_, Heap.get?_push_size _ rfl, rfl, rfl⟩ q)
    · exact wpAny_pyIter_ascii ha (pi_one (tk := s1.toks) I1 _ (turn_str _ z t "str_ascii_iterator" (.inl rfl)) ⟨_, Heap.get?_push_size _ rfl, rfl, rfl⟩ q)
end
end L2.A

namespace L2.A
open PySem PySem.Spec PyProof.Rows
theorem go_start {t : TS} {D : Ends} {N : List Str} {vs : List V} {σ : St} {H : Hp} (e : start N vs = σ) (h : t D σ H) : t D (start N vs) H := by rw [e]; exact h
theorem ite_T {b : Bool} {A B : Prop} (e : b = true) (h : A) : if b = true then A else B := by rw [if_pos e]; exact h
theorem ite_F {b : Bool} {A B : Prop} (e : b = false) (h : B) : if b = true then A else B := by rw [e]; exact iteF h
/-- promises by the number of arguments -/
def Sp0 (R : Hp → VK → XK → Prop) : Sp := fun vs H Q E => vs = [] ∧ R H Q E
def Sp1 (R : V → Hp → VK → XK → Prop) : Sp := fun vs H Q E => ∃ a, vs = [a] ∧ R a H Q E
def Sp2 (R : V → V → Hp → VK → XK → Prop) : Sp := fun vs H Q E => ∃ a b, vs = [a, b] ∧ R a b H Q E
def Sp3 (R : V → V → V → Hp → VK → XK → Prop) : Sp := fun vs H Q E => ∃ a b c, vs = [a, b, c] ∧ R a b c H Q E
def Sp4 (R : V → V → V → V → Hp → VK → XK → Prop) : Sp := fun vs H Q E => ∃ a b c d, vs = [a, b, c, d] ∧ R a b c d H Q E
def Sp5 (R : V → V → V → V → V → Hp → VK → XK → Prop) : Sp := fun vs H Q E => ∃ a b c d e, vs = [a, b, c, d, e] ∧ R a b c d e H Q E
section
variable {vs : List V} {H : Hp} {Q : VK} {E : XK} {a b c d e : V}
theorem len0 {R} (h : Sp0 R vs H Q E) : vs.length = 0 := by obtain ⟨rfl, _⟩ := h; rfl
theorem len1 {R} (h : Sp1 R vs H Q E) : vs.length = 1 := by obtain ⟨_, rfl, _⟩ := h; rfl
theorem len2 {R} (h : Sp2 R vs H Q E) : vs.length = 2 := by obtain ⟨_, _, rfl, _⟩ := h; rfl
theorem len3 {R} (h : Sp3 R vs H Q E) : vs.length = 3 := by obtain ⟨_, _, _, rfl, _⟩ := h; rfl
theorem len4 {R} (h : Sp4 R vs H Q E) : vs.length = 4 := by obtain ⟨_, _, _, _, rfl, _⟩ := h; rfl
theorem len5 {R} (h : Sp5 R vs H Q E) : vs.length = 5 := by obtain ⟨_, _, _, _, _, rfl, _⟩ := h; rfl
theorem go_sp0 {R} (h : R H Q E) : Sp0 R ([] ++ []) H Q E := ⟨rfl, h⟩
theorem go_sp1 {R} (h : R a H Q E) : Sp1 R ([a] ++ []) H Q E := ⟨a, rfl, h⟩
theorem go_sp2 {R} (h : R a b H Q E) : Sp2 R ([a, b] ++ []) H Q E := ⟨a, b, rfl, h⟩
theorem go_sp3 {R} (h : R a b c H Q E) : Sp3 R ([a, b, c] ++ []) H Q E := ⟨a, b, c, rfl, h⟩
theorem go_sp4 {R} (h : R a b c d H Q E) : Sp4 R ([a, b, c, d] ++ []) H Q E := ⟨a, b, c, d, rfl, h⟩
theorem go_sp5 {R} (h : R a b c d e H Q E) : Sp5 R ([a, b, c, d, e] ++ []) H Q E := ⟨a, b, c, d, e, rfl, h⟩
end
end L2.A
namespace L2.A
open PySem PySem.Spec PyProof.Rows
section
variable {K : PySem.W.Frag} {H : Hp} {Q : VK} {v : V} {σ : St} {D : Ends}
def ForW (J : It) (g : TG) (tb : TS) (D : Ends) (σ : St) (H1 : Hp) : Prop := ∃ W : Nat → Nat → St → Hp → Prop, (∃ m, W 0 m σ H1) ∧ ∀ i m σ H, W i m σ H →
  (J.stop i H ∧ D.nx σ H) ∨ (J.go i H ∧ ∃ N : St → Hp → Prop, (∀ σ' H', N σ' H' → ∃ m', m' < m ∧ W (i + 1) m' σ' H') ∧ ∀ x H', J.yld i H x H' → g x σ H' fun σ2 H2 => tb { D with nx := N, ct := N, bk := D.nx } σ2 H2)
theorem go_for {wi : TI} {g : TG} {tb : TS} (h : wi σ H fun J H1 => ForW J g tb D σ H1) : tFor wi g tb D σ H := h
theorem ForW.list {a : Addr} {xs : List V} {g : TG} {tb : TS} (Pv : Nat → St → Hp → Prop) (h0 : Pv 0 σ H) (hl : ∀ i σ H, i ≤ xs.length → Pv i σ H → SqL K H a xs)
    (hs : ∀ i x σ H, xs[i]? = some x → Pv i σ H → g x σ H fun σ2 H2 => tb { D with nx := Pv (i + 1), ct := Pv (i + 1), bk := D.nx } σ2 H2) (hd : ∀ σ H, Pv xs.length σ H → D.nx σ H) : ForW (Itl K a) g tb D σ H := for_list Pv h0 hl hs hd
theorem ForW.tup {a : Addr} {xs : List V} {g : TG} {tb : TS} (Pv : Nat → St → Hp → Prop) (h0 : Pv 0 σ H) (hl : ∀ i σ H, i ≤ xs.length → Pv i σ H → SqT K H a xs)
    (hs : ∀ i x σ H, xs[i]? = some x → Pv i σ H → g x σ H fun σ2 H2 => tb { D with nx := Pv (i + 1), ct := Pv (i + 1), bk := D.nx } σ2 H2) (hd : ∀ σ H, Pv xs.length σ H → D.nx σ H) : ForW (Itt K a) g tb D σ H := for_tup Pv h0 hl hs hd
theorem ForW.range {lo : Int} {n : Nat} {g : TG} {tb : TS} (Pv : Nat → St → Hp → Prop) (h0 : Pv 0 σ H)
    (hs : ∀ i σ H, i < n → Pv i σ H → g (.int (lo + i)) σ H fun σ2 H2 => tb { D with nx := Pv (i + 1), ct := Pv (i + 1), bk := D.nx } σ2 H2) (hd : ∀ σ H, Pv n σ H → D.nx σ H) : ForW (Itr lo n) g tb D σ H := for_range Pv h0 hs hd
theorem ForW.str {z : Str} {g : TG} {tb : TS} (Pv : Nat → St → Hp → Prop) (h0 : Pv 0 σ H)
    (hs : ∀ i c σ H, z.cps.toList[i]? = some c → Pv i σ H → g (.str ⟨#[c]⟩) σ H fun σ2 H2 => tb { D with nx := Pv (i + 1), ct := Pv (i + 1), bk := D.nx } σ2 H2) (hd : ∀ σ H, Pv z.cps.toList.length σ H → D.nx σ H) : ForW (Its z) g tb D σ H := by
  refine ⟨fun i m σ H => m = z.cps.size - i ∧ i ≤ z.cps.size ∧ Pv i σ H, ⟨z.cps.size, by simp, Nat.zero_le _, h0⟩, ?_⟩
  rintro i m σ H ⟨rfl, hi, p⟩
  by_cases hlt : i < z.cps.size
  · refine .inr ⟨hlt, Pv (i + 1), fun σ' H' p' => ⟨z.cps.size - (i + 1), by omega, rfl, hlt, p'⟩, fun x H' y => ?_⟩
    obtain ⟨e, c, hc, hx⟩ := y
    subst e hx
    exact hs i c σ _ (by simpa using hc) p
  · have e : i = z.cps.size := by omega
    subst e
    exact .inl ⟨Nat.le_refl _, hd σ H (by simpa using p)⟩
theorem go_iX {tl : TE} {R : It → Hp → Prop} (h : tl σ H fun x H1 => IX K x H1 R) : iX K tl σ H R := h
theorem go_iL {a : Addr} {xs : List V} {R : It → Hp → Prop} (hS : SqL K H a xs) (h : R (Itl K a) H) : IX K (.ref a) H R := .inl ⟨a, rfl, ⟨xs, hS⟩, h⟩
theorem go_iT {a : Addr} {xs : List V} {R : It → Hp → Prop} (hS : SqT K H a xs) (h : R (Itt K a) H) : IX K (.ref a) H R := .inr (.inl ⟨a, rfl, ⟨xs, hS⟩, h⟩)
theorem go_iS {z : Str} {R : It → Hp → Prop} (h : R (Its z) H) : IX K (.str z) H R := .inr (.inr ⟨z, rfl, h⟩)
def LcW (J : It) (g : TG) (tt : TT) (te : TE) (vs : List Nat) (σ : St) (H1 : Hp) (Q : VK) : Prop := ∀ D, H1 D = none → ∃ W : Nat → Nat → Hp → Prop, (∃ m, W 0 m (upd H1 D (.lst []))) ∧ ∀ i m H, W i m H →
  (J.stop i H ∧ Q (.ref D) H) ∨ (J.go i H ∧ ∃ Nx : Hp → Prop, (∀ H', Nx H' → ∃ m', m' < m ∧ W (i + 1) m' H') ∧ ∀ x H', J.yld i H x H' → g x (wipe σ vs) H' fun σ2 H2 => wipe σ2 vs = wipe σ vs ∧ tt σ2 H2 fun b H3 =>
    if b = true then te σ2 H3 fun y H4 => ∃ acc, H4 D = some (.lst acc) ∧ acc.length < sizeLine ∧ Nx (upd H4 D (.lst (acc ++ [y]))) else Nx H3)
theorem go_lc {wi : TI} {g : TG} {tt : TT} {te : TE} {vs : List Nat} (h : wi σ H fun J H1 => LcW J g tt te vs σ H1 Q) : tLc wi g tt te vs σ H Q := h
/-- the same relation at other targets -/
structure LcS (g : TG) (tt : TT) (te : TE) (vs : List Nat) (σ : St) (x : V) (H : Hp) (yes : V → Hp → Prop) (no : Hp → Prop) : Prop where
  run : g x (wipe σ vs) H fun σ2 H2 => wipe σ2 vs = wipe σ vs ∧ tt σ2 H2 fun b H3 => if b = true then te σ2 H3 yes else no H3
/-- GENERAL: over a list; R i ys H' what holds of the items made so far; D is the new list's own place -/
theorem LcW.list {a : Addr} {xs : List V} {H1 : Hp} {g : TG} {tt : TT} {te : TE} {vs : List Nat} (R : Addr → Nat → List V → Hp → Prop) (hz : xs.length ≤ 100000) (hS : SqL K H1 a xs) (h0 : ∀ D, H1 D = none → R D 0 [] (upd H1 D (.lst [])))
    (hs : ∀ D i x ys H', H1 D = none → xs[i]? = some x → ys.length ≤ i → R D i ys H' → Same H1 H' → H' D = some (.lst ys) → ∀ (yes : V → Hp → Prop) (no : Hp → Prop),
      (∀ y H'', Same H' H'' → R D (i + 1) (ys ++ [y]) (upd H'' D (.lst (ys ++ [y]))) → yes y H'') → (∀ H'', Same H' H'' → R D (i + 1) ys H'' → no H'') →
      g x (wipe σ vs) H' fun σ2 H2 => wipe σ2 vs = wipe σ vs ∧ tt σ2 H2 fun b H3 => if b = true then te σ2 H3 yes else no H3)
    (hd : ∀ D ys H', H1 D = none → Same H1 H' → H' D = some (.lst ys) → ys.length ≤ xs.length → R D xs.length ys H' → Q (.ref D) H') : LcW (Itl K a) g tt te vs σ H1 Q := by
  intro D hD
  refine lc_list (xs := xs) (fun i H' => Same H1 H' ∧ ∃ ys, H' D = some (.lst ys) ∧ ys.length ≤ i ∧ R D i ys H') ⟨same_new hD, [], upd_same, Nat.le_refl _, h0 D hD⟩ (fun i H' _ ⟨s, _⟩ => s.seq hS) (fun i x H' hi ⟨s, ys, e, hl, r⟩ => ?_) fun H' ⟨s, ys, e, hl, r⟩ => hd D ys H' hD s e hl r
  have hil : i < xs.length := (List.getElem?_eq_some_iff.mp hi).1
  refine hs D i x ys H' hD hi hl r s e _ _ (fun y H'' s2 r2 => ⟨ys, s2 _ _ e, ?_, same_mut (s.trans s2) hD, ys ++ [y], upd_same, by rw [List.length_append]; show ys.length + 1 ≤ _; omega, r2⟩) fun H'' s2 r2 => ⟨s.trans s2, ys, s2 _ _ e, by omega, r2⟩
  exact Nat.lt_of_le_of_lt hl (Nat.lt_of_lt_of_le hil (Nat.le_trans hz (by decide)))
theorem LcW.tup {a : Addr} {xs : List V} {H1 : Hp} {g : TG} {tt : TT} {te : TE} {vs : List Nat} (R : Addr → Nat → List V → Hp → Prop) (hz : xs.length ≤ 100000) (hS : SqT K H1 a xs) (h0 : ∀ D, H1 D = none → R D 0 [] (upd H1 D (.lst [])))
    (hs : ∀ D i x ys H', H1 D = none → xs[i]? = some x → ys.length ≤ i → R D i ys H' → Same H1 H' → H' D = some (.lst ys) → ∀ (yes : V → Hp → Prop) (no : Hp → Prop),
      (∀ y H'', Same H' H'' → R D (i + 1) (ys ++ [y]) (upd H'' D (.lst (ys ++ [y]))) → yes y H'') → (∀ H'', Same H' H'' → R D (i + 1) ys H'' → no H'') →
      g x (wipe σ vs) H' fun σ2 H2 => wipe σ2 vs = wipe σ vs ∧ tt σ2 H2 fun b H3 => if b = true then te σ2 H3 yes else no H3)
    (hd : ∀ D ys H', H1 D = none → Same H1 H' → H' D = some (.lst ys) → ys.length ≤ xs.length → R D xs.length ys H' → Q (.ref D) H') : LcW (Itt K a) g tt te vs σ H1 Q := by
  intro D hD
  have seqT : ∀ {H' : Hp}, Same H1 H' → SqT K H' a xs := fun {H'} s => by
    rcases hS with (h | ⟨o, h⟩) | h
    · exact .inl (.inl (s _ _ h))
    · exact .inl (.inr ⟨o, s _ _ h⟩)
    · exact .inr h
  refine lc_tup (xs := xs) (fun i H' => Same H1 H' ∧ ∃ ys, H' D = some (.lst ys) ∧ ys.length ≤ i ∧ R D i ys H') ⟨same_new hD, [], upd_same, Nat.le_refl _, h0 D hD⟩ (fun i H' _ ⟨s, _⟩ => seqT s) (fun i x H' hi ⟨s, ys, e, hl, r⟩ => ?_) fun H' ⟨s, ys, e, hl, r⟩ => hd D ys H' hD s e hl r
  have hil : i < xs.length := (List.getElem?_eq_some_iff.mp hi).1
  refine hs D i x ys H' hD hi hl r s e _ _ (fun y H'' s2 r2 => ⟨ys, s2 _ _ e, ?_, same_mut (s.trans s2) hD, ys ++ [y], upd_same, by rw [List.length_append]; show ys.length + 1 ≤ _; omega, r2⟩) fun H'' s2 r2 => ⟨s.trans s2, ys, s2 _ _ e, by omega, r2⟩
  exact Nat.lt_of_le_of_lt hl (Nat.lt_of_lt_of_le hil (Nat.le_trans hz (by decide)))
/-- elements are plain values, no test -/
theorem LcW.listV {a : Addr} {xs : List V} {H1 : Hp} {g : TG} {te : TE} {vs : List Nat} (out : Nat → V) (hz : xs.length ≤ 100000) (hS : SqL K H1 a xs)
    (hs : ∀ i x H', xs[i]? = some x → Same H1 H' → ∀ Q' : VK, (∀ H'', Same H' H'' → Q' (out i) H'') → g x (wipe σ vs) H' fun σ2 H2 => wipe σ2 vs = wipe σ vs ∧ te σ2 H2 Q')
    (mono : ∀ (x : V) (σ : St) (H : Hp) (Q Q' : St → Hp → Prop), (∀ σ H, Q σ H → Q' σ H) → g x σ H Q → g x σ H Q')
    (hd : ∀ D H', H1 D = none → Same H1 H' → H' D = some (.lst ((List.range xs.length).map out)) → Q (.ref D) H') : LcW (Itl K a) g tYes te vs σ H1 Q := by
  refine LcW.list (fun D i ys H' => ys = (List.range i).map out) hz hS (fun _ _ => rfl) (fun D i x ys H' hD hi hl r s e yes no hy hn => ?_) fun D ys H' hD s e _ r => hd D H' hD s (by rw [e, r])
  refine mono x _ _ _ _ (fun σ2 H2 q => q) (hs i x H' hi s yes fun H'' s2 => hy _ _ s2 ?_)
  rw [r, List.range_succ, List.map_append]
  rfl
theorem gname_mono {i : Nat} (x : V) (σ : St) (H : Hp) (Q Q' : St → Hp → Prop) (h : ∀ σ H, Q σ H → Q' σ H) (q : gName i x σ H Q) : gName i x σ H Q' := h _ _ q
theorem go_all {l : Addr} {bs : List Bool} (hS : SqL K H l (bs.map V.bl)) (h : Q (.bl (bs.all id)) H) : rAll K [.ref l] H Q := ⟨l, bs, rfl, hS, h⟩
theorem go_any {l : Addr} {bs : List Bool} (hS : SqL K H l (bs.map V.bl)) (h : Q (.bl (bs.any id)) H) : rAny K [.ref l] H Q := ⟨l, bs, rfl, hS, h⟩
theorem go_sum {l : Addr} {ns : List Int} (hS : SqL K H l (ns.map V.int)) (h : Q (.int ns.sum) H) : rSum K [.ref l] H Q := ⟨l, ns, rfl, hS, h⟩
theorem go_yes {QB : Bool → Hp → Prop} (h : QB true H) : tYes σ H QB := h
end
theorem range_map_const {n : Nat} {v : V} : (List.range n).map (fun _ => v) = List.replicate n v := by
  induction n with
  | zero => rfl
  | succ n ih => rw [List.range_succ, List.map_append, ih, List.replicate_succ'] <;> rfl
theorem all_true {n : Nat} : (List.replicate n true).all id = true := by simp
theorem szl {n : Nat} (h : n ≤ 100000) : n ≤ sizeLine := Nat.le_trans h (by decide)
theorem bl_ok {b : Bool} {Q : VK} {H : Hp} (e : b = true) (h : Q (.bl true) H) : Q (.bl b) H := by rw [e]; exact h
end L2.A
namespace L2.A
open PySem PySem.Spec PyProof.Rows
theorem ret_V {v v' : V} {Q : VK} {H : Hp} (e : v' = v) (h : Q v' H) : Q v H := by rw [← e]; exact h
theorem dec_int {i j : Int} : decide (V.int i = V.int j) = decide (i = j) := by simp
theorem dec_str {i j : Str} : decide (V.str i = V.str j) = decide (i = j) := by simp
theorem dec_bl {i j : Bool} : decide (V.bl i = V.bl j) = decide (i = j) := by simp
/-- the head and the items of a list of whole numbers -/
theorem int_at {ns : List Int} {i : Nat} {x : V} (h : (ns.map V.int)[i]? = some x) : ∃ z, x = V.int z ∧ ns[i]? = some z := by
  rw [List.getElem?_map] at h
  cases e : ns[i]? with
  | none => rw [e] at h; cases h
  | some z => rw [e] at h; exact ⟨z, (Option.some.inj h).symm, rfl⟩
theorem iteS_bl {b : Bool} {Q : VK} {H : Hp} {v1 v2 : V} (h1 : b = true → Q v1 H) (h2 : b = false → Q v2 H) : if b = true then Q v1 H else Q v2 H := if2 h1 h2
end L2.A
namespace L2.A
open PySem PySem.Spec PyProof.Rows
def RN1 (vs : List V) (H1 : Hp) (R : It → Hp → Prop) : Prop := ∃ j : Int, vs = [.int j] ∧ -(2 ^ 62) ≤ j ∧ j < 2 ^ 62 ∧ R (Itr 0 j.toNat) H1
def RN2 (vs : List V) (H1 : Hp) (R : It → Hp → Prop) : Prop := ∃ i j : Int, vs = [.int i, .int j] ∧ (-(2 ^ 62) ≤ i ∧ i < 2 ^ 62 ∧ -(2 ^ 62) ≤ j ∧ j < 2 ^ 62) ∧ R (Itr i (j - i).toNat) H1
theorem go_rng1 {ta : TA} {σ : St} {H : Hp} {R : It → Hp → Prop} (h : ta σ H fun vs H1 => RN1 vs H1 R) : iRng1 ta σ H R := h
theorem go_rng2 {ta : TA} {σ : St} {H : Hp} {R : It → Hp → Prop} (h : ta σ H fun vs H1 => RN2 vs H1 R) : iRng2 ta σ H R := h
theorem go_rn1 {j : Int} {H : Hp} {R : It → Hp → Prop} (h1 : -100000 ≤ j ∧ j ≤ 100000) (h : R (Itr 0 j.toNat) H) : RN1 [.int j] H R := ⟨j, rfl, by omega, by omega, h⟩
theorem go_rn2 {i j : Int} {H : Hp} {R : It → Hp → Prop} (h1 : -100000 ≤ i ∧ i ≤ 100000 ∧ -100000 ≤ j ∧ j ≤ 100000) (h : R (Itr i (j - i).toNat) H) : RN2 [.int i, .int j] H R := ⟨i, j, rfl, ⟨by omega, by omega, by omega, by omega⟩, h⟩
/-- an item of a written list at a drawn place -/
theorem at_some {α : Type} {xs : List α} {r : Int} (h0 : 0 ≤ r) (h1 : r < xs.length) : ∃ v, atI xs r = some v ∧ v ∈ xs := by
  obtain ⟨j, rfl⟩ : ∃ j : Nat, r = (j : Int) := ⟨r.toNat, by omega⟩
  have hj : j < xs.length := by omega
  exact ⟨xs[j], atI_nat (List.getElem?_eq_getElem hj), List.getElem_mem hj⟩
theorem menuS {L : List Str} {r : Int} (h0 : 0 ≤ r) (h1 : r < L.length) : ∃ k, atI (L.map V.str) r = some (.str k) ∧ k ∈ L := by
  obtain ⟨v, e, m⟩ := at_some (xs := L.map V.str) h0 (by rw [List.length_map]; exact h1)
  obtain ⟨k, hk, rfl⟩ := List.mem_map.mp m
  exact ⟨k, e, hk⟩
theorem menuI {L : List Int} {r : Int} (h0 : 0 ≤ r) (h1 : r < L.length) : ∃ k, atI (L.map V.int) r = some (.int k) ∧ k ∈ L := by
  obtain ⟨v, e, m⟩ := at_some (xs := L.map V.int) h0 (by rw [List.length_map]; exact h1)
  obtain ⟨k, hk, rfl⟩ := List.mem_map.mp m
  exact ⟨k, e, hk⟩
/-- a sign of a written text at a drawn place -/
theorem sign_some {z : Str} {r : Int} (h0 : 0 ≤ r) (h1 : r < z.cps.toList.length) : ∃ c, atI z.cps.toList r = some c ∧ c ∈ z.cps.toList := at_some h0 h1
theorem len_app (a b : Str) : (a ++ b).length = a.length + b.length := by
  have h := congrArg List.length (TL.tl_append a b)
  rw [List.length_append, ← TL.len_tl, ← TL.len_tl, ← TL.len_tl] at h
  exact h
theorem len_one {c : Nat} : (⟨#[c]⟩ : Str).length = 1 := rfl
end L2.A

namespace L2.A
open PySem PySem.Spec PyProof.Rows
section
variable {σ : St} {H : Hp} {Q : VK} {QB : Bool → Hp → Prop} {tt tu : TT} {ta tb : TE} {c1 c2 : Bool} {v1 v2 : V}
/-! ### and, or whose parts lay nothing: one value, no two ways -/
theorem go_andP (h1 : ∀ QB' : Bool → Hp → Prop, QB' c1 H → tt σ H QB') (h2 : ∀ QB' : Bool → Hp → Prop, QB' c2 H → tu σ H QB') (h : QB (c1 && c2) H) : tAnd tt tu σ H QB := h1 _ (by
  cases c1 with
  | true => exact iteT (h2 _ h)
  | false => exact iteF h)
theorem go_orP (h1 : ∀ QB' : Bool → Hp → Prop, QB' c1 H → tt σ H QB') (h2 : ∀ QB' : Bool → Hp → Prop, QB' c2 H → tu σ H QB') (h : QB (c1 || c2) H) : tOr tt tu σ H QB := h1 _ (by
  cases c1 with
  | true => exact iteT h
  | false => exact iteF (h2 _ h))
theorem go_andVP (h1 : ∀ Q' : VK, Q' (.bl c1) H → ta σ H Q') (h2 : ∀ Q' : VK, Q' (.bl c2) H → tb σ H Q') (h : Q (.bl (c1 && c2)) H) : tAndV ta tb σ H Q := h1 _ ⟨c1, rfl, by
  cases c1 with
  | true => exact iteT (h2 _ h)
  | false => exact iteF h⟩
theorem go_orVP (h1 : ∀ Q' : VK, Q' (.bl c1) H → ta σ H Q') (h2 : ∀ Q' : VK, Q' (.bl c2) H → tb σ H Q') (h : Q (.bl (c1 || c2)) H) : tOrV ta tb σ H Q := h1 _ ⟨c1, rfl, by
  cases c1 with
  | true => exact iteT h
  | false => exact iteF (h2 _ h)⟩
theorem go_ifxP (h1 : ∀ QB' : Bool → Hp → Prop, QB' c1 H → tt σ H QB') (h2 : ∀ Q' : VK, Q' v1 H → ta σ H Q') (h3 : ∀ Q' : VK, Q' v2 H → tb σ H Q') (h : Q (if c1 = true then v1 else v2) H) : tIf tt ta tb σ H Q := h1 _ (by
  cases c1 with
  | true => exact iteT (h2 _ h)
  | false => exact iteF (h3 _ h))
theorem and_join (h2 : ∀ QB' : Bool → Hp → Prop, QB' c2 H → tu σ H QB') (h : QB (c1 && c2) H) : if c1 = true then tu σ H QB else QB false H := by
  cases c1 with
  | true => exact iteT (h2 _ h)
  | false => exact iteF h
theorem or_join (h2 : ∀ QB' : Bool → Hp → Prop, QB' c2 H → tu σ H QB') (h : QB (c1 || c2) H) : if c1 = true then QB true H else tu σ H QB := by
  cases c1 with
  | true => exact iteT h
  | false => exact iteF (h2 _ h)
theorem andV_join (h2 : ∀ Q' : VK, Q' (.bl c2) H → tb σ H Q') (h : Q (.bl (c1 && c2)) H) : if c1 = true then tb σ H Q else Q (.bl false) H := by
  cases c1 with
  | true => exact iteT (h2 _ h)
  | false => exact iteF h
theorem orV_join (h2 : ∀ Q' : VK, Q' (.bl c2) H → tb σ H Q') (h : Q (.bl (c1 || c2)) H) : if c1 = true then Q (.bl true) H else tb σ H Q := by
  cases c1 with
  | true => exact iteT h
  | false => exact iteF (h2 _ h)
/-- the same where the parts may lay new objects -/
theorem go_andS (h1 : ∀ QB' : Bool → Hp → Prop, (∀ H', Same H H' → QB' c1 H') → tt σ H QB') (h2 : ∀ H1, Same H H1 → ∀ QB' : Bool → Hp → Prop, (∀ H', Same H1 H' → QB' c2 H') → tu σ H1 QB') (h : ∀ H', Same H H' → QB (c1 && c2) H') : tAnd tt tu σ H QB := h1 _ fun H1 s1 => by
  cases c1 with
  | true => exact iteT (h2 _ s1 _ fun H2 s2 => h _ (s1.trans s2))
  | false => exact iteF (h _ s1)
theorem go_orS (h1 : ∀ QB' : Bool → Hp → Prop, (∀ H', Same H H' → QB' c1 H') → tt σ H QB') (h2 : ∀ H1, Same H H1 → ∀ QB' : Bool → Hp → Prop, (∀ H', Same H1 H' → QB' c2 H') → tu σ H1 QB') (h : ∀ H', Same H H' → QB (c1 || c2) H') : tOr tt tu σ H QB := h1 _ fun H1 s1 => by
  cases c1 with
  | true => exact iteT (h _ s1)
  | false => exact iteF (h2 _ s1 _ fun H2 s2 => h _ (s1.trans s2))
end
end L2.A

namespace L2.A
open PySem PySem.Spec PyProof.Rows
/-- a statement, then the rest, with a word between them: what follows is shown once, from Mid -/
def tCut (t u : TS) : TS := fun D σ H => ∃ Mid : St → Hp → Prop, t { D with nx := Mid } σ H ∧ ∀ σ' H', Mid σ' H' → u D σ' H'
theorem pss_cut {X : Cx} {st : Stmt} {rest : List Stmt} {t u : TS} (h1 : PS X st t) (h2 : PSs X rest u) : PSs X (st :: rest) (tCut t u) := by
  refine ⟨fun pins s σ H D I h => ?_⟩
  obtain ⟨Mid, hm, hu⟩ := h
  refine wpAny_execs_cons (thn (h1.run pins s σ H { D with nx := Mid } I hm) fun f s1 q => ?_)
  cases f with
  | next =>
    obtain ⟨σ', H', I', q⟩ := q
    exact h2.run pins s1 σ' H' D I' (hu σ' H' q)
  | ret v => exact q
  | brk => exact q
  | cont => exact q
theorem go_cut {t u : TS} {D : Ends} {σ : St} {H : Hp} (Mid : St → Hp → Prop) (h1 : t { D with nx := Mid } σ H) (h2 : ∀ σ' H', Mid σ' H' → u D σ' H') : tCut t u D σ H := ⟨Mid, h1, h2⟩
end L2.A

namespace L2.A
open PySem PySem.Spec PyProof.Rows
theorem seqT_same {K : PySem.W.Frag} {H H' : Hp} {p : Addr} {xs : List V} (h : SqT K H p xs) (s : Same H H') : SqT K H' p xs := by
  rcases h with (h | ⟨o, h⟩) | h
  · exact .inl (.inl (s _ _ h))
  · exact .inl (.inr ⟨o, s _ _ h⟩)
  · exact .inr h
theorem seqL_same {K : PySem.W.Frag} {H H' : Hp} {p : Addr} {xs : List V} (h : SqL K H p xs) (s : Same H H') : SqL K H' p xs := s.seq h
/-- == of scalars in short -/
abbrev eI (a b : Int) : Bool := decide (V.int a = V.int b)
abbrev eS (a b : Str) : Bool := decide (V.str a = V.str b)
theorem eI_eq (a b : Int) : eI a b = decide (a = b) := by simp
theorem eS_eq (a b : Str) : eS a b = decide (a = b) := by simp
end L2.A

namespace L2.A
open PySem PySem.Spec PyProof.Rows
section
variable {σ : St} {H : Hp} {Q : VK}
/-! ### displays of dicts -/
def kvOf (p : V × V) : Key × V := (match p.1 with | .str x => Sum.inr x | .int i => Sum.inl i | _ => Sum.inl 0, p.2)
def DispK (p : Addr) (ps : List (V × V)) (H2 : Hp) (Q : VK) : Prop := H2 p = some (.dK []) ∧ ∃ kvs : List (Key × V), ps = kvs.map (fun kv => (kV kv.1, kv.2)) ∧ kvs.length ≤ 15 ∧ Q (.ref p) (upd H2 p (.dK (mergeK [] kvs)))
def DispN (trs : List (TE × TE)) (σ : St) (H : Hp) (Q : VK) : Prop := ∀ p, H p = none → tPairs trs σ (upd H p (.dK [])) fun ps H2 => DispK p ps H2 Q
theorem go_disp {trs : List (TE × TE)} (h : DispN trs σ H Q) : tDisp trs σ H Q := h
theorem go_pairs {tk tv : TE} {r : List (TE × TE)} {R : List (V × V) → Hp → Prop} (h : tk σ H fun k H1 => tv σ H1 fun v H2 => tPairs r σ H2 fun ps H3 => R ((k, v) :: ps) H3) : tPairs ((tk, tv) :: r) σ H R := h
theorem go_pairs0 {R : List (V × V) → Hp → Prop} (h : R [] H) : tPairs [] σ H R := h
theorem go_dispK {p : Addr} {ps : List (V × V)} (h0 : H p = some (.dK [])) (e : ps = (ps.map kvOf).map (fun kv => (kV kv.1, kv.2))) (hl : Nat.ble (ps.map kvOf).length 15 = true) (h : Q (.ref p) (upd H p (.dK (mergeK [] (ps.map kvOf))))) : DispK p ps H Q :=
  ⟨h0, _, e, Nat.le_of_ble_eq_true hl, h⟩
end
end L2.A

namespace L2.A
open PySem PySem.Spec PyProof.Rows
theorem upd_free {H : Hp} {a b : Addr} {o : HO} (h : upd H a o b = none) : H b = none := by
  by_cases e : b = a
  · subst e; rw [upd_same] at h; cases h
  · rw [upd_ne e] at h; exact h
end L2.A

namespace L2.A
open PySem PySem.Spec PyProof.Rows
/-- a statement that lays nothing: the slots behind it told -/
theorem go_cutP {t u : TS} {D : Ends} {σ : St} {H : Hp} (σ1 : St) (h1 : t { D with nx := fun σ' H' => σ' = σ1 ∧ H' = H } σ H) (h2 : u D σ1 H) : tCut t u D σ H := ⟨_, h1, fun _ _ ⟨e1, e2⟩ => by rw [e1, e2]; exact h2⟩
/-- .. that may lay new objects -/
theorem go_cutS {t u : TS} {D : Ends} {σ : St} {H : Hp} (σ1 : St) (h1 : t { D with nx := fun σ' H' => σ' = σ1 ∧ Same H H' } σ H) (h2 : ∀ H', Same H H' → u D σ1 H') : tCut t u D σ H := ⟨_, h1, fun _ _ ⟨e1, e2⟩ => by rw [e1]; exact h2 _ e2⟩
end L2.A

namespace L2.A
open PySem PySem.Spec PyProof.Rows
section
variable {X : Cx} {K : PySem.W.Frag} {σ : St} {H : Hp} {Q : VK}
/-! ### slices -/
def PartI (x : V) (H : Hp) (R : Option Int → Hp → Prop) : Prop := ∃ i, x = .int i ∧ R (some i) H
theorem go_sl {r : V → Option Int → Option Int → Hp → VK → Prop} {te : TE} {tl th : TO} (h : te σ H fun x H1 => tl σ H1 fun l H2 => th σ H2 fun u H3 => r x l u H3 Q) : tSl r te tl th σ H Q := h
theorem go_nopart {R : Option Int → Hp → Prop} (h : R none H) : tNoPart σ H R := h
theorem go_part {t : TE} {R : Option Int → Hp → Prop} (h : t σ H fun x H1 => PartI x H1 R) : tPart t σ H R := h
theorem go_partI {i : Int} {R : Option Int → Hp → Prop} (h : R (some i) H) : PartI (.int i) H R := ⟨i, rfl, h⟩
theorem go_slT {p : Addr} {xs ys : List V} {lo hi : Option Int} (hp : SqT K H p xs) (e : cutV xs lo hi = ys) (n : (Nat.beq (HT.sIx xs.length 0 lo) 0 && Nat.beq (HT.sIx xs.length xs.length hi) xs.length) = false) (h : NewO (.tup ys) H Q) : rSlX K (.ref p) lo hi H Q :=
  .inr (.inl ⟨p, xs, rfl, hp, fun ⟨z1, z2⟩ => by rw [z1, z2] at n; simp at n, by rw [e]; exact h⟩)
theorem go_slL {p : Addr} {xs ys : List V} {lo hi : Option Int} (hp : SqL K H p xs) (e : cutV xs lo hi = ys) (h : NewO (.lst ys) H Q) : rSlX K (.ref p) lo hi H Q := .inl ⟨p, xs, rfl, hp, by rw [e]; exact h⟩
theorem go_slS {z : Str} {lo hi : Option Int} (hz : z.length ≤ sizeLine) (h : Q (.str (cutS z lo hi)) H) : rSlX K (.str z) lo hi H Q := .inr (.inr ⟨z, rfl, hz, h⟩)
/-! ### min, max of three -/
def rMn3 : List V → Hp → VK → Prop := fun xs H Q => ∃ i j k : Int, xs = [.int i, .int j, .int k] ∧ Q (.int (min i (min j k))) H
def rMx3 : List V → Hp → VK → Prop := fun xs H Q => ∃ i j k : Int, xs = [.int i, .int j, .int k] ∧ Q (.int (max i (max j k))) H
theorem vals3 {x y z : V} {us : List Value} (r : Vals [x, y, z] us) : ∃ u v w', us = [u, v, w'] ∧ RelV x u ∧ RelV y v ∧ RelV z w' := by
  cases r with
  | cons r1 r2 =>
    obtain ⟨u, v, rfl, a, b⟩ := vals2 r2
    exact ⟨_, _, _, rfl, r1, a, b⟩
theorem call_mn3 (hc : X.calm = true) : CallR X (.builtin "min") rMn3 := by
  intro pins s σ H xs us Q I r h
  obtain ⟨i, j, k, rfl, q⟩ := h
  obtain ⟨u, v, w', rfl, ⟨t, rfl⟩, ⟨t', rfl⟩, ⟨t2, rfl⟩⟩ := vals3 r
  refine min_three_ints (I.ok.hd hc) fun h' tk hk => ⟨_, H, I.kept hk, ?_, q⟩
  by_cases h1 : j < i
  · by_cases h2 : k < j
    · rw [if_pos h1, if_pos h2]; exact ⟨_, by rw [show min i (min j k) = k by omega]⟩
    · rw [if_pos h1, if_neg h2]; exact ⟨_, by rw [show min i (min j k) = j by omega]⟩
  · by_cases h2 : k < i
    · rw [if_neg h1, if_pos h2]; exact ⟨_, by rw [show min i (min j k) = k by omega]⟩
    · rw [if_neg h1, if_neg h2]; exact ⟨_, by rw [show min i (min j k) = i by omega]⟩
theorem call_mx3 (hc : X.calm = true) : CallR X (.builtin "max") rMx3 := by
  intro pins s σ H xs us Q I r h
  obtain ⟨i, j, k, rfl, q⟩ := h
  obtain ⟨u, v, w', rfl, ⟨t, rfl⟩, ⟨t', rfl⟩, ⟨t2, rfl⟩⟩ := vals3 r
  refine max_three_ints (I.ok.hd hc) fun h' tk hk => ⟨_, H, I.kept hk, ?_, q⟩
  by_cases h1 : j > i
  · by_cases h2 : k > j
    · rw [if_pos h1, if_pos h2]; exact ⟨_, by rw [show max i (max j k) = k by omega]⟩
    · rw [if_pos h1, if_neg h2]; exact ⟨_, by rw [show max i (max j k) = j by omega]⟩
  · by_cases h2 : k > i
    · rw [if_neg h1, if_pos h2]; exact ⟨_, by rw [show max i (max j k) = k by omega]⟩
    · rw [if_neg h1, if_neg h2]; exact ⟨_, by rw [show max i (max j k) = i by omega]⟩
theorem go_min3 {a b c : Int} (h : Q (.int (min a (min b c))) H) : rMn3 [V.int a, V.int b, V.int c] H Q := ⟨a, b, c, rfl, h⟩
theorem go_max3 {a b c : Int} (h : Q (.int (max a (max b c))) H) : rMx3 [V.int a, V.int b, V.int c] H Q := ⟨a, b, c, rfl, h⟩
end
end L2.A

namespace L2.A
open PySem PySem.Spec PyProof.Rows
theorem ge2 {H H' : Hp} {a : Addr} {o : HO} (h : H a = some o) (s : Same H H') : H' a = some o := s a o h
end L2.A


namespace L2.A
open PySem PySem.Spec PyProof.Rows
/-! ### == of data at any depth -/
mutual
theorem Dp.same {K : PySem.W.Frag} {H H' : Hp} (s : Same H H') : ∀ (d : PyData) (v : V), Dp K H v d → Dp K H' v d
  | .none, _, h => by cases h; exact .non
  | .bool b, _, h => by cases h; exact .bl b
  | .int i, _, h => by cases h; exact .int i
  | .str x, _, h => by cases h; exact .str x
  | .list ds, _, h => by
    cases h with
    | lst hs ha => exact .lst (s.seq hs) (Dp.sameAll s ds _ ha)
  | .tuple ds, _, h => by
    cases h with
    | tup hs ha => exact .tup (seqT_same hs s) (Dp.sameAll s ds _ ha)
  | .dict _, _, h => by cases h
theorem Dp.sameAll {K : PySem.W.Frag} {H H' : Hp} (s : Same H H') : ∀ (ds : List PyData) (vs : List V), DpAll K H vs ds → DpAll K H' vs ds
  | [], _, h => by cases h; exact .nil
  | d :: ds, _, h => by
    cases h with
    | cons h1 h2 => exact .cons (Dp.same s d _ h1) (Dp.sameAll s ds _ h2)
end
/-- the datum of a scalar -/
def dV : V → PyData
  | .bl b => .bool b
  | .int i => .int i
  | .str x => .str x
  | _ => .none
theorem Dp.flat {K : PySem.W.Frag} {H : Hp} : ∀ {v : V}, flatV v = true → Dp K H v (dV v)
  | .non, _ => .non
  | .bl b, _ => .bl b
  | .int i, _ => .int i
  | .str x, _ => .str x
theorem DpAll.flat {K : PySem.W.Frag} {H : Hp} : ∀ {vs : List V}, vs.all flatV = true → DpAll K H vs (vs.map dV)
  | [], _ => .nil
  | v :: vs, h => by
    have h' : flatV v = true ∧ vs.all flatV = true := by simpa using h
    exact .cons (Dp.flat h'.1) (DpAll.flat h'.2)
/-- a scalar whose text may be laid -/
def okV : V → Bool
  | .non | .bl _ | .int _ => true
  | .str x => PySem.PyData.strOk x
  | _ => false
theorem okV_flat {v : V} (h : okV v = true) : flatV v = true := by cases v <;> simp_all [okV, flatV]
theorem okV_all {vs : List V} (h : vs.all okV = true) : vs.all flatV = true := by
  rw [List.all_eq_true] at h ⊢
  exact fun v m => okV_flat (h v m)
theorem lay_flat {v : V} (h : okV v = true) : (dV v).canLay0 = true := by cases v <;> simp_all [okV, dV, PyData.canLay0]
theorem layAll_flat : ∀ {vs : List V}, vs.all okV = true → PyData.canLayAll0 (vs.map dV) = true
  | [], _ => rfl
  | v :: vs, h => by
    have h' : okV v = true ∧ vs.all okV = true := by simpa using h
    simp only [List.map_cons, PyData.canLayAll0, lay_flat h'.1, layAll_flat h'.2, Bool.and_self]
theorem depth_flat {v : V} : (dV v).depth = 0 := by cases v <;> simp [dV, PyData.depth]
theorem depthAll_flat : ∀ {vs : List V}, PyData.depthAll (vs.map dV) = 0
  | [] => rfl
  | v :: vs => by simp only [List.map_cons, PyData.depthAll, depth_flat, depthAll_flat]; rfl
theorem shaped_tup {vs : List V} (h : vs.all okV = true) : SeqAt.shaped (.tuple (vs.map dV)) = true := by
  simp only [SeqAt.shaped, PyData.canLay0, layAll_flat h, PyData.depth, depthAll_flat]; rfl
theorem shaped_lst {vs : List V} (h : vs.all okV = true) : SeqAt.shaped (.list (vs.map dV)) = true := by
  simp only [SeqAt.shaped, PyData.canLay0, layAll_flat h, PyData.depth, depthAll_flat]; rfl
/-- == of rows of scalars -/
def eqVs (xs ys : List V) : Bool := PyData.eqvAll (xs.map dV) (ys.map dV)
theorem eqVs_refl {vs : List V} (h : vs.all okV = true) : eqVs vs vs = true := SeqAt.eqvAll_refl _ (layAll_flat h)
section
variable {K : PySem.W.Frag} {H : Hp} {Q : VK}
theorem go_eqT {p q : Addr} {xs ys : List V} (hp : SqT K H p xs) (hq : SqT K H q ys) (ox : xs.all okV = true) (oy : ys.all okV = true) (h : Q (.bl (eqVs xs ys)) H) : rEqX K (.ref p) (.ref q) H Q :=
  .inr ⟨_, _, .tup hp (DpAll.flat (okV_all ox)), .tup hq (DpAll.flat (okV_all oy)), shaped_tup ox, shaped_tup oy, by rw [PyData.eqv]; exact h⟩
theorem go_neT {p q : Addr} {xs ys : List V} (hp : SqT K H p xs) (hq : SqT K H q ys) (ox : xs.all okV = true) (oy : ys.all okV = true) (h : Q (.bl (!eqVs xs ys)) H) : rNeX K (.ref p) (.ref q) H Q :=
  .inr ⟨_, _, .tup hp (DpAll.flat (okV_all ox)), .tup hq (DpAll.flat (okV_all oy)), shaped_tup ox, shaped_tup oy, by rw [PyData.eqv]; exact h⟩
theorem go_eqL {p q : Addr} {xs ys : List V} (hp : SqL K H p xs) (hq : SqL K H q ys) (ox : xs.all okV = true) (oy : ys.all okV = true) (h : Q (.bl (eqVs xs ys)) H) : rEqX K (.ref p) (.ref q) H Q :=
  .inr ⟨_, _, .lst hp (DpAll.flat (okV_all ox)), .lst hq (DpAll.flat (okV_all oy)), shaped_lst ox, shaped_lst oy, by rw [PyData.eqv]; exact h⟩
theorem go_neL {p q : Addr} {xs ys : List V} (hp : SqL K H p xs) (hq : SqL K H q ys) (ox : xs.all okV = true) (oy : ys.all okV = true) (h : Q (.bl (!eqVs xs ys)) H) : rNeX K (.ref p) (.ref q) H Q :=
  .inr ⟨_, _, .lst hp (DpAll.flat (okV_all ox)), .lst hq (DpAll.flat (okV_all oy)), shaped_lst ox, shaped_lst oy, by rw [PyData.eqv]; exact h⟩
end
end L2.A


namespace L2.A
open PySem PySem.Spec PyProof.Rows
section
variable {X : Cx} {K : PySem.W.Frag}
/-! ### the same rules with the fragment named (within a comprehension's own context) -/
theorem op_addK (hK : X.K = K) : OpR X (binaryOp .Add) (rAddX K) := hK ▸ op_addX
theorem op_eqK (hK : X.K = K) (hu : X.A.units + 64 < cLine) : OpR X (compareOp .Eq) (rEqX K) := hK ▸ op_eqX hu
theorem op_neK (hK : X.K = K) (hu : X.A.units + 64 < cLine) : OpR X (compareOp .NotEq) (rNeX K) := hK ▸ op_neX hu
theorem op_inK (hK : X.K = K) (hu : X.A.units + 1 < cLine) : OpR X (compareOp .In) (rInX K) := hK ▸ op_inX hu
theorem op_notInK (hK : X.K = K) (hu : X.A.units + 1 < cLine) : OpR X (compareOp .NotIn) (rNotInX K) := hK ▸ op_notInX hu
theorem op_isK' (hK : X.K = K) : OpR X (compareOp .Is) (rIsX K) := hK ▸ op_isX
theorem op_isNotK' (hK : X.K = K) : OpR X (compareOp .IsNot) (rIsNotX K) := hK ▸ op_isNotX
theorem ix_K (hK : X.K = K) (hu : X.A.units + 1 < cLine) : IxR X (rIxX K) := hK ▸ ix_X hu
theorem sl_K (hK : X.K = K) : SlR X (rSlX K) := hK ▸ sl_X
theorem call_lenK (hK : X.K = K) : CallR X (.builtin "len") (rLenX K) := hK ▸ call_lenX
theorem call_isiK (hK : X.K = K) : CallR X (.builtin "isinstance") (rIsiX K) := hK ▸ call_isiX
theorem call_listK (hK : X.K = K) : CallR X (.type "list") (rListO K) := hK ▸ call_listO
theorem call_tupK (hK : X.K = K) : CallR X (.type "tuple") (rTupO K) := hK ▸ call_tupO
theorem pt_truK (hK : X.K = K) {a : Expr} {ta : TE} (ha : PE X a ta) (he : ∀ whole, isTrue a X.env whole = (do let v ← whole; standAt a.pos; holding [v] (truthy v)) := by intro _; rfl) : PT X a (tTruX K ta) := hK ▸ pt_truX ha he
theorem pi_K (hK : X.K = K) {tg l : Expr} {tl : TE} (hl : PE X l tl) : PI X tg l (iX K tl) := hK ▸ pi_X hl
theorem cr_sumK (hK : X.K = K) (hc : X.calm = true) : CallR X (.builtin "sum") (rSum K) := hK ▸ cr_sum hc
theorem cr_allK (hK : X.K = K) (hc : X.calm = true) : CallR X (.builtin "all") (rAll K) := hK ▸ cr_all hc
theorem cr_anyK (hK : X.K = K) (hc : X.calm = true) : CallR X (.builtin "any") (rAny K) := hK ▸ cr_any hc
theorem pg_tupK (hK : X.K = K) {es : List Expr} {k : Nat} {t : TGs} {n : Nat} {pos : Pos} {i : ExprContext} (hc : X.calm = true) (h : PGs X es t)
    (hn : (assignEach es X.env).length = n := by rfl) (hst : (assignEach es X.env).findIdx? (·.1) = none := by rfl) : PG X (.Tuple es k pos) (gTup K n t) := hK ▸ pg_tup hc h hn hst
end
def BmW (K : PySem.W.Frag) (T : String) (rc : V → List V → Hp → VK → Prop) (ta : TA) (σ : St) (x : V) (H1 : Hp) (Q : VK) : Prop := tyV K T x H1 ∧ ta σ H1 fun vs H2 => rc x vs H2 Q
def BmW0 (K : PySem.W.Frag) (T : String) (rc : V → List V → Hp → VK → Prop) (x : V) (H1 : Hp) (Q : VK) : Prop := tyV K T x H1 ∧ rc x [] H1 Q
section
variable {K : PySem.W.Frag} {H : Hp} {Q : VK} {σ : St}
/-! ### bound methods -/
theorem go_bm {T : String} {rc : V → List V → Hp → VK → Prop} {te : TE} {ta : TA} (h : te σ H fun x H1 => BmW K T rc ta σ x H1 Q) : tBM K T rc te ta σ H Q := h
theorem go_bmW {T : String} {rc : V → List V → Hp → VK → Prop} {ta : TA} {x : V} (h1 : tyV K T x H) (h : ta σ H fun vs H2 => rc x vs H2 Q) : BmW K T rc ta σ x H Q := ⟨h1, h⟩
theorem go_bm0 {T : String} {rc : V → List V → Hp → VK → Prop} {te : TE} (h : te σ H fun x H1 => BmW0 K T rc x H1 Q) : tBM0 K T rc te σ H Q := h
theorem go_bmW0 {T : String} {rc : V → List V → Hp → VK → Prop} {x : V} (h1 : tyV K T x H) (h : rc x [] H Q) : BmW0 K T rc x H Q := ⟨h1, h⟩
theorem tyV_s {z : Str} : tyV K "str" (.str z) H := rfl
theorem tyV_l {p : Addr} {xs : List V} (h : SqL K H p xs) : tyV K "list" (.ref p) H := .inl ⟨rfl, xs, h⟩
theorem tyV_d {p : Addr} {kvs : List (Key × V)} (h : H p = some (.dK kvs)) : tyV K "dict" (.ref p) H := .inr (.inr (.inl ⟨rfl, .inl ⟨kvs, h⟩⟩))
theorem tyV_dT {p : Addr} {kvs} (h : H p = some (.dT kvs)) : tyV K "dict" (.ref p) H := .inr (.inr (.inl ⟨rfl, .inr ⟨kvs, h⟩⟩))
theorem go_append {l : Addr} {xs : List V} {y : V} (hl : H l = some (.lst xs)) (z : xs.length < 100000) (h : Q .non (upd H l (.lst (xs ++ [y])))) : rAppend (.ref l) [y] H Q := ⟨l, xs, y, rfl, rfl, hl, Nat.lt_of_lt_of_le z (by decide), h⟩
end
end L2.A

namespace L2.A
open PySem PySem.Spec PyProof.Rows
section
variable {σ σ' : St} {H : Hp} {D : Ends} {u v w : V} {i j l : Nat} {ta : TA}
def P3 (i j l : Nat) (σ : St) (D : Ends) (vs : List V) (H1 : Hp) : Prop := ∃ u v w, vs = [u, v, w] ∧ D.nx (((σ.set i (some u)).set j (some v)).set l (some w)) H1
def P2 (i j : Nat) (σ : St) (D : Ends) (vs : List V) (H1 : Hp) : Prop := ∃ u v, vs = [u, v] ∧ D.nx ((σ.set i (some u)).set j (some v)) H1
theorem go_par3 (h : ta σ H fun vs H1 => P3 i j l σ D vs H1) : tPar3 i j l ta D σ H := h
theorem go_par (h : ta σ H fun vs H1 => P2 i j σ D vs H1) : tPar i j ta D σ H := h
theorem go_p3 (e : ((σ.set i (some u)).set j (some v)).set l (some w) = σ') (h : D.nx σ' H) : P3 i j l σ D [u, v, w] H := ⟨u, v, w, rfl, by rw [e]; exact h⟩
theorem go_p2 (e : (σ.set i (some u)).set j (some v) = σ') (h : D.nx σ' H) : P2 i j σ D [u, v] H := ⟨u, v, rfl, by rw [e]; exact h⟩
end
theorem kp_mut {fp : Addr → Prop} {H H' : Hp} {l : Addr} {o : HO} (k : Kp fp H H') (h : H l = none) : Kp fp H (upd H' l o) := fun a u e n => by rw [upd_ne (ne_of_none e h)]; exact k a u e n
theorem kp_new {fp : Addr → Prop} {H H' : Hp} {l : Addr} {o : HO} (k : Kp fp H H') (h : H' l = none) : Kp fp H (upd H' l o) := k.trans (Kp.same (same_new h))
end L2.A

namespace L2.A
open PySem PySem.Spec PyProof.Rows
/-- a new object, the heap abstract -/
theorem go_new {o : HO} {H : Hp} {Q : VK} (h : ∀ p H', H p = none → Same H H' → H' p = some o → Q (.ref p) H') : NewO o H Q := fun p hp => h p _ hp (same_new hp) upd_same
/-- the same, from an earlier heap -/
theorem go_newS {o : HO} {H0 H : Hp} {Q : VK} (s : Same H0 H) (h : ∀ p H', H0 p = none → Same H0 H' → H' p = some o → Q (.ref p) H') : NewO o H Q := fun p hp => h p _ (s.free hp) (s.trans (same_new hp)) upd_same
end L2.A

namespace L2.A
open PySem PySem.Spec PyProof.Rows
section
variable {X : Cx} {K : PySem.W.Frag} {σ σ' : St} {H : Hp} {D : Ends} {Q : VK} {J : It} {n : Nat} {G : Hp → Prop} {Y : Nat → Hp → V → Hp → Prop}
/-! ### walks of any kind -/
theorem ForW.it (w : Walk J n G Y) {g : TG} {tb : TS} (Pv : Nat → St → Hp → Prop) (h0 : Pv 0 σ H) (hG : ∀ i σ H, i ≤ n → Pv i σ H → G H)
    (hs : ∀ i x σ H H', i < n → Pv i σ H → Y i H x H' → g x σ H' fun σ2 H2 => tb { D with nx := Pv (i + 1), ct := Pv (i + 1), bk := D.nx } σ2 H2) (hd : ∀ σ H, Pv n σ H → D.nx σ H) : ForW J g tb D σ H := for_it w Pv h0 hG hs hd
theorem LcW.it (w : Walk J n G Y) {H1 : Hp} {g : TG} {tt : TT} {te : TE} {vs : List Nat} (R : Addr → Nat → List V → Hp → Prop) (hz : n ≤ 100000) (h0 : ∀ D, H1 D = none → R D 0 [] (upd H1 D (.lst []))) (hG : ∀ D i ys H, H1 D = none → i ≤ n → H D = some (.lst ys) → R D i ys H → G H)
    (hs : ∀ D i x ys H H', H1 D = none → i < n → ys.length ≤ i → H D = some (.lst ys) → R D i ys H → Y i H x H' → ∀ (yes : V → Hp → Prop) (no : Hp → Prop),
      (∀ y H'', H'' D = some (.lst ys) → R D (i + 1) (ys ++ [y]) (upd H'' D (.lst (ys ++ [y]))) → yes y H'') → (∀ H'', H'' D = some (.lst ys) → R D (i + 1) ys H'' → no H'') →
      g x (wipe σ vs) H' fun σ2 H2 => wipe σ2 vs = wipe σ vs ∧ tt σ2 H2 fun b H3 => if b = true then te σ2 H3 yes else no H3)
    (hd : ∀ D ys H', H1 D = none → H' D = some (.lst ys) → ys.length ≤ n → R D n ys H' → Q (.ref D) H') : LcW J g tt te vs σ H1 Q := by
  intro D hD
  refine lc_it w (fun i H' => ∃ ys, H' D = some (.lst ys) ∧ ys.length ≤ i ∧ R D i ys H') ⟨[], upd_same, Nat.le_refl _, h0 D hD⟩ (fun i H' hi ⟨ys, e, _, r⟩ => hG D i ys H' hD hi e r) (fun i x H' H'' hi ⟨ys, e, hl, r⟩ y => ?_) fun H' ⟨ys, e, hl, r⟩ => hd D ys H' hD e hl r
  refine hs D i x ys H' H'' hD hi hl e r y _ _ (fun z H3 e3 r3 => ⟨ys, e3, ?_, ys ++ [z], upd_same, by rw [List.length_append]; show ys.length + 1 ≤ _; omega, r3⟩) fun H3 e3 r3 => ⟨ys, e3, by omega, r3⟩
  exact Nat.lt_of_le_of_lt hl (Nat.lt_of_lt_of_le hi (Nat.le_trans hz (by decide)))
/-! ### reversed(range), enumerate, zip -/
def RvR (a b : Int) (H1 : Hp) (R : It → Hp → Prop) : Prop := -(2 ^ 62) ≤ a ∧ a < 2 ^ 62 ∧ -(2 ^ 62) ≤ b ∧ b < 2 ^ 62 ∧ R (Itc (a + (((b - a).toNat : Nat) : Int) - 1) (-1) (b - a).toNat) H1
def Rg1 (x : V) (H1 : Hp) (Q : Int → Int → Hp → Prop) : Prop := ∃ n, x = .int n ∧ Q 0 n H1
theorem go_revR {tr : St → Hp → (Int → Int → Hp → Prop) → Prop} {R : It → Hp → Prop} (h : tr σ H fun a b H1 => RvR a b H1 R) : iRevR tr σ H R := h
theorem go_rg1 {ta : TE} {Q : Int → Int → Hp → Prop} (h : ta σ H fun x H1 => Rg1 x H1 Q) : tRg1 ta σ H Q := h
theorem go_rg1b {n : Int} {Q : Int → Int → Hp → Prop} (h : Q 0 n H) : Rg1 (.int n) H Q := ⟨n, rfl, h⟩
theorem go_rvR {b : Int} {R : It → Hp → Prop} (h1 : 0 ≤ b ∧ b ≤ 100000) (h : R (Itc (b - 1) (-1) b.toNat) H) : RvR 0 b H R := ⟨by omega, by omega, by omega, by omega, by rw [show (0 : Int) + (((b - 0).toNat : Nat) : Int) - 1 = b - 1 by omega, show (b - 0).toNat = b.toNat by omega]; exact h⟩
def EnW (K : PySem.W.Frag) (vs : List V) (H1 : Hp) (R : It → Hp → Prop) : Prop := ∃ a xs, vs = [.ref a] ∧ SqL K H1 a xs ∧ R (Ite K a) H1
theorem go_enum {ta : TA} {R : It → Hp → Prop} (h : ta σ H fun vs H1 => EnW K vs H1 R) : iEnum K ta σ H R := h
theorem go_enW {a : Addr} {xs : List V} {R : It → Hp → Prop} (hS : SqL K H a xs) (h : R (Ite K a) H) : EnW K [.ref a] H R := ⟨a, xs, rfl, hS, h⟩
def ZpW (K : PySem.W.Frag) (vs : List V) (H1 : Hp) (R : It → Hp → Prop) : Prop := ∃ a b xs ys, vs = [.ref a, .ref b] ∧ SqL K H1 a xs ∧ SqL K H1 b ys ∧ R (Itz K a b) H1
theorem go_zip {ta : TA} {R : It → Hp → Prop} (h : ta σ H fun vs H1 => ZpW K vs H1 R) : iZip K ta σ H R := h
theorem go_zpW {a b : Addr} {xs ys : List V} {R : It → Hp → Prop} (hS : SqL K H a xs) (hT : SqL K H b ys) (h : R (Itz K a b) H) : ZpW K [.ref a, .ref b] H R := ⟨a, b, xs, ys, rfl, hS, hT, h⟩
/-! ### name op= e, o[i] op= e -/
theorem ip_addX : PIp X .Add (fun x y H Q => rI0 (fun i j => .int (i + j)) x y H Q ∨ rStrA x y H Q ∨ rExt2 x y H Q) := iop_add.or (iop_add_str.or iop_ext)
def AugW (te : TE) (ti : TIp) (σ : St) (i : Nat) (D : Ends) (x : V) (H : Hp) : Prop := te σ H fun y H1 => ti x y H1 fun z H2 => D.nx (σ.set i (some z)) H2
theorem go_aug {i : Nat} {te : TE} {ti : TIp} {x : V} (e : σ[i]? = some (some x)) (h : te σ H fun y H1 => ti x y H1 fun z H2 => gName i z σ H2 D.nx) : tAug i te ti D σ H := ⟨x, e, h⟩
theorem go_ipI {f : Int → Int → Int} {a b : Int} (h : Q (.int (f a b)) H) : ipI f (.int a) (.int b) H Q := ⟨a, b, rfl, rfl, h⟩
theorem go_ipA {a b : Int} (h : Q (.int (a + b)) H) : (rI0 (fun i j => .int (i + j)) (.int a) (.int b) H Q ∨ rStrA (.int a) (.int b) H Q ∨ rExt2 (.int a) (.int b) H Q) := .inl ⟨a, b, rfl, rfl, h⟩
theorem go_ipS {a b : Str} (z : a.length + b.length ≤ sizeLine) (h : Q (.str (a ++ b)) H) : (rI0 (fun i j => .int (i + j)) (.str a) (.str b) H Q ∨ rStrA (.str a) (.str b) H Q ∨ rExt2 (.str a) (.str b) H Q) := .inr (.inl ⟨a, b, rfl, rfl, z, h⟩)
theorem go_ipL {a b : Addr} {xs ys : List V} (hp : H a = some (.lst xs)) (hq : H b = some (.lst ys)) (z : xs.length + ys.length ≤ sizeLine) (h : Q (.ref a) (upd H a (.lst (xs ++ ys)))) : (rI0 (fun i j => .int (i + j)) (.ref a) (.ref b) H Q ∨ rStrA (.ref a) (.ref b) H Q ∨ rExt2 (.ref a) (.ref b) H Q) := .inr (.inr ⟨a, b, xs, ys, rfl, rfl, hp, hq, z, h⟩)
end
/-! ### lists told by a function of the place -/
def lstF (n : Nat) (f : Nat → V) : List V := (List.range n).map f
theorem lstF_len {n : Nat} {f : Nat → V} : (lstF n f).length = n := by simp [lstF]
theorem lstF_at {n : Nat} {f : Nat → V} {i : Nat} (h : i < n) : (lstF n f)[i]? = some (f i) := by simp [lstF, h]
theorem lstF_atI {n : Nat} {f : Nat → V} {i : Int} (h0 : 0 ≤ i) (h1 : i < n) : atI (lstF n f) i = some (f i.toNat) := by
  obtain ⟨j, rfl⟩ : ∃ j : Nat, i = (j : Int) := ⟨i.toNat, by omega⟩
  exact atI_nat (lstF_at (by omega))
theorem lstF_last {n : Nat} {f : Nat → V} : atI (lstF (n + 1) f) (-1) = some (f n) := by
  have e : ixN (n + 1) (-1) = some n := by
    unfold ixN
    rw [if_neg (by omega), if_pos (by omega)]
    congr 1
    omega
  unfold atI
  rw [lstF_len, e]
  exact lstF_at (by omega)
theorem lstF_app {n : Nat} {f : Nat → V} {v : V} : lstF n f ++ [v] = lstF (n + 1) (fun i => if i = n then v else f i) := by
  unfold lstF
  rw [List.range_succ, List.map_append]
  congr 1
  · refine List.map_congr_left fun i hi => ?_
    rw [if_neg (by have := List.mem_range.mp hi; omega)]
  · simp
theorem lstF_set {n k : Nat} {f : Nat → V} {v : V} (h : k < n) : (lstF n f).set k v = lstF n (fun i => if i = k then v else f i) := by
  apply List.ext_getElem?
  intro i
  unfold lstF
  rw [List.getElem?_set]
  by_cases e : k = i
  · subst e
    simp [h]
  · rw [if_neg e]
    by_cases l : i < n
    · simp [l, Ne.symm e]
    · simp [l]
theorem lstF_congr {n : Nat} {f g : Nat → V} (h : ∀ i, i < n → f i = g i) : lstF n f = lstF n g := List.map_congr_left fun i hi => h i (List.mem_range.mp hi)
theorem lstF_cut {n m : Nat} {f : Nat → V} (h : m ≤ n) : cutV (lstF n f) none (some (m : Int)) = lstF m f := by
  unfold cutV
  rw [HT.sIx_nat, HT.sIx_none, lstF_len, Nat.min_eq_left h, List.drop_zero, Nat.sub_zero]
  unfold lstF
  rw [← List.map_take, List.take_range, Nat.min_eq_left h]
theorem lstF_of (xs : List V) (d : V) : xs = lstF xs.length (fun i => xs.getD i d) := by
  apply List.ext_getElem?
  intro i
  by_cases l : i < xs.length
  · rw [lstF_at l]; simp [l]
  · simp [lstF, l]
end L2.A

namespace L2.A
open PySem PySem.Spec PyProof.Rows
theorem DpAll.map {K : PySem.W.Frag} {H : Hp} {α : Type} {f : α → V} {g : α → PyData} : ∀ {xs : List α}, (∀ x ∈ xs, Dp K H (f x) (g x)) → DpAll K H (xs.map f) (xs.map g)
  | [], _ => .nil
  | x :: xs, h => .cons (h x (List.mem_cons_self ..)) (DpAll.map fun y m => h y (List.mem_cons_of_mem _ m))
theorem canAll_map {α : Type} {g : α → PyData} : ∀ {xs : List α}, (∀ x ∈ xs, (g x).canLay0 = true) → PyData.canLayAll0 (xs.map g) = true
  | [], _ => rfl
  | x :: xs, h => by
    simp only [List.map_cons, PyData.canLayAll0, h x (List.mem_cons_self ..), canAll_map fun y m => h y (List.mem_cons_of_mem _ m), Bool.and_self]
theorem depthAll_map {α : Type} {g : α → PyData} {d : Nat} : ∀ {xs : List α}, (∀ x ∈ xs, (g x).depth ≤ d) → PyData.depthAll (xs.map g) ≤ d
  | [], _ => Nat.zero_le _
  | x :: xs, h => by
    simp only [List.map_cons, PyData.depthAll]
    exact Nat.max_le.mpr ⟨h x (List.mem_cons_self ..), depthAll_map fun y m => h y (List.mem_cons_of_mem _ m)⟩
theorem shaped_of {d : PyData} (h1 : d.canLay0 = true) (h2 : d.depth ≤ 64) : SeqAt.shaped d = true := by
  unfold SeqAt.shaped
  rw [h1, decide_eq_true h2]; rfl
theorem go_eqD {K : PySem.W.Frag} {H : Hp} {Q : VK} {x y : V} {d e : PyData} (h1 : Dp K H x d) (h2 : Dp K H y e) (s1 : SeqAt.shaped d = true) (s2 : SeqAt.shaped e = true) (h : Q (.bl (PyData.eqv d e)) H) : rEqX K x y H Q := .inr ⟨d, e, h1, h2, s1, s2, h⟩
theorem go_neD {K : PySem.W.Frag} {H : Hp} {Q : VK} {x y : V} {d e : PyData} (h1 : Dp K H x d) (h2 : Dp K H y e) (s1 : SeqAt.shaped d = true) (s2 : SeqAt.shaped e = true) (h : Q (.bl (!PyData.eqv d e)) H) : rNeX K x y H Q := .inr ⟨d, e, h1, h2, s1, s2, h⟩
theorem go_eqDs {K : PySem.W.Frag} {H : Hp} {Q : VK} {x y : V} {d : PyData} (h1 : Dp K H x d) (h2 : Dp K H y d) (s1 : d.canLay0 = true) (s2 : d.depth ≤ 64) (h : Q (.bl true) H) : rEqX K x y H Q :=
  go_eqD h1 h2 (shaped_of s1 s2) (shaped_of s1 s2) (by rw [SeqAt.eqv_refl d s1]; exact h)
theorem go_neDs {K : PySem.W.Frag} {H : Hp} {Q : VK} {x y : V} {d : PyData} (h1 : Dp K H x d) (h2 : Dp K H y d) (s1 : d.canLay0 = true) (s2 : d.depth ≤ 64) (h : Q (.bl false) H) : rNeX K x y H Q :=
  go_neD h1 h2 (shaped_of s1 s2) (shaped_of s1 s2) (by rw [SeqAt.eqv_refl d s1]; exact h)
end L2.A

namespace L2.A
open PySem PySem.Spec PyProof.Rows
theorem lstF_cutM {n m : Nat} {f : Nat → V} : cutV (lstF n f) none (some (m : Int)) = lstF (min m n) f := by
  unfold cutV
  rw [HT.sIx_nat, HT.sIx_none, lstF_len, List.drop_zero, Nat.sub_zero]
  unfold lstF
  rw [← List.map_take, List.take_range, Nat.min_eq_left (Nat.min_le_right _ _)]
theorem cut_take {xs : List V} {k : Nat} (h : k ≤ xs.length) : cutV xs none (some (k : Int)) = xs.take k := by
  unfold cutV
  rw [HT.sIx_nat, HT.sIx_none, List.drop_zero, Nat.sub_zero, Nat.min_eq_left h]
theorem cut_drop {xs : List V} {k : Nat} (h : k ≤ xs.length) : cutV xs (some (k : Int)) none = xs.drop k := by
  unfold cutV
  rw [HT.sIx_nat, HT.sIx_none, Nat.min_eq_left h]
  exact List.take_of_length_le (by rw [List.length_drop]; omega)
theorem perm_eq : ∀ {xs ys : List Int}, xs.Perm ys → xs.Pairwise (· ≤ ·) → ys.Pairwise (· ≤ ·) → xs = ys
  | [], ys, p, _, _ => p.symm.eq_nil.symm
  | x :: xs, [], p, _, _ => p.eq_nil
  | x :: xs, y :: ys, p, hx, hy => by
    have h1 : x ≤ y := by
      rcases List.mem_cons.mp (p.symm.subset (List.mem_cons_self ..) : y ∈ x :: xs) with e | m
      · omega
      · exact List.rel_of_pairwise_cons hx m
    have h2 : y ≤ x := by
      rcases List.mem_cons.mp (p.subset (List.mem_cons_self ..) : x ∈ y :: ys) with e | m
      · omega
      · exact List.rel_of_pairwise_cons hy m
    obtain rfl : x = y := by omega
    rw [perm_eq ((List.perm_cons x).mp p) (List.Pairwise.of_cons hx) (List.Pairwise.of_cons hy)]
theorem ints_ok (ns : List Int) : (ns.map V.int).all okV = true := by
  rw [List.all_eq_true]
  intro v m
  obtain ⟨i, _, rfl⟩ := List.mem_map.mp m
  rfl
theorem go_sorted {K : PySem.W.Frag} {H : Hp} {Q : VK} {a : Addr} {ns : List Int} (hS : SqL K H a (ns.map V.int)) (hz : ns.length < 64) (h : ∀ (ns' : List Int) (p : Addr), ns'.Perm ns → ns'.Pairwise (· ≤ ·) → H p = none → Q (.ref p) (upd H p (.lst (ns'.map V.int)))) : rSorted K [.ref a] H Q := ⟨a, ns, rfl, hS, hz, h⟩
end L2.A

namespace L2.Toy
open PySem PySem.Spec PyProof.Rows L2.A
local macro_rules | `(tactic| walk_at "sqT") => `(tactic| first | assumption | exact .of upd_same | exact .of (by assumption) | exact seqT_same (by assumption) (by walk_at "same") | exact .of (ge2 (by assumption) (by walk_at "same")))
local macro_rules | `(tactic| walk_at "sqL") => `(tactic| first | assumption | exact .of upd_same | exact .of (by assumption) | exact seqL_same (by assumption) (by walk_at "same") | exact .of (ge2 (by assumption) (by walk_at "same")))
local macro_rules | `(tactic| walk_at "obj") => `(tactic| first | exact upd_same | assumption | exact ge2 (by assumption) (by walk_at "same"))
local macro_rules | `(tactic| walk_at "ty") => `(tactic| first | exact tyV_s | exact tyV_l (by walk_at "sqL") | exact tyV_d (by walk_at "obj") | exact tyV_dT (by walk_at "obj"))
local macro_rules | `(tactic| walk_at "1") => `(tactic| first
  | with_reducible refine go_seq ?_
  | with_reducible refine go_nx ?_
  | with_reducible refine go_asg ?_
  | with_reducible refine go_op ?_
  | ((with_reducible refine' go_var ?e ?_); (case e => exact rfl))
  | ((with_reducible refine' go_name ?e ?_); (case e => (simp only [List.set_cons_zero, List.set_cons_succ]; rfl)))
  | with_reducible refine go_c ?_
  | with_reducible refine go_I0 ?_
  | with_reducible refine go_addI ?_
  | ((with_reducible refine go_mulI ?e ?_); (case e => (show CMul _ _; unfold CMul; omega)))
  | ((with_reducible refine go_I ?e ?_); (case e => (first | omega | (show CDiv _ _; unfold CDiv; omega) | (show (0 : Int) < _; omega))))
  | with_reducible refine go_if ?_
  | with_reducible refine go_test ?_
  | with_reducible refine go_bl ?_
  | ((with_reducible refine go_eqS ?e ?_); (case e => exact rfl))
  | ((with_reducible refine go_neS ?e ?_); (case e => exact rfl))
  | with_reducible refine go_isN ?_
  | with_reducible refine go_notN ?_
  | with_reducible refine go_isB ?_
  | with_reducible refine go_notB ?_
  | with_reducible refine go_ret ?_
  | with_reducible refine go_rt ?_
  | with_reducible refine go_retN ?_
  | with_reducible refine go_cons ?_
  | with_reducible refine go_nil ?_
  | with_reducible refine go_call ?_
  | with_reducible refine go_CB ?_
  | with_reducible refine go_tup ?_
  | with_reducible refine go_lst ?_
  | with_reducible refine go_newT rfl ?_
  | with_reducible refine go_newL rfl ?_
  | with_reducible refine go_not ?_
  | ((with_reducible refine' go_andP ?a ?b ?_); (case a => (intro QB' hQ; (walk_at "*"); exact hQ)); (case b => (intro QB' hQ; (walk_at "*"); exact hQ)))
  | ((with_reducible refine' go_orP ?a ?b ?_); (case a => (intro QB' hQ; (walk_at "*"); exact hQ)); (case b => (intro QB' hQ; (walk_at "*"); exact hQ)))
  | ((with_reducible refine' go_andVP ?a ?b ?_); (case a => (intro QB' hQ; (walk_at "*"); exact hQ)); (case b => (intro QB' hQ; (walk_at "*"); exact hQ)))
  | ((with_reducible refine' go_orVP ?a ?b ?_); (case a => (intro QB' hQ; (walk_at "*"); exact hQ)); (case b => (intro QB' hQ; (walk_at "*"); exact hQ)))
  | ((with_reducible refine' go_ifxP ?a ?b ?c ?_); (case a => (intro QB' hQ; (walk_at "*"); exact hQ)); (case b => (intro QB' hQ; (walk_at "*"); exact hQ)); (case c => (intro QB' hQ; (walk_at "*"); exact hQ)))
  | with_reducible refine go_and ?_
  | with_reducible refine go_or ?_
  | with_reducible refine go_andV ?_
  | with_reducible refine go_orV ?_
  | with_reducible refine go_notV ?_
  | with_reducible refine go_tru ?_
  | with_reducible refine go_truB ?_
  | with_reducible refine go_truI ?_
  | with_reducible refine go_chain ?_
  | with_reducible refine go_ifx ?_
  | with_reducible refine go_drop ?_
  | with_reducible refine go_un ?_
  | with_reducible refine go_U ?_
  | with_reducible refine go_gcons ?_
  | with_reducible refine go_gnil ?_
  | with_reducible refine go_sub ?_
  | with_reducible refine go_intI ?_
  | with_reducible refine go_intB ?_
  | ((with_reducible refine' go_xT ?a ?b ?_); (case a => walk_at "sqT"); (case b => exact rfl))
  | ((with_reducible refine' go_xL ?a ?b ?_); (case a => walk_at "sqL"); (case b => exact rfl))
  | ((with_reducible refine' go_gtup ?a ?b ?_); (case a => walk_at "sqT"); (case b => exact rfl))
  | with_reducible refine go_sl ?_
  | with_reducible refine go_nopart ?_
  | with_reducible refine go_part ?_
  | with_reducible refine go_partI ?_
  | ((with_reducible refine' go_slT ?a ?b ?c ?_); (case a => walk_at "sqT"); (case b => exact rfl); (case c => exact rfl))
  | with_reducible refine go_min3 ?_
  | with_reducible refine go_max3 ?_
  | with_reducible refine go_disp ?_
  | with_reducible refine go_pairs ?_
  | with_reducible refine go_pairs0 ?_
  | ((with_reducible refine' go_dispK ?a ?b ?c ?_); (case a => first | exact upd_same | assumption); (case b => exact rfl); (case c => exact rfl))
  | with_reducible refine go_next ?_
  | with_reducible refine go_for ?_
  | with_reducible refine go_lc ?_
  | with_reducible refine go_iX ?_
  | with_reducible refine go_rng1 ?_
  | with_reducible refine go_rng2 ?_
  | ((with_reducible refine go_rn1 ?e ?_); (case e => omega))
  | ((with_reducible refine go_rn2 ?e ?_); (case e => omega))
  | with_reducible refine go_yes ?_
  | with_reducible refine go_max ?_
  | with_reducible refine go_min ?_
  | with_reducible refine go_abs ?_
  | ((with_reducible refine' go_isi ?e ?f ?_); (case e => first | exact .base (.int _) | exact .base (.bl _) | exact .base (.str _) | exact .base .non | exact .base (.tup (by assumption)) | exact .base (.lst (by assumption)) | exact .base (.tup (ge2 (by assumption) (by walk_at "same"))) | exact .base (.lst (ge2 (by assumption) (by walk_at "same")))); (case f => first | exact kit_ii | exact kit_ib | exact kit_bb | exact kit_bi | exact kit_ss | exact kit_nb | exact kit_ni | exact kit_ns | exact kit_nt | exact kit_is | exact kit_si | exact kit_sb | exact kit_bs | exact kit_tt | exact kit_ll | exact kit_tl | exact kit_lt))
  | ((with_reducible refine' go_lenT ?a ?_); (case a => walk_at "sqT"))
  | ((with_reducible refine' go_lenL ?a ?_); (case a => walk_at "sqL"))
  | with_reducible refine go_revR ?_
  | with_reducible refine go_rg1 ?_
  | with_reducible refine go_rg1b ?_
  | ((with_reducible refine go_rvR ?e ?_); (case e => omega))
  | with_reducible refine go_enum ?_
  | with_reducible refine go_zip ?_
  | ((with_reducible refine' go_aug ?e ?_); (case e => exact rfl))
  | with_reducible refine go_ipI ?_
  | with_reducible refine go_ipA ?_
  | with_reducible refine go_par ?_
  | with_reducible refine go_par3 ?_
  | ((with_reducible refine' go_p3 ?e ?_); (case e => (simp only [List.set_cons_zero, List.set_cons_succ]; rfl)))
  | ((with_reducible refine' go_p2 ?e ?_); (case e => (simp only [List.set_cons_zero, List.set_cons_succ]; rfl)))
  | with_reducible refine go_bm ?_
  | with_reducible refine go_bm0 ?_
  | ((with_reducible refine' go_bmW ?a ?_); (case a => walk_at "ty"))
  | ((with_reducible refine' go_bmW0 ?a ?_); (case a => walk_at "ty"))
  | ((with_reducible refine' go_append ?a ?b ?_); (case a => walk_at "obj"); (case b => first | exact Nat.lt_of_succ_le (Nat.le_of_ble_eq_true rfl) | omega | (simp only [List.length_append, List.length_cons, List.length_nil, List.length_map]; omega)))
  | with_reducible refine go_brk ?_
  | with_reducible refine go_ct ?_
  | with_reducible refine go_bk ?_
  | with_reducible refine go_ctx ?_
  | (with_reducible refine iteT ?_)
  | (with_reducible refine iteNT ?_)
  | (with_reducible refine iteNF ?_)
  | (with_reducible refine iteF ?_)
  | ((with_reducible refine' and_join ?b ?_); (case b => (intro QB' hQ; (walk_at "*"); exact hQ)))
  | ((with_reducible refine' or_join ?b ?_); (case b => (intro QB' hQ; (walk_at "*"); exact hQ)))
  | ((with_reducible refine' andV_join ?b ?_); (case b => (intro QB' hQ; (walk_at "*"); exact hQ)))
  | ((with_reducible refine' orV_join ?b ?_); (case b => (intro QB' hQ; (walk_at "*"); exact hQ))))
local macro_rules | `(tactic| walk_at "*") => `(tactic| ((try dsimp only); (repeat walk_at "1")))
local macro_rules | `(tactic| walk_at "same") => `(tactic| first
  | exact Same.refl _
  | assumption
  | ((refine same_new2 ?_ ?h); (case h => assumption); (walk_at "same"))
  | ((refine same_mut ?_ ?h); (case h => assumption); (walk_at "same"))
  | ((refine same_mut ?_ ?h); (case h => exact Same.free (by walk_at "same") (by assumption)); (walk_at "same"))
  | ((refine' Same.trans ?_ ?h); (case h => assumption); (walk_at "same")))
local macro_rules | `(tactic| walk_at "all") => `(tactic| ((walk_at "*"); first
  | ((refine if2 (fun c => ?_) (fun c => ?_)) <;> (walk_at "all"))
  | ((with_reducible refine go_inT (.of upd_same) rfl rfl ?_); (walk_at "all"))
  | ((with_reducible refine go_ninT (.of upd_same) rfl rfl ?_); (walk_at "all"))
  | ((with_reducible show NewO _ _ _); (intro p hp); (walk_at "all"))
  | skip))

local macro_rules | `(tactic| walk_at "**") => `(tactic| ((try dsimp only); (repeat first
  | walk_at "1"
  | ((with_reducible show NewO _ _ _); (intro p hp))
  | (with_reducible refine go_inT (.of upd_same) rfl rfl ?_)
  | (with_reducible refine go_ninT (.of upd_same) rfl rfl ?_)
  | (with_reducible refine go_inL (.of upd_same) rfl rfl ?_)
  | (with_reducible refine go_ninL (.of upd_same) rfl rfl ?_))))

def top (i : Nat) : Stmt := PySem.Challenge.pw_inningsbook_k64_whole_rain.main.body.getD i (.Pass ⟨0, 0, 0, 0⟩)
structure Txt (K : PySem.W.Frag) (mg : Str → Option Value) : Prop where
  b_any : mg "any" = none
  b_enumerate : mg "enumerate" = none
  b_len : mg "len" = none
  b_max : mg "max" = none
  b_min : mg "min" = none
  b_range : mg "range" = none
  b_reversed : mg "reversed" = none
  b_sorted : mg "sorted" = none
/-! ### _law_mixed -/
abbrev s__law_mixed : Stmt := top 5
abbrev N__law_mixed : List Str := ["_law_cell_here", "_law_k", "_law_m"]
theorem sc__law_mixed : FnScope N__law_mixed ["_law_cell_here", "_law_k"] (defScope s__law_mixed) := ⟨rfl, rfl, rfl, by decide +kernel, rfl, by decide +kernel, by decide +kernel⟩
def pr__law_mixed (K : PySem.W.Frag) : V → V → Hp → VK → XK → Prop := fun a0 a1 H Q E => ∃ c k : Int, a0 = .int c ∧ a1 = .int k ∧ 0 ≤ k ∧ k ≤ 10000 ∧ ∀ r : Int, 0 ≤ r → r < 2147483587 → Q (.int r) H
abbrev sp__law_mixed (K : PySem.W.Frag) : Sp := Sp2 (pr__law_mixed K)
theorem ok__law_mixed {P : Program} {w : World} {K : PySem.W.Frag} {mg : Str → Option Value} {base : Heap} {f : Addr} {fd : FuncData} (F : FunD K "_law_mixed" "_law_mixed" (defArgs s__law_mixed) (defBody s__law_mixed) (defScope s__law_mixed) [] [] f fd) (T : Txt K mg)  : FnOk P w K mg base CX0 1 f fd ["_law_cell_here", "_law_k"] (sp__law_mixed K) := by
  refine F.ok sc__law_mixed (fun vs H Q E h => len2 h) (fun cdv A outer s H vs Q E hr h => ?_)
  obtain ⟨a0, a1, rfl, h⟩ := h
  have hu := hu_of hr
  refine ⟨_, PSs.nox ((pss_cons (ps_set (i := 2) sc__law_mixed.nd rfl (by first | exact Or.inl rfl | exact Or.inr rfl) (pe_op op_mod (pe_op op_addX (pe_op op_mulX (pe_op op_mod (pv 0) pe_int) pe_int) (pe_op op_mulX (pe_op op_addX (pe_op op_addX (pe_op op_mulX (pv 1) (pv 1)) (pe_op op_mulX pe_int (pv 1))) pe_int) pe_int)) pe_int))
      (pss_cons (ps_set (i := 2) sc__law_mixed.nd rfl (by first | exact Or.inl rfl | exact Or.inr rfl) (pe_op op_addX (pe_op op_mod (pe_op op_mulX (pv 2) (pv 2)) pe_int) (pv 1)))
      (pss_one (ps_ret (pe_op op_mod (pe_op op_mulX (pv 2) (pe_op op_addX (pe_op op_addX (pe_op op_fdiv (pv 2) pe_int) (pe_op op_mulX pe_int (pv 1))) pe_int)) pe_int)))))), ?_⟩
  refine go_start (σ := [some a0, some a1, none]) rfl ?_
  try dsimp only [cxOf, Cx.nox, Cx.wish]
  obtain ⟨c, k, rfl, rfl, h1, h2, hq⟩ := h
  walk_at "*"
  exact hq _ (Int.emod_nonneg _ (by decide)) (Int.emod_lt_of_pos _ (by decide))

/-- a pot at p: its count below n -/
def Pot (H : Hp) (p : Addr) (n : Int) : Prop := ∃ a c f : Int, H p = some (.lst [.int a, .int c, .int f]) ∧ 0 ≤ c ∧ c ≤ n
theorem Pot.kp {H H' : Hp} {p q : Addr} {n : Int} (h : Pot H p n) (hq : p ≠ q) (k : Kp (fun a => a = q) H H') : Pot H' p n := by
  obtain ⟨a, c, f, e, r⟩ := h
  exact ⟨a, c, f, k _ _ e hq, r⟩
theorem Pot.same {H H' : Hp} {p : Addr} {n : Int} (h : Pot H p n) (k : Same H H') : Pot H' p n := by
  obtain ⟨a, c, f, e, r⟩ := h
  exact ⟨a, c, f, k _ _ e, r⟩
theorem Pot.le {H : Hp} {p : Addr} {n m : Int} (h : Pot H p n) (k : n ≤ m) : Pot H p m := by
  obtain ⟨a, c, f, e, r, s⟩ := h
  exact ⟨a, c, f, e, r, by omega⟩
theorem Pot.ne {H : Hp} {p l : Addr} {n : Int} (h : Pot H p n) (hl : H l = none) : l ≠ p := by
  obtain ⟨a, c, f, e, r⟩ := h
  exact (ne_of_none e hl).symm
/-- what is new behind was new ahead -/
theorem _root_.L2.A.Kp.back {H H' : Hp} {p b : Addr} {o : HO} (k : Kp (fun a => a = p) H H') (hp : H' p = some o) (hb : H' b = none) : H b = none := by
  cases e : H b with
  | none => rfl
  | some u =>
    have n : ¬ b = p := by
      rintro rfl
      rw [hp] at hb
      cases hb
    have q := k b u e n
    rw [hb] at q
    cases q
theorem Pot.is {H : Hp} {p : Addr} {n : Int} (h : Pot H p n) : H p = some (.lst (match H p with | some (.lst xs) => xs | _ => [])) := by
  obtain ⟨a, c, f, e, r⟩ := h
  rw [e]

/-! ### _law_take -/
abbrev s__law_take : Stmt := top 6
abbrev N__law_take : List Str := ["_law_pot_here", "_law_many", "_law_got"]
theorem sc__law_take : FnScope N__law_take ["_law_pot_here", "_law_many"] (defScope s__law_take) := ⟨rfl, rfl, rfl, by decide +kernel, rfl, by decide +kernel, by decide +kernel⟩
def pr__law_take (K : PySem.W.Frag) : V → V → Hp → VK → XK → Prop := fun a0 a1 H Q E => ∃ (p : Addr) (n m : Int), a0 = .ref p ∧ a1 = .int m ∧ Pot H p n ∧ n ≤ 9000 ∧ 1 ≤ m ∧ m < 1073741824 ∧ ∀ (r : Int) (H' : Hp), 0 ≤ r → r < m → Kp (fun a => a = p) H H' → Pot H' p (n + 1) → Q (.int r) H' 
abbrev sp__law_take (K : PySem.W.Frag) : Sp := Sp2 (pr__law_take K)
theorem ok__law_take {P : Program} {w : World} {K : PySem.W.Frag} {mg : Str → Option Value} {base : Heap} {f : Addr} {fd : FuncData} (F : FunD K "_law_take" "_law_take" (defArgs s__law_take) (defBody s__law_take) (defScope s__law_take) [] [] f fd) (T : Txt K mg) (d__law_mixed : Dn P w K mg base CX0 1 "_law_mixed" ["_law_cell_here", "_law_k"] [] (sp__law_mixed K)) : FnOk P w K mg base CX0 2 f fd ["_law_pot_here", "_law_many"] (sp__law_take K) := by
  refine F.ok sc__law_take (fun vs H Q E h => len2 h) (fun cdv A outer s H vs Q E hr h => ?_)
  obtain ⟨a0, a1, rfl, h⟩ := h
  have hu := hu_of hr
  refine ⟨_, PSs.nox ((pss_cons (ps_asg (pe_op op_addX (pe_ix (ix_X hu) (pv 0) pe_int (fun _ _ => rfl)) pe_int) (pg_sub (pv 0) pe_int (set_X hu)))
      (pss_cons (ps_if (pt_cmpR (op_eqX hr.units) (pe_ix (ix_X hu) (pv 0) pe_int (fun _ _ => rfl)) pe_int (nomark _)) (pss_cons (ps_set (i := 2) sc__law_take.nd rfl (by first | exact Or.inl rfl | exact Or.inr rfl) (pe_op op_mod (pe_ix (ix_X hu) (pv 0) pe_int (fun _ _ => rfl)) (pv 1)))
      (pss_cons (ps_asg (pe_op op_fdiv (pe_ix (ix_X hu) (pv 0) pe_int (fun _ _ => rfl)) (pv 1)) (pg_sub (pv 0) pe_int (set_X hu)))
      (pss_one (ps_ret (pv 2))))) pss_nil)
      (pss_one (ps_ret (pe_op op_mod (pe_d d__law_mixed (hr.mono (by decide)) rfl pass0 (pa_cons (pe_ix (ix_X hu) (pv 0) pe_int (fun _ _ => rfl)) (pa_cons (pe_ix (ix_X hu) (pv 0) pe_int (fun _ _ => rfl)) pa_nil))) (pv 1))))))), ?_⟩
  refine go_start (σ := [some a0, some a1, none]) rfl ?_
  try dsimp only [cxOf, Cx.nox, Cx.wish]
  obtain ⟨p, n', m, rfl, rfl, ⟨n, c, f, hp, h1, h2⟩, h2', h3, h4, hq⟩ := h
  walk_at "*"
  refine go_sL hp rfl ?_
  walk_at "*"
  refine if2 (fun c => ?_) (fun c => ?_)
  · walk_at "*"
    refine go_sL upd_same rfl ?_
    walk_at "*"
    rw [upd_upd]
    exact hq _ _ (Int.emod_nonneg _ (by omega)) (Int.emod_lt_of_pos _ (by omega)) Kp.upd ⟨_, _, _, upd_same, by omega, by omega⟩
  · walk_at "*"
    refine go_sp2 ⟨_, _, rfl, rfl, by omega, by omega, fun r _ _ => ?_⟩
    walk_at "*"
    exact hq _ _ (Int.emod_nonneg _ (by omega)) (Int.emod_lt_of_pos _ (by omega)) Kp.upd ⟨_, _, _, upd_same, by omega, by omega⟩
/-! ### _law_pot -/
abbrev s__law_pot : Stmt := top 7
abbrev N__law_pot : List Str := ["_law_cell_here"]
theorem sc__law_pot : FnScope N__law_pot ["_law_cell_here"] (defScope s__law_pot) := ⟨rfl, rfl, rfl, by decide +kernel, rfl, by decide +kernel, by decide +kernel⟩
def pr__law_pot (K : PySem.W.Frag) : V → Hp → VK → XK → Prop := fun a0 H Q E => ∃ n : Int, a0 = .int n ∧ ∀ (p : Addr) (H' : Hp), H p = none → Same H H' → Pot H' p 0 → Q (.ref p) H' 
abbrev sp__law_pot (K : PySem.W.Frag) : Sp := Sp1 (pr__law_pot K)
theorem ok__law_pot {P : Program} {w : World} {K : PySem.W.Frag} {mg : Str → Option Value} {base : Heap} {f : Addr} {fd : FuncData} (F : FunD K "_law_pot" "_law_pot" (defArgs s__law_pot) (defBody s__law_pot) (defScope s__law_pot) [] [] f fd) (T : Txt K mg)  : FnOk P w K mg base CX0 1 f fd ["_law_cell_here"] (sp__law_pot K) := by
  refine F.ok sc__law_pot (fun vs H Q E h => len1 h) (fun cdv A outer s H vs Q E hr h => ?_)
  obtain ⟨a0, rfl, h⟩ := h
  have hu := hu_of hr
  refine ⟨_, PSs.nox ((pss_one (ps_ret (pe_lst (pa_cons (pe_op op_fdiv (pv 0) pe_int) (pa_cons pe_int (pa_cons (pe_op op_mod (pv 0) pe_int) pa_nil))))))), ?_⟩
  refine go_start (σ := [some a0]) rfl ?_
  try dsimp only [cxOf, Cx.nox, Cx.wish]
  obtain ⟨n, rfl, hq⟩ := h
  walk_at "*"
  exact fun p hp => hq p _ hp (same_new hp) ⟨_, _, _, upd_same, by omega, by omega⟩
/-! ### _law_cell -/
abbrev s__law_cell : Stmt := top 4
abbrev N__law_cell : List Str := ["_law_script", "_law_k"]
theorem sc__law_cell : FnScope N__law_cell ["_law_script", "_law_k"] (defScope s__law_cell) := ⟨rfl, rfl, rfl, by decide +kernel, rfl, by decide +kernel, by decide +kernel⟩
def pr__law_cell (K : PySem.W.Frag) : V → V → Hp → VK → XK → Prop := fun a0 a1 H Q E => ∃ (a : Addr) (ns : List Int), a0 = .ref a ∧ a1 = .int 0 ∧ SqL K H a (ns.map V.int) ∧ ∀ z : Int, Q (.int z) H
abbrev sp__law_cell (K : PySem.W.Frag) : Sp := Sp2 (pr__law_cell K)
theorem ok__law_cell {P : Program} {w : World} {K : PySem.W.Frag} {mg : Str → Option Value} {base : Heap} {f : Addr} {fd : FuncData} (F : FunD K "_law_cell" "_law_cell" (defArgs s__law_cell) (defBody s__law_cell) (defScope s__law_cell) [] [] f fd) (T : Txt K mg)  : FnOk P w K mg base CX0 1 f fd ["_law_script", "_law_k"] (sp__law_cell K) := by
  refine F.ok sc__law_cell (fun vs H Q E h => len2 h) (fun cdv A outer s H vs Q E hr h => ?_)
  obtain ⟨a0, a1, rfl, h⟩ := h
  have hu := hu_of hr
  refine ⟨_, PSs.nox ((pss_cons (ps_if (pt_cmpR op_lt (pv 1) (pe_callB call_lenX (by rfl) T.b_len L2.A.boot_len (pa_cons (pv 0) pa_nil)) (nomark _)) (pss_one (ps_ret (pe_ix (ix_X hu) (pv 0) (pv 1) (fun _ _ => rfl)))) pss_nil)
      (pss_one (ps_ret pe_int)))), ?_⟩
  refine go_start (σ := [some a0, some a1]) rfl ?_
  try dsimp only [cxOf, Cx.nox, Cx.wish]
  obtain ⟨a, ns, rfl, rfl, hS, hq⟩ := h
  walk_at "*"
  refine if2 (fun c => ?_) (fun c => ?_)
  · walk_at "*"
    cases ns with
    | nil => simp at c
    | cons z zs =>
      refine go_xL (v := .int z) hS (by simp [atI, ixN]) ?_
      exact hq z
  · walk_at "*"
    exact hq 0

abbrev lstI (n : Nat) (f : Nat → Int) : List V := lstF n (fun i => .int (f i))
structure Tab (H : Hp) (t : Addr) (n m : Nat) (ta : Nat → Addr) (tf : Nat → Nat → Int) : Prop where
  top : H t = some (.lst (lstF n fun i => .ref (ta i)))
  row : ∀ i, i < n → H (ta i) = some (.lst (lstI m (tf i)))
  ne : ∀ i, i < n → ta i ≠ t
theorem Tab.same {H H' : Hp} {t : Addr} {n m : Nat} {ta : Nat → Addr} {tf : Nat → Nat → Int} (h : Tab H t n m ta tf) (s : Same H H') : Tab H' t n m ta tf := ⟨s _ _ h.top, fun i hi => s _ _ (h.row i hi), h.ne⟩
/-- kept by what touches p alone, p new behind -/
theorem Tab.kp {H0 H H' : Hp} {t p : Addr} {n m : Nat} {ta : Nat → Addr} {tf : Nat → Nat → Int} (h0 : Tab H0 t n m ta tf) (hp : H0 p = none) (h : Tab H t n m ta tf) (k : Kp (fun a => a = p) H H') : Tab H' t n m ta tf :=
  ⟨k _ _ h.top (ne_of_none h0.top hp), fun i hi => k _ _ (h.row i hi) (ne_of_none (h0.row i hi) hp), h.ne⟩
structure Good (n m : Nat) (tf : Nat → Nat → Int) : Prop where
  n0 : 1 ≤ n
  n1 : n ≤ 64
  m0 : 1 ≤ m
  m1 : m ≤ 11
  lo : ∀ i k, i < n → k < m → 0 ≤ tf i k ∧ tf i k ≤ 1000
  fall : ∀ i k, i < n → k + 1 < m → tf i (k + 1) ≤ tf i k
  rise : ∀ i k, i + 1 < n → k < m → tf i k ≤ tf (i + 1) k
  zero : ∀ k, k < m → tf 0 k = 0
theorem Good.snoc {n m : Nat} {tf : Nat → Nat → Int} {f : Nat → Int} (g : Good n m tf) (hn : n + 1 ≤ 64) (h1 : ∀ k, k < m → 0 ≤ f k ∧ f k ≤ 1000) (h2 : ∀ k, k + 1 < m → f (k + 1) ≤ f k) (h3 : ∀ k, k < m → tf (n - 1) k ≤ f k) :
    Good (n + 1) m (fun i => if i = n then f else tf i) where
  n0 := by omega
  n1 := hn
  m0 := g.m0
  m1 := g.m1
  lo := fun i k hi hk => by
    by_cases e : i = n
    · rw [if_pos e]; exact h1 k hk
    · rw [if_neg e]; exact g.lo i k (by omega) hk
  fall := fun i k hi hk => by
    by_cases e : i = n
    · rw [if_pos e]; exact h2 k hk
    · rw [if_neg e]; exact g.fall i k (by omega) hk
  rise := fun i k hi hk => by
    have := g.n0
    rw [if_neg (by omega)]
    by_cases e : i + 1 = n
    · rw [if_pos e]
      have := h3 k hk
      rw [show i = n - 1 by omega]
      exact this
    · rw [if_neg e]; exact g.rise i k (by omega) hk
  zero := fun k hk => by
    have := g.n0
    rw [if_neg (by omega)]
    exact g.zero k hk
theorem cutV_map {ns : List Int} {lo hi : Option Int} : ∃ ms : List Int, cutV (ns.map V.int) lo hi = ms.map V.int ∧ ms.length ≤ ns.length := by
  refine ⟨(ns.drop (HT.sIx (ns.map V.int).length 0 lo)).take (HT.sIx (ns.map V.int).length (ns.map V.int).length hi - HT.sIx (ns.map V.int).length 0 lo), ?_, ?_⟩
  · unfold cutV
    rw [List.map_take, List.map_drop]
  · rw [List.length_take, List.length_drop]
    omega

/-! ### _law_table -/
abbrev s__law_table : Stmt := top 8
abbrev N__law_table : List Str := ["_law_script", "_law_pot_here", "_law_many", "_law_grown", "_law_table_here", "_law_cell_here", "_law_own", "_law_rises", "_law_row", "_law_k"]
theorem sc__law_table : FnScope N__law_table ["_law_script"] (defScope s__law_table) := ⟨rfl, rfl, rfl, by decide +kernel, rfl, by decide +kernel, by decide +kernel⟩
def pr__law_table (K : PySem.W.Frag) : V → Hp → VK → XK → Prop := fun a0 H Q E => ∃ (a : Addr) (ns : List Int), a0 = .ref a ∧ SqL K H a (ns.map V.int) ∧ ns.length ≤ 63 ∧ ∀ (t : Addr) (n m : Nat) (ta : Nat → Addr) (tf : Nat → Nat → Int) (H' : Hp), Same H H' → Tab H' t n m ta tf → Good n m tf → Q (.ref t) H' 
abbrev sp__law_table (K : PySem.W.Frag) : Sp := Sp1 (pr__law_table K)
theorem ok__law_table {P : Program} {w : World} {K : PySem.W.Frag} {mg : Str → Option Value} {base : Heap} {f : Addr} {fd : FuncData} (F : FunD K "_law_table" "_law_table" (defArgs s__law_table) (defBody s__law_table) (defScope s__law_table) [] [] f fd) (T : Txt K mg) (d__law_cell : Dn P w K mg base CX0 1 "_law_cell" ["_law_script", "_law_k"] [] (sp__law_cell K)) (d__law_pot : Dn P w K mg base CX0 1 "_law_pot" ["_law_cell_here"] [] (sp__law_pot K)) (d__law_take : Dn P w K mg base CX0 2 "_law_take" ["_law_pot_here", "_law_many"] [] (sp__law_take K)) : FnOk P w K mg base CX0 3 f fd ["_law_script"] (sp__law_table K) := by
  refine F.ok sc__law_table (fun vs H Q E h => len1 h) (fun cdv A outer s H vs Q E hr h => ?_)
  obtain ⟨a0, rfl, h⟩ := h
  have hu := hu_of hr
  refine ⟨_, PSs.nox ((pss_cons (ps_set (i := 1) sc__law_table.nd rfl (by first | exact Or.inl rfl | exact Or.inr rfl) (pe_d d__law_pot (hr.mono (by decide)) rfl pass0 (pa_cons (pe_d d__law_cell (hr.mono (by decide)) rfl pass0 (pa_cons (pv 0) (pa_cons pe_int pa_nil))) pa_nil)))
      (pss_cons (ps_set (i := 2) sc__law_table.nd rfl (by first | exact Or.inl rfl | exact Or.inr rfl) (pe_op op_addX pe_int (pe_d d__law_take (hr.mono (by decide)) rfl pass0 (pa_cons (pv 1) (pa_cons pe_int pa_nil)))))
      (pss_cons (ps_set (i := 3) sc__law_table.nd rfl (by first | exact Or.inl rfl | exact Or.inr rfl) (pe_ix (ix_X hu) (pe_lst (pa_cons pe_int (pa_cons pe_int (pa_cons pe_int (pa_cons pe_int pa_nil))))) (pe_d d__law_take (hr.mono (by decide)) rfl pass0 (pa_cons (pv 1) (pa_cons pe_int pa_nil))) (fun _ _ => rfl)))
      (pss_cons (ps_set (i := 4) sc__law_table.nd rfl (by first | exact Or.inl rfl | exact Or.inr rfl) (pe_lst (pa_cons (pe_lc (own := [("_law_k", 9)]) rfl sc__law_table.nd (pi_range1 rfl T.b_range (pa_cons (pv 2) pa_nil)) (blkOk_by (N := N__law_table) (sc := defScope s__law_table) (own := [("_law_k", 9)]) (by decide +kernel)) (fun _ _ _ _ _ => (pg_name (i := 9) sc__law_table.nd rfl (by first | exact Or.inl rfl | exact Or.inr rfl))) (fun _ _ _ _ _ => pts_nil) (fun _ _ _ _ _ => pe_int)) pa_nil)))
      (pss_cons (ps_for PassesOwn.never rfl (pi_X (pe_slice sl_X (pv 0) (po_some pe_int) (po_some pe_int))) (pg_name (i := 5) sc__law_table.nd rfl (by first | exact Or.inl rfl | exact Or.inr rfl)) (pss_cons (ps_set (i := 6) sc__law_table.nd rfl (by first | exact Or.inl rfl | exact Or.inr rfl) (pe_d d__law_pot (hr.mono (by decide)) rfl pass0 (pa_cons (pv 5) pa_nil)))
      (pss_cons (ps_setLc (i := 7) (own := [("_law_k", 9)]) rfl sc__law_table.nd rfl rfl (sw_true rfl rfl rfl (by decide +kernel)) (pi_range1 rfl T.b_range (pa_cons (pv 2) pa_nil)) (blkOk_by (N := N__law_table) (sc := defScope s__law_table) (own := [("_law_k", 9)]) (by decide +kernel)) (fun _ _ _ _ _ => (pg_name (i := 9) sc__law_table.nd rfl (by first | exact Or.inl rfl | exact Or.inr rfl))) (fun _ _ _ _ _ => pts_nil) (fun _ _ _ _ _ => (pe_d d__law_take (hr.mono (by decide)) rfl pass0 (pa_cons (pv 6) (pa_cons (pe_op (op_addK (K := K) rfl) pe_int (pv 3)) pa_nil)))))
      (pss_cons (ps_setLc (i := 8) (own := [("_law_k", 9)]) rfl sc__law_table.nd rfl rfl (sw_true rfl rfl rfl (by decide +kernel)) (pi_range1 rfl T.b_range (pa_cons (pe_op op_addX (pv 2) pe_int) pa_nil)) (blkOk_by (N := N__law_table) (sc := defScope s__law_table) (own := [("_law_k", 9)]) (by decide +kernel)) (fun _ _ _ _ _ => (pg_name (i := 9) sc__law_table.nd rfl (by first | exact Or.inl rfl | exact Or.inr rfl))) (fun _ _ _ _ _ => pts_nil) (fun _ _ _ _ _ => pe_int))
      (pss_cons (ps_for PassesOwn.never rfl (pi_revR (by rfl) T.b_reversed (prg_1 (by rfl) T.b_range (pv 2))) (pg_name (i := 9) sc__law_table.nd rfl (by first | exact Or.inl rfl | exact Or.inr rfl)) (pss_one (ps_asg (pe_callB (call_mn2 rfl) (by rfl) T.b_min L2.A.boot_min (pa_cons pe_int (pa_cons (pe_callB (call_mx2 rfl) (by rfl) T.b_max L2.A.boot_max (pa_cons (pe_ix (ix_X hu) (pv 8) (pe_op op_addX (pv 9) pe_int) (fun _ _ => rfl)) (pa_cons (pe_op op_addX (pe_ix (ix_X hu) (pe_ix (ix_X hu) (pv 4) (pe_un un_neg pe_int) (fun _ _ => rfl)) (pv 9) (fun _ _ => rfl)) (pe_ix (ix_X hu) (pv 7) (pv 9) (fun _ _ => rfl))) pa_nil))) pa_nil))) (pg_sub (pv 8) (pv 9) (set_X hu)))))
      (pss_one (ps_expr (pe_bm PySem.F.plainAttrs_list PySem.F.slot_list_append PySem.F.type_list_append mt_append (pv 4) (pa_cons (pe_slice sl_X (pv 8) po_none (po_some (pv 2))) pa_nil)))))))))
      (pss_one (ps_ret (pv 4))))))))), ?_⟩
  refine go_start (σ := [some a0, none, none, none, none, none, none, none, none, none]) rfl ?_
  try dsimp only [cxOf, Cx.nox, Cx.wish]
  obtain ⟨a, ns, rfl, hS, hn, hq⟩ := h
  walk_at "*"
  refine go_sp2 ⟨a, ns, rfl, rfl, hS, fun z0 => ?_⟩
  walk_at "*"
  refine go_sp1 ⟨_, rfl, fun p H1 hp s1 p1 => ?_⟩
  walk_at "*"
  refine go_sp2 ⟨p, 0, _, rfl, rfl, p1, by omega, by omega, by omega, fun r H2 r0 r1 k2 p2 => ?_⟩
  walk_at "*"
  intro g hg
  walk_at "*"
  refine go_sp2 ⟨p, _, _, rfl, rfl, p2.same (same_new hg), by omega, by omega, by omega, fun q H3 q0 q1 k3 p3 => ?_⟩
  obtain ⟨G, eG, mG⟩ := menuI (L := [1, 7, 60, 500]) q0 q1
  have hG : 1 ≤ G ∧ G ≤ 500 := by
    have := mG
    simp at this
    omega
  have eg := k3 _ _ upd_same (p2.ne hg)
  walk_at "*"
  refine go_xL (.of eg) eG ?_
  have s3 : Same H H3 := same_kp (same_kp s1 (k2.trans (Kp.same (same_new hg))) hp) k3 hp
  walk_at "*"
  obtain ⟨m, rfl⟩ : ∃ m : Nat, r = (m : Int) := ⟨r.toNat, by omega⟩
  generalize hMM : (1 + (m : Int)) = MM
  obtain ⟨M, rfl⟩ : ∃ M : Nat, MM = (M : Int) := ⟨MM.toNat, by omega⟩
  walk_at "*"
  refine LcW.it walk_range (fun D i ys H' => Same H3 H' ∧ ys = lstI i (fun _ => 0)) (by omega) (fun D hD => ⟨same_new hD, rfl⟩) (fun _ _ _ _ _ _ _ _ => trivial) ?_ ?_
  · rintro D i x ys H4 H5 hD hi hl e ⟨s, rfl⟩ ⟨rfl, rfl⟩ yes no hy hn
    refine go_name rfl ⟨rfl, ?_⟩
    walk_at "*"
    exact hy _ _ e ⟨same_mut s hD, by rw [lstF_app]; exact lstF_congr fun j hj => by by_cases z : j = i <;> simp [z]⟩
  rintro D ys H4 hD e hl ⟨s4, rfl⟩
  walk_at "*"
  intro t ht
  walk_at "*"
  refine go_slL (ys := _) (seqL_same hS ((s3.trans s4).trans (same_new ht))) rfl ?_
  obtain ⟨ms, ems, lms⟩ := cutV_map (ns := ns) (lo := some 1) (hi := some 63)
  rw [ems]
  intro l hl
  walk_at "*"
  refine go_iL (.of upd_same) ?_
  have ht0 : H t = none := s3.free (s4.free ht)
  have tl : t ≠ l := ne_of_none upd_same hl
  refine ForW.list (xs := ms.map V.int) (fun i σ H' => Same H H' ∧ H' l = some (.lst (ms.map V.int)) ∧ ∃ ta tf v6 v7 v8 v9 v10, Tab H' t (i + 1) M ta tf ∧ Good (i + 1) M tf ∧ σ = [some (.ref a), some (.ref p), some (.int (M : Int)), some (.int G), some (.ref t), v6, v7, v8, v9, v10]) ⟨(s3.trans s4).trans (same_new2 (same_new ht) hl), upd_same, fun _ => D, fun _ _ => 0, _, _, _, _, _, ⟨?_, ?_, ?_⟩, ⟨by omega, by omega, by omega, by omega, by omega, by omega, by omega, by omega⟩, rfl⟩ (fun i σ H' _ ⟨_, g, _⟩ => .of g) ?_ ?_
  · rw [upd_ne tl]; exact upd_same
  · intro i hi
    rw [upd_ne (ne_of_none (show (upd H4 t _) D = _ from by rw [upd_ne (ne_of_none e ht)]; exact e) hl), upd_ne (ne_of_none e ht), e]
    rfl
  · intro i hi
    exact ne_of_none e ht
  · rintro i x σ H5 hi ⟨s5, el, ta, tf, v6, v7, v8, v9, v10, tb, gd, rfl⟩
    have li : i < ms.length := by have := (List.getElem?_eq_some_iff.mp hi).1; rwa [List.length_map] at this
    obtain ⟨z, rfl, _⟩ := int_at hi
    walk_at "*"
    refine go_sp1 ⟨_, rfl, fun o H6 ho s6 p6 => ?_⟩
    walk_at "*"
    refine LcW.it walk_range (fun D i ys H' => ∃ rf : Nat → Int, Same H5 H' ∧ Pot H' o i ∧ ys = lstI i rf ∧ ∀ k, k < i → 0 ≤ rf k) (by omega) (fun D hD => ⟨fun _ => 0, same_new2 s6 hD, p6.same (same_new hD), rfl, by omega⟩) (fun _ _ _ _ _ _ _ _ => trivial) ?_ ?_
    · rintro D' j x ys H7 H8 hD' hj hl' e' ⟨rf, s, pt, rfl, hr⟩ ⟨rfl, rfl⟩ yes no hy hn
      refine go_name rfl ⟨rfl, ?_⟩
      walk_at "*"
      refine go_sp2 ⟨o, _, _, rfl, rfl, pt, by omega, by omega, by omega, fun rr H9 rr0 rr1 k9 p9 => ?_⟩
      have Do : D' ≠ o := p6.ne hD'
      refine hy _ _ (k9 _ _ e' Do) ⟨fun k => if k = j then rr else rf k, same_mut (same_kp s k9 ho) (s6.free hD'), p9.kp Do.symm Kp.upd, ?_, ?_⟩
      · rw [lstF_app]
        exact lstF_congr fun k hk => by by_cases z : k = j <;> simp [z]
      · intro k hk
        show 0 ≤ if k = j then rr else rf k
        by_cases z : k = j
        · rw [if_pos z]; exact rr0
        · rw [if_neg z]; exact hr k (by omega)
    rintro D' ys H7 hD' e' hl' ⟨rf, s7, p7, rfl, hr⟩
    walk_at "*"
    refine LcW.it walk_range (fun D i ys H' => Same H7 H' ∧ ys = lstI i (fun _ => 0)) (by omega) (fun D hD => ⟨same_new hD, rfl⟩) (fun _ _ _ _ _ _ _ _ => trivial) ?_ ?_
    · rintro D i x ys H4 H5 hD hi hl e ⟨s, rfl⟩ ⟨rfl, rfl⟩ yes no hy hn
      refine go_name rfl ⟨rfl, ?_⟩
      walk_at "*"
      exact hy _ _ e ⟨same_mut s hD, by rw [lstF_app]; exact lstF_congr fun j hj => by by_cases z : j = i <;> simp [z]⟩
    rintro R ys H8 hR eR hl'' ⟨s8, rfl⟩
    have hR0 : H5 R = none := s7.free hR
    have hRD : D' ≠ R := ne_of_none e' hR
    rw [show ((M : Int) + 1).toNat = M + 1 by omega] at eR
    rw [show ((M : Int)).toNat = M by omega] at e' hr
    walk_at "*"
    refine ForW.it walk_rangeC (fun j σ H' => ∃ (f : Nat → Int) (v : Option V), Same H7 H' ∧ H' R = some (.lst (lstI (M + 1) f)) ∧ (∀ q, q ≤ M → 0 ≤ f q ∧ f q ≤ 1000) ∧ (∀ q, M - j ≤ q → q < M → f (q + 1) ≤ f q ∧ tf i q ≤ f q) ∧ σ = [some (.ref a), some (.ref p), some (.int (M : Int)), some (.int G), some (.ref t), some (.int z), some (.ref o), some (.ref D'), some (.ref R), v]) ⟨fun _ => 0, _, s8, eR, fun _ _ => ⟨Int.le_refl _, show (0 : Int) ≤ 1000 by decide⟩, fun q h1 h2 => (by omega), rfl⟩ (fun _ _ _ _ _ => trivial) ?_ ?_
    · rintro j x σ H9 H9' hj ⟨f, v, s9, e9, f1, f2, rfl⟩ ⟨rfl, rfl⟩
      have hj' : j < M := by omega
      obtain ⟨k, hk, ek⟩ : ∃ k : Nat, k = M - 1 - j ∧ (M : Int) - 1 + (j : Int) * (-1) = k := ⟨M - 1 - j, rfl, by omega⟩
      dsimp only
      rw [ek]
      walk_at "*"
      refine go_xL (.of e9) (lstF_atI (by omega) (by omega)) ?_
      walk_at "*"
      have s59 : Same H5 H9' := s7.trans s9
      refine go_xL (.of (s59 _ _ tb.top)) lstF_last ?_
      walk_at "*"
      refine go_xL (.of (s59 _ _ (tb.row i (by omega)))) (lstF_atI (by omega) (by omega)) ?_
      walk_at "*"
      refine go_xL (.of (s9 _ _ e')) (lstF_atI (by omega) (by omega)) ?_
      walk_at "*"
      rw [show ((k : Int) + 1).toNat = k + 1 by omega, show ((k : Int)).toNat = k by omega]
      refine go_sL e9 (n := k) (by rw [lstF_len]; unfold ixN; rw [if_pos (by omega), if_pos (by omega)]; rfl) ?_
      rw [lstF_set (by omega)]
      have b0 := f1 (k + 1) (by omega)
      have b1 := gd.lo i k (by omega) (by omega)
      have b2 := hr k (by omega)
      refine ⟨fun q => if q = k then min 1000 (max (f (k + 1)) (tf i k + rf k)) else f q, _, same_mut s9 hR, ?_, ?_, ?_, rfl⟩
      · rw [upd_same]
        congr 2
        exact lstF_congr fun q hq => by by_cases z : q = k <;> simp [z]
      · intro q hq
        show 0 ≤ (if q = k then _ else _) ∧ (if q = k then _ else _) ≤ _
        by_cases z : q = k
        · rw [if_pos z]; omega
        · rw [if_neg z]; exact f1 q hq
      · intro q h1 h2
        show (if q + 1 = k then _ else _) ≤ (if q = k then _ else _) ∧ _ ≤ (if q = k then _ else _)
        rw [if_neg (by omega)]
        by_cases z : q = k
        · rw [if_pos z, z]; omega
        · rw [if_neg z]; exact f2 q (by omega) h2
    · rintro σ H9 ⟨f, v, s9, e9, f1, f2, rfl⟩
      have s59 : Same H5 H9 := s7.trans s9
      have tb9 := tb.same s59
      rw [show M - (M : Int).toNat = 0 by omega] at f2
      walk_at "*"
      refine go_bmW (tyV_l (.of tb9.top)) ?_
      walk_at "*"
      refine go_slL (.of e9) (lstF_cut (by omega)) ?_
      intro b hb
      walk_at "*"
      refine go_append (by rw [upd_ne (ne_of_none tb9.top hb)]; exact tb9.top) (by rw [lstF_len]; omega) ?_
      walk_at "*"
      rw [lstF_app]
      have tb' : t ≠ b := ne_of_none tb9.top hb
      refine ⟨same_mut ((s5.trans s59).trans (same_new hb)) ht0, ?_, fun j => if j = i + 1 then b else ta j, fun j => if j = i + 1 then f else tf j, _, _, _, _, _, ⟨?_, ?_, ?_⟩, ?_, rfl⟩
      · rw [upd_ne (Ne.symm tl), upd_ne (ne_of_none (s59 _ _ el) hb)]; exact s59 _ _ el
      · rw [upd_same]
        congr 2
        exact lstF_congr fun q hq => by by_cases z : q = i + 1 <;> simp [z]
      · intro j hj
        show upd _ t _ (if j = i + 1 then b else ta j) = some (.lst (lstI M (if j = i + 1 then f else tf j)))
        by_cases z : j = i + 1
        · rw [if_pos z, if_pos z, upd_ne tb'.symm]; exact upd_same
        · rw [if_neg z, if_neg z, upd_ne (tb.ne j (by omega)), upd_ne (ne_of_none (tb9.row j (by omega)) hb)]
          exact tb9.row j (by omega)
      · intro j hj
        show (if j = i + 1 then b else ta j) ≠ t
        by_cases z : j = i + 1
        · rw [if_pos z]; exact tb'.symm
        · rw [if_neg z]; exact tb.ne j (by omega)
      · exact gd.snoc (by omega) (fun k hk => f1 k (by omega)) (fun k hk => (f2 k (by omega) (by omega)).1) (fun k hk => (f2 k (by omega) (by omega)).2)
  · rintro σ H5 ⟨s5, el, ta, tf, v6, v7, v8, v9, v10, tb, gd, rfl⟩
    walk_at "*"
    exact hq _ _ _ _ _ _ s5 tb gd

/-- a cut: a tuple of three places -/
structure Cut where
  (p : Addr)
  (b a w : Nat)
def Cut.L (c : Cut) : List V := [.int (c.b : Int), .int (c.a : Int), .int (c.w : Int)]
structure Cut.Ok (n m : Nat) (c : Cut) : Prop where
  b : c.b < n
  a : c.a < n
  w : c.w < m
abbrev refsC (cs : List Cut) : List V := cs.map fun c => V.ref c.p
def AtC (H : Hp) (cs : List Cut) : Prop := ∀ c ∈ cs, H c.p = some (.tup (Cut.L c))
theorem AtC.same {H H' : Hp} {cs : List Cut} (h : AtC H cs) (s : Same H H') : AtC H' cs := fun c m => s _ _ (h c m)
theorem refsC_at {cs : List Cut} {i : Nat} {x : V} (h : (refsC cs)[i]? = some x) : ∃ c, cs[i]? = some c ∧ c ∈ cs ∧ x = .ref c.p := by
  rw [List.getElem?_map] at h
  cases e : cs[i]? with
  | none => rw [e] at h; cases h
  | some c => rw [e] at h; exact ⟨c, rfl, List.mem_of_getElem? e, (Option.some.inj h).symm⟩
def shareI (tf : Nat → Nat → Int) (cs : List Cut) (z : Int) : Int := cs.foldl (fun s c => s - (tf c.b c.w - tf c.a c.w)) z

/-! ### share_had -/
abbrev s_share_had : Stmt := top 1
abbrev N_share_had : List Str := ["table", "overs", "cuts", "share", "before", "after", "wickets"]
theorem sc_share_had : FnScope N_share_had ["table", "overs", "cuts"] (defScope s_share_had) := ⟨rfl, rfl, rfl, by decide +kernel, rfl, by decide +kernel, by decide +kernel⟩
def pr_share_had (K : PySem.W.Frag) : V → V → V → Hp → VK → XK → Prop := fun a0 a1 a2 H Q E => ∃ (t l : Addr) (n m : Nat) (ta : Nat → Addr) (tf : Nat → Nat → Int) (ov : Nat) (cs : List Cut), a0 = .ref t ∧ a1 = .int (ov : Int) ∧ a2 = .ref l ∧ Tab H t n m ta tf ∧ ov < n ∧ 1 ≤ m ∧ H l = some (.lst (refsC cs)) ∧ AtC H cs ∧ (∀ c ∈ cs, c.Ok n m) ∧ Q (.int (max 0 (shareI tf cs (tf ov 0)))) H
abbrev sp_share_had (K : PySem.W.Frag) : Sp := Sp3 (pr_share_had K)
theorem ok_share_had {P : Program} {w : World} {K : PySem.W.Frag} {mg : Str → Option Value} {base : Heap} {f : Addr} {fd : FuncData} (F : FunD K "share_had" "share_had" (defArgs s_share_had) (defBody s_share_had) (defScope s_share_had) [] [] f fd) (T : Txt K mg)  : FnOk P w K mg base CX0 1 f fd ["table", "overs", "cuts"] (sp_share_had K) := by
  refine F.ok sc_share_had (fun vs H Q E h => len3 h) (fun cdv A outer s H vs Q E hr h => ?_)
  obtain ⟨a0, a1, a2, rfl, h⟩ := h
  have hu := hu_of hr
  refine ⟨_, PSs.nox ((pss_cons (ps_set (i := 3) sc_share_had.nd rfl (by first | exact Or.inl rfl | exact Or.inr rfl) (pe_ix (ix_X hu) (pe_ix (ix_X hu) (pv 0) (pv 1) (fun _ _ => rfl)) pe_int (fun _ _ => rfl)))
      (pss_cons (ps_for PassesOwn.never rfl (pi_X (pv 2)) (pg_tup rfl (pgs_cons (pg_name (i := 4) sc_share_had.nd rfl (by first | exact Or.inl rfl | exact Or.inr rfl)) (pgs_cons (pg_name (i := 5) sc_share_had.nd rfl (by first | exact Or.inl rfl | exact Or.inr rfl)) (pgs_cons (pg_name (i := 6) sc_share_had.nd rfl (by first | exact Or.inl rfl | exact Or.inr rfl)) pgs_nil)))) (pss_one (ps_aug (i := 3) sc_share_had.nd rfl (by first | exact Or.inl rfl | exact Or.inr rfl) (pe_op op_sub (pe_ix (ix_X hu) (pe_ix (ix_X hu) (pv 0) (pv 4) (fun _ _ => rfl)) (pv 6) (fun _ _ => rfl)) (pe_ix (ix_X hu) (pe_ix (ix_X hu) (pv 0) (pv 5) (fun _ _ => rfl)) (pv 6) (fun _ _ => rfl))) ip_sub)))
      (pss_one (ps_ret (pe_callB (call_mx2 rfl) (by rfl) T.b_max L2.A.boot_max (pa_cons pe_int (pa_cons (pv 3) pa_nil)))))))), ?_⟩
  refine go_start (σ := [some a0, some a1, some a2, none, none, none, none]) rfl ?_
  try dsimp only [cxOf, Cx.nox, Cx.wish]
  obtain ⟨t, l, n, m, ta, tf, ov, cs, rfl, rfl, rfl, tb, hov, hm, hc, at_, ok, hq⟩ := h
  walk_at "*"
  refine go_xL (.of tb.top) (lstF_atI (by omega) (by omega)) ?_
  walk_at "*"
  rw [show ((ov : Int)).toNat = ov by omega]
  refine go_xL (.of (tb.row ov hov)) (lstF_atI (i := 0) (by omega) (by omega)) ?_
  walk_at "*"
  refine go_iL (.of hc) ?_
  refine ForW.list (xs := refsC cs) (fun i σ H' => H' = H ∧ ∃ v1 v2 v3, σ = [some (.ref t), some (.int (ov : Int)), some (.ref l), some (.int (shareI tf (cs.take i) (tf ov 0))), v1, v2, v3]) ⟨rfl, _, _, _, rfl⟩ (fun i σ H' _ ⟨e, _⟩ => e ▸ .of hc) ?_ ?_
  · rintro i x σ H' hi ⟨rfl, v1, v2, v3, rfl⟩
    obtain ⟨c, ec, mc, rfl⟩ := refsC_at hi
    have okc := ok c mc
    have w1 := okc.w
    have b1 := okc.b
    have a1 := okc.a
    refine go_gtup (.of (at_ c mc)) rfl ?_
    unfold Cut.L
    walk_at "*"
    refine go_xL (.of tb.top) (lstF_atI (by omega) (by omega)) ?_
    walk_at "*"
    refine go_xL (.of (tb.row _ (by omega))) (lstF_atI (by omega) (by omega)) ?_
    walk_at "*"
    refine go_xL (.of tb.top) (lstF_atI (by omega) (by omega)) ?_
    walk_at "*"
    refine go_xL (.of (tb.row _ (by omega))) (lstF_atI (by omega) (by omega)) ?_
    walk_at "*"
    have e : shareI tf (cs.take (i + 1)) (tf ov 0) = shareI tf (cs.take i) (tf ov 0) - (tf c.b c.w - tf c.a c.w) := by
      unfold shareI
      rw [List.take_add_one, ec, List.foldl_append]
      rfl
    exact ⟨rfl, some (.int (c.b : Int)), some (.int (c.a : Int)), some (.int (c.w : Int)), by rw [e]; simp only [Int.toNat_natCast]⟩
  · rintro σ H' ⟨rfl, v1, v2, v3, rfl⟩
    walk_at "*"
    rw [List.length_map, List.take_length]
    exact hq
/-! ### _law_cuts -/
abbrev s__law_cuts : Stmt := top 9
abbrev N__law_cuts : List Str := ["_law_table_here", "_law_pot_here", "_law_most", "_law_cuts_here", "_law_k", "_law_before", "_law_after"]
theorem sc__law_cuts : FnScope N__law_cuts ["_law_table_here", "_law_pot_here", "_law_most"] (defScope s__law_cuts) := ⟨rfl, rfl, rfl, by decide +kernel, rfl, by decide +kernel, by decide +kernel⟩
def pr__law_cuts (K : PySem.W.Frag) : V → V → V → Hp → VK → XK → Prop := fun a0 a1 a2 H Q E => ∃ (t p : Addr) (n m : Nat) (ta : Nat → Addr) (tf : Nat → Nat → Int) (c mo : Int), a0 = .ref t ∧ a1 = .ref p ∧ a2 = .int mo ∧ Tab H t n m ta tf ∧ Good n m tf ∧ (∀ i, i < n → ta i ≠ p) ∧ t ≠ p ∧ Pot H p c ∧ c ≤ 1000 ∧ 1 ≤ mo ∧ mo ≤ 10 ∧ ∀ (l : Addr) (cs : List Cut) (H' : Hp), H l = none → H' l = some (.lst (refsC cs)) → AtC H' cs → cs.length ≤ 10 → (∀ c ∈ cs, H c.p = none ∧ c.a ≤ c.b ∧ c.Ok n m) → Kp (fun a => a = p) H H' → Pot H' p (c + 40) → Q (.ref l) H' 
abbrev sp__law_cuts (K : PySem.W.Frag) : Sp := Sp3 (pr__law_cuts K)
theorem ok__law_cuts {P : Program} {w : World} {K : PySem.W.Frag} {mg : Str → Option Value} {base : Heap} {f : Addr} {fd : FuncData} (F : FunD K "_law_cuts" "_law_cuts" (defArgs s__law_cuts) (defBody s__law_cuts) (defScope s__law_cuts) [] [] f fd) (T : Txt K mg) (d__law_take : Dn P w K mg base CX0 2 "_law_take" ["_law_pot_here", "_law_many"] [] (sp__law_take K)) : FnOk P w K mg base CX0 3 f fd ["_law_table_here", "_law_pot_here", "_law_most"] (sp__law_cuts K) := by
  refine F.ok sc__law_cuts (fun vs H Q E h => len3 h) (fun cdv A outer s H vs Q E hr h => ?_)
  obtain ⟨a0, a1, a2, rfl, h⟩ := h
  have hu := hu_of hr
  refine ⟨_, PSs.nox ((pss_cons (ps_set (i := 3) sc__law_cuts.nd rfl (by first | exact Or.inl rfl | exact Or.inr rfl) (pe_lst pa_nil))
      (pss_cons (ps_for PassesOwn.never rfl (pi_range1 rfl T.b_range (pa_cons (pe_d d__law_take (hr.mono (by decide)) rfl pass0 (pa_cons (pv 1) (pa_cons (pv 2) pa_nil))) pa_nil)) (pg_name (i := 4) sc__law_cuts.nd rfl (by first | exact Or.inl rfl | exact Or.inr rfl)) (pss_cons (ps_set (i := 5) sc__law_cuts.nd rfl (by first | exact Or.inl rfl | exact Or.inr rfl) (pe_d d__law_take (hr.mono (by decide)) rfl pass0 (pa_cons (pv 1) (pa_cons (pe_callB call_lenX (by rfl) T.b_len L2.A.boot_len (pa_cons (pv 0) pa_nil)) pa_nil))))
      (pss_cons (ps_set (i := 6) sc__law_cuts.nd rfl (by first | exact Or.inl rfl | exact Or.inr rfl) (pe_d d__law_take (hr.mono (by decide)) rfl pass0 (pa_cons (pv 1) (pa_cons (pe_op op_addX (pv 5) pe_int) pa_nil))))
      (pss_one (ps_expr (pe_bm PySem.F.plainAttrs_list PySem.F.slot_list_append PySem.F.type_list_append mt_append (pv 3) (pa_cons (pe_tup (pa_cons (pv 5) (pa_cons (pv 6) (pa_cons (pe_d d__law_take (hr.mono (by decide)) rfl pass0 (pa_cons (pv 1) (pa_cons (pe_callB call_lenX (by rfl) T.b_len L2.A.boot_len (pa_cons (pe_ix (ix_X hu) (pv 0) pe_int (fun _ _ => rfl)) pa_nil)) pa_nil))) pa_nil)))) pa_nil)))))))
      (pss_one (ps_ret (pv 3)))))), ?_⟩
  refine go_start (σ := [some a0, some a1, some a2, none, none, none, none]) rfl ?_
  try dsimp only [cxOf, Cx.nox, Cx.wish]
  obtain ⟨t, p, n, m, ta, tf, c, mo, rfl, rfl, rfl, tb, gd, hp1, hp2, pt, hc, hm1, hm2, hq⟩ := h
  have n0 := gd.n0
  have n1 := gd.n1
  have m0 := gd.m0
  have m1 := gd.m1
  walk_at "*"
  intro l hl
  walk_at "*"
  refine go_sp2 ⟨p, c, mo, rfl, rfl, pt.same (same_new hl), by omega, by omega, by omega, fun r H1 r0 r1 k1 p1 => ?_⟩
  have el := k1 _ _ upd_same (pt.ne hl)
  have lp : l ≠ p := pt.ne hl
  have k1 := (Kp.same (fp := fun a => a = p) (same_new hl)).trans k1
  walk_at "*"
  refine ForW.range (fun i σ H' => ∃ (cs : List Cut) (v1 v2 v3 : Option V), H' l = some (.lst (refsC cs)) ∧ AtC H' cs ∧ cs.length = i ∧ (∀ c ∈ cs, H c.p = none ∧ c.a ≤ c.b ∧ c.Ok n m) ∧ Kp (fun a => a = p) H H' ∧ Pot H' p (c + 1 + 3 * i) ∧ σ = [some (.ref t), some (.ref p), some (.int mo), some (.ref l), v1, v2, v3]) ⟨[], _, _, _, el, fun _ z => (by cases z), rfl, fun _ z => (by cases z), k1, p1.le (by omega), rfl⟩ ?_ ?_
  · rintro i σ H2 hi ⟨cs, v1, v2, v3, e2, at2, ln, ok, k2, p2, rfl⟩
    have T : ∀ {H'}, Kp (fun a => a = p) H H' → Tab H' t n m ta tf := fun k => ⟨k _ _ tb.top hp2, fun i hi => k _ _ (tb.row i hi) (hp1 i hi), tb.ne⟩
    walk_at "*"
    refine go_lenL (.of (T k2).top) ?_
    rw [lstF_len]
    walk_at "*"
    refine go_sp2 ⟨p, _, _, rfl, rfl, p2, by omega, by omega, by omega, fun b H3 b0 b1 k3 p3 => ?_⟩
    walk_at "*"
    refine go_sp2 ⟨p, _, _, rfl, rfl, p3, by omega, by omega, by omega, fun a H4 a0 a1 k4 p4 => ?_⟩
    have k4' := (k2.trans k3).trans k4
    have e4 := k4 _ _ (k3 _ _ e2 lp) lp
    walk_at "*"
    refine go_xL (.of (T k4').top) (lstF_atI (i := 0) (by omega) (by omega)) ?_
    walk_at "*"
    refine go_lenL (.of ((T k4').row 0 n0)) ?_
    rw [lstF_len]
    walk_at "*"
    refine go_sp2 ⟨p, _, _, rfl, rfl, p4, by omega, by omega, by omega, fun w H5 w0 w1 k5 p5 => ?_⟩
    have k5' := k4'.trans k5
    have e5 := k5 _ _ e4 lp
    walk_at "*"
    intro q hq'
    have lq : l ≠ q := ne_of_none e5 hq'
    have qH : H q = none := k5'.back p5.is hq'
    have atp : ∀ c ∈ cs, c.p ≠ p := fun c mc z => by have e := at2 c mc; obtain ⟨_, _, _, g, _⟩ := p2; rw [z, g] at e; cases e
    have at5 : AtC H5 cs := fun c mc => k5 _ _ (k4 _ _ (k3 _ _ (at2 c mc) (atp c mc)) (atp c mc)) (atp c mc)
    walk_at "*"
    obtain ⟨b, rfl⟩ : ∃ b' : Nat, b = (b' : Int) := ⟨b.toNat, by omega⟩
    obtain ⟨a, rfl⟩ : ∃ a' : Nat, a = (a' : Int) := ⟨a.toNat, by omega⟩
    obtain ⟨w, rfl⟩ : ∃ w' : Nat, w = (w' : Int) := ⟨w.toNat, by omega⟩
    refine ⟨cs ++ [⟨q, b, a, w⟩], _, _, _, ?_, ?_, by rw [List.length_append, ln]; rfl, ?_, kp_mut (kp_new k5' hq') hl, ((p5.same (same_new hq')).kp lp.symm Kp.upd).le (by omega), rfl⟩
    · rw [upd_same]; simp only [refsC, List.map_append, List.map_cons, List.map_nil]
    · intro c' mc
      rcases List.mem_append.mp mc with mc | mc
      · have e := at5 c' mc
        rw [upd_ne (fun z => by rw [z, e5] at e; cases e), upd_ne (ne_of_none e hq')]
        exact e
      · obtain rfl := List.mem_singleton.mp mc
        show upd _ l _ q = _
        rw [upd_ne lq.symm]
        exact upd_same
    · intro c' mc
      rcases List.mem_append.mp mc with mc | mc
      · exact ok c' mc
      · obtain rfl := List.mem_singleton.mp mc
        exact ⟨qH, by show a ≤ b; omega, ⟨by show b < n; omega, by show a < n; omega, by show w < m; omega⟩⟩
  · rintro σ H2 ⟨cs, v1, v2, v3, e2, at2, ln, ok, k2, p2, rfl⟩
    walk_at "*"
    exact hq _ _ _ hl e2 at2 (by omega) ok k2 (p2.le (by omega))

def tabD (n m : Nat) (tf : Nat → Nat → Int) : PyData := .list ((List.range n).map fun i => .list ((List.range m).map fun k => .int (tf i k)))
def cutsD (cs : List Cut) : PyData := .list (cs.map fun c => .tuple [.int (c.b : Int), .int (c.a : Int), .int (c.w : Int)])
theorem tabD_dp {K : PySem.W.Frag} {H : Hp} {t : Addr} {n m : Nat} {ta : Nat → Addr} {tf : Nat → Nat → Int} (h : Tab H t n m ta tf) : Dp K H (.ref t) (tabD n m tf) :=
  .lst (.of h.top) (DpAll.map fun i hi => .lst (.of (h.row i (List.mem_range.mp hi))) (DpAll.map fun k _ => .int _))
theorem tabD_can {n m : Nat} {tf : Nat → Nat → Int} : (tabD n m tf).canLay0 = true := by
  show PyData.canLayAll0 _ = true
  exact canAll_map fun i _ => (show PyData.canLayAll0 _ = true from canAll_map fun k _ => rfl)
theorem tabD_depth {n m : Nat} {tf : Nat → Nat → Int} : (tabD n m tf).depth ≤ 2 := by
  show PyData.depthAll _ + 1 ≤ 2
  have := depthAll_map (d := 1) (xs := List.range n) (g := fun i => PyData.list ((List.range m).map fun k => .int (tf i k))) fun i _ => by
    show PyData.depthAll _ + 1 ≤ 1
    have := depthAll_map (d := 0) (xs := List.range m) (g := fun k => PyData.int (tf i k)) fun k _ => Nat.le_refl _
    omega
  omega
theorem cutsD_dp {K : PySem.W.Frag} {H : Hp} {l : Addr} {cs : List Cut} (h : H l = some (.lst (refsC cs))) (a : AtC H cs) : Dp K H (.ref l) (cutsD cs) :=
  .lst (.of h) (DpAll.map fun c m => .tup (.of (a c m)) (.cons (.int _) (.cons (.int _) (.cons (.int _) .nil))))
theorem cutsD_can {cs : List Cut} : (cutsD cs).canLay0 = true := by
  show PyData.canLayAll0 _ = true
  exact canAll_map fun c _ => rfl
theorem cutsD_depth {cs : List Cut} : (cutsD cs).depth ≤ 2 := by
  show PyData.depthAll _ + 1 ≤ 2
  have := depthAll_map (d := 1) (xs := cs) (g := fun c => PyData.tuple [.int (c.b : Int), .int (c.a : Int), .int (c.w : Int)]) fun c _ => Nat.le_refl _
  omega
theorem share_sum {tf : Nat → Nat → Int} : ∀ {cs : List Cut} {z : Int}, shareI tf cs z = z - ((cs.map fun c => tf c.b c.w).sum - (cs.map fun c => tf c.a c.w).sum)
  | [], z => by show z = z - (0 - 0); omega
  | c :: cs, z => by
    show shareI tf cs (z - (tf c.b c.w - tf c.a c.w)) = _
    rw [share_sum]
    simp only [List.map_cons, List.sum_cons]
    omega
theorem take_snoc {α : Type} {xs : List α} {i : Nat} {x : α} (h : xs[i]? = some x) : xs.take (i + 1) = xs.take i ++ [x] := by rw [List.take_add_one, h]; rfl


def dl (tf : Nat → Nat → Int) (c : Cut) : Int := tf c.b c.w - tf c.a c.w
def ds (tf : Nat → Nat → Int) (cs : List Cut) : Int := (cs.map (dl tf)).sum
theorem share_ds {tf : Nat → Nat → Int} : ∀ {cs : List Cut} {z : Int}, shareI tf cs z = z - ds tf cs
  | [], z => by show z = z - 0; omega
  | c :: cs, z => by
    show shareI tf cs (z - dl tf c) = _
    rw [share_ds]
    unfold ds
    simp only [List.map_cons, List.sum_cons]
    omega
theorem Good.mono {n m : Nat} {tf : Nat → Nat → Int} (g : Good n m tf) {i k : Nat} (hk : k < m) : ∀ {d : Nat}, i + d < n → tf i k ≤ tf (i + d) k
  | 0, _ => Int.le_refl _
  | d + 1, h => Int.le_trans (g.mono hk (by omega)) (g.rise (i + d) k h hk)
theorem Good.mono' {n m : Nat} {tf : Nat → Nat → Int} (g : Good n m tf) {i j k : Nat} (hk : k < m) (h : i ≤ j) (hj : j < n) : tf i k ≤ tf j k := by
  have := g.mono (i := i) (d := j - i) hk (by omega)
  rwa [show i + (j - i) = j by omega] at this
abbrev OkC (n m : Nat) (cs : List Cut) : Prop := ∀ c ∈ cs, c.a ≤ c.b ∧ c.Ok n m
theorem ds_nonneg {n m : Nat} {tf : Nat → Nat → Int} (g : Good n m tf) : ∀ {cs : List Cut}, OkC n m cs → 0 ≤ ds tf cs
  | [], _ => Int.le_refl _
  | c :: cs, h => by
    have h1 := h c (List.mem_cons_self ..)
    have h2 := ds_nonneg g (cs := cs) fun x m => h x (List.mem_cons_of_mem _ m)
    have h3 := g.mono' h1.2.w h1.1 h1.2.b
    unfold ds at h2 ⊢
    simp only [List.map_cons, List.sum_cons]
    unfold dl at h2 ⊢
    omega
theorem ds_app {tf : Nat → Nat → Int} {xs ys : List Cut} : ds tf (xs ++ ys) = ds tf xs + ds tf ys := by unfold ds; rw [List.map_append, List.sum_append]
theorem ds_one {tf : Nat → Nat → Int} {c : Cut} : ds tf [c] = dl tf c := by unfold ds; simp
theorem ds_rest {tf : Nat → Nat → Int} : ∀ {cs : List Cut} {k : Nat} {c : Cut}, cs[k]? = some c → ds tf (cs.take k ++ cs.drop (k + 1)) + dl tf c = ds tf cs
  | [], k, c, h => by simp at h
  | x :: xs, 0, c, h => by
    obtain rfl : x = c := by simpa using h
    show ds tf xs + dl tf x = ds tf (x :: xs)
    unfold ds
    simp only [List.map_cons, List.sum_cons]
    omega
  | x :: xs, k + 1, c, h => by
    have := ds_rest (tf := tf) (cs := xs) (k := k) (c := c) h
    show ds tf (x :: (xs.take k ++ xs.drop (k + 1))) + dl tf c = ds tf (x :: xs)
    unfold ds at this ⊢
    simp only [List.map_cons, List.sum_cons]
    omega

/-! ### _law_shares -/
abbrev s__law_shares : Stmt := top 10
abbrev N__law_shares : List Str := ["_law_table_here", "_law_overs", "_law_cuts_here", "_law_more", "_law_share", "_law_k", "_law_cut", "_law_rest", "_law_later", "_law_longer", "_law_before", "_law_after", "_law_lost"]
theorem sc__law_shares : FnScope N__law_shares ["_law_table_here", "_law_overs", "_law_cuts_here", "_law_more"] (defScope s__law_shares) := ⟨rfl, rfl, rfl, by decide +kernel, rfl, by decide +kernel, by decide +kernel⟩
def pr__law_shares (K : PySem.W.Frag) : V → V → V → V → Hp → VK → XK → Prop := fun a0 a1 a2 a3 H Q E => ∃ (t l l2 : Addr) (n m : Nat) (ta : Nat → Addr) (tf : Nat → Nat → Int) (ov : Nat) (cs cs2 : List Cut), a0 = .ref t ∧ a1 = .int (ov : Int) ∧ a2 = .ref l ∧ a3 = .ref l2 ∧ Tab H t n m ta tf ∧ Good n m tf ∧ ov < n ∧ H l = some (.lst (refsC cs)) ∧ AtC H cs ∧ OkC n m cs ∧ cs.length ≤ 10 ∧ H l2 = some (.lst (refsC cs2)) ∧ AtC H cs2 ∧ OkC n m cs2 ∧ cs2.length ≤ 10 ∧ ∀ H', Same H H' → Q (.bl true) H' 
abbrev sp__law_shares (K : PySem.W.Frag) : Sp := Sp4 (pr__law_shares K)
theorem ok__law_shares {P : Program} {w : World} {K : PySem.W.Frag} {mg : Str → Option Value} {base : Heap} {f : Addr} {fd : FuncData} (F : FunD K "_law_shares" "_law_shares" (defArgs s__law_shares) (defBody s__law_shares) (defScope s__law_shares) [] [] f fd) (T : Txt K mg) (d_share_had : Dn P w K mg base CX0 1 "share_had" ["table", "overs", "cuts"] [] (sp_share_had K)) : FnOk P w K mg base CX0 2 f fd ["_law_table_here", "_law_overs", "_law_cuts_here", "_law_more"] (sp__law_shares K) := by
  refine F.ok sc__law_shares (fun vs H Q E h => len4 h) (fun cdv A outer s H vs Q E hr h => ?_)
  obtain ⟨a0, a1, a2, a3, rfl, h⟩ := h
  have hu := hu_of hr
  refine ⟨_, PSs.nox ((pss_cons (ps_set (i := 4) sc__law_shares.nd rfl (by first | exact Or.inl rfl | exact Or.inr rfl) (pe_d d_share_had (hr.mono (by decide)) rfl pass0 (pa_cons (pv 0) (pa_cons (pv 1) (pa_cons (pv 2) pa_nil)))))
      (pss_cons (ps_if (PW.pt (pw_or (pt_not (pt_chain op_le op_le pe_int (pv 4) pe_int)) (pw_or1 (pt_cmpR op_gt (pe_d d_share_had (hr.mono (by decide)) rfl pass0 (pa_cons (pv 0) (pa_cons (pv 1) (pa_cons (pe_op op_addX (pv 2) (pv 3)) pa_nil)))) (pv 4) (nomark _))))) (pss_one (ps_ret pe_bl)) pss_nil)
      (pss_cut (ps_if (PW.pt (pw_and (pt_cmpR op_lt (pe_op op_addX (pv 1) pe_int) (pe_callB call_lenX (by rfl) T.b_len L2.A.boot_len (pa_cons (pv 0) pa_nil)) (nomark _)) (pw_and1 (pt_cmpR op_lt (pe_d d_share_had (hr.mono (by decide)) rfl pass0 (pa_cons (pv 0) (pa_cons (pe_op op_addX (pv 1) pe_int) (pa_cons (pv 2) pa_nil)))) (pv 4) (nomark _))))) (pss_one (ps_ret pe_bl)) pss_nil)
      (pss_cons (ps_for PassesOwn.never rfl (pi_enum (by rfl) T.b_enumerate (pa_cons (pv 2) pa_nil)) (pg_tup rfl (pgs_cons (pg_name (i := 5) sc__law_shares.nd rfl (by first | exact Or.inl rfl | exact Or.inr rfl)) (pgs_cons (pg_name (i := 6) sc__law_shares.nd rfl (by first | exact Or.inl rfl | exact Or.inr rfl)) pgs_nil))) (pss_cons (ps_asg (pv 6) (pg_tup rfl (pgs_cons (pg_name (i := 10) sc__law_shares.nd rfl (by first | exact Or.inl rfl | exact Or.inr rfl)) (pgs_cons (pg_name (i := 11) sc__law_shares.nd rfl (by first | exact Or.inl rfl | exact Or.inr rfl)) (pgs_cons (pg_name (i := 12) sc__law_shares.nd rfl (by first | exact Or.inl rfl | exact Or.inr rfl)) pgs_nil)))))
      (pss_cons (ps_set (i := 7) sc__law_shares.nd rfl (by first | exact Or.inl rfl | exact Or.inr rfl) (pe_op op_addX (pe_slice sl_X (pv 2) po_none (po_some (pv 5))) (pe_slice sl_X (pv 2) (po_some (pe_op op_addX (pv 5) pe_int)) po_none)))
      (pss_cons (ps_set (i := 8) sc__law_shares.nd rfl (by first | exact Or.inl rfl | exact Or.inr rfl) (pe_op op_addX (pv 7) (pe_lst (pa_cons (pe_tup (pa_cons (pv 10) (pa_cons (pe_op op_addX (pv 11) pe_int) (pa_cons (pv 12) pa_nil)))) pa_nil))))
      (pss_cut (ps_if (PW.pt (pw_and (pt_cmpR op_lt (pv 11) (pv 10) (nomark _)) (pw_and1 (pt_cmpR op_lt (pe_d d_share_had (hr.mono (by decide)) rfl pass0 (pa_cons (pv 0) (pa_cons (pv 1) (pa_cons (pv 8) pa_nil)))) (pv 4) (nomark _))))) (pss_one (ps_ret pe_bl)) pss_nil)
      (pss_cons (ps_set (i := 9) sc__law_shares.nd rfl (by first | exact Or.inl rfl | exact Or.inr rfl) (pe_op op_addX (pv 7) (pe_lst (pa_cons (pe_tup (pa_cons (pe_op op_addX (pv 10) pe_int) (pa_cons (pv 11) (pa_cons (pv 12) pa_nil)))) pa_nil))))
      (pss_one (ps_if (PW.pt (pw_and (pt_cmpR op_lt (pe_op op_addX (pv 10) pe_int) (pe_callB call_lenX (by rfl) T.b_len L2.A.boot_len (pa_cons (pv 0) pa_nil)) (nomark _)) (pw_and1 (pt_cmpR op_gt (pe_d d_share_had (hr.mono (by decide)) rfl pass0 (pa_cons (pv 0) (pa_cons (pv 1) (pa_cons (pv 9) pa_nil)))) (pv 4) (nomark _))))) (pss_one (ps_ret pe_bl)) pss_nil))))))))
      (pss_one (ps_ret pe_bl))))))), ?_⟩
  refine go_start (σ := [some a0, some a1, some a2, some a3, none, none, none, none, none, none, none, none, none]) rfl ?_
  try dsimp only [cxOf, Cx.nox, Cx.wish]
  obtain ⟨t, l, l2, n, m, ta, tf, ov, cs, cs2, rfl, rfl, rfl, rfl, tb, gd, hov, el, ac, okc, lc, el2, ac2, ok2, lc2, hq⟩ := h
  have n0 := gd.n0
  have n1 := gd.n1
  have m0 := gd.m0
  have m1 := gd.m1
  walk_at "*"
  refine go_sp3 ⟨t, l, n, m, ta, tf, ov, cs, rfl, rfl, rfl, tb, hov, m0, el, ac, fun c mc => (okc c mc).2, ?_⟩
  rw [share_ds]
  have d0 := ds_nonneg gd okc
  have d2 := ds_nonneg gd ok2
  have z0 := gd.lo ov 0 hov m0
  walk_at "*"
  refine ite_T (decide_eq_true (by omega)) ?_
  walk_at "*"
  refine ite_F (by rw [Bool.not_eq_false']; exact decide_eq_true (by omega)) ?_
  walk_at "*"
  refine go_addL el el2 (szl (by rw [List.length_map, List.length_map]; omega)) ?_
  refine go_new fun l3 H1 h3 s1 e3 => ?_
  replace e3 : H1 l3 = some (.lst (refsC (cs ++ cs2))) := by rw [e3, refsC, refsC, refsC, List.map_append]
  replace tb := tb.same s1
  replace ac := ac.same s1
  replace ac2 := ac2.same s1
  replace el := s1 _ _ el
  walk_at "*"
  refine go_sp3 ⟨t, l3, n, m, ta, tf, ov, cs ++ cs2, rfl, rfl, rfl, tb, hov, m0, e3, fun c mc => (List.mem_append.mp mc).elim (ac c) (ac2 c), fun c mc => (List.mem_append.mp mc).elim (fun z => (okc c z).2) (fun z => (ok2 c z).2), ?_⟩
  rw [share_ds, ds_app]
  walk_at "*"
  refine ite_F (decide_eq_false (by omega)) ?_
  walk_at "*"
  refine go_cut (fun σ' H' => H' = H1 ∧ σ' = [some (.ref t), some (.int (ov : Int)), some (.ref l), some (.ref l2), some (.int (max 0 (tf ov 0 - ds tf cs))), none, none, none, none, none, none, none, none]) ?_ ?_
  · walk_at "*"
    refine go_lenL (.of tb.top) ?_
    rw [lstF_len]
    walk_at "*"
    refine if2 (fun c => ?_) (fun c => ?_)
    · have c := of_decide_eq_true c
      walk_at "*"
      refine go_sp3 ⟨t, l, n, m, ta, tf, ov + 1, cs, rfl, by rw [Int.natCast_add]; rfl, rfl, tb, by omega, m0, el, ac, fun c mc => (okc c mc).2, ?_⟩
      rw [share_ds]
      have := gd.rise ov 0 (by omega) m0
      walk_at "*"
      refine ite_F (decide_eq_false (by omega)) ?_
      walk_at "*"
      exact ⟨rfl, rfl⟩
    · walk_at "*"
      exact ⟨rfl, rfl⟩
  rintro σ' H1 ⟨rfl, rfl⟩
  walk_at "*"
  refine go_enW (.of el) ?_
  refine ForW.it (walk_enum (xs := refsC cs)) (fun i σ H' => Same H1 H' ∧ ∃ v5 v6 v7 v8 v9 v10 v11 v12, σ = [some (.ref t), some (.int (ov : Int)), some (.ref l), some (.ref l2), some (.int (max 0 (tf ov 0 - ds tf cs))), v5, v6, v7, v8, v9, v10, v11, v12]) ⟨.refl _, _, _, _, _, _, _, _, _, rfl⟩ (fun i σ H' _ ⟨s, _⟩ => .of (s _ _ el)) ?_ ?_
  · rintro k x σ H2 H3 hk ⟨s2, v5, v6, v7, v8, v9, v10, v11, v12, rfl⟩ ⟨T, x1, x2, rfl, hT, rfl, e1, e2⟩
    obtain rfl := Option.some.inj e1
    obtain ⟨c, ec, mc, rfl⟩ := refsC_at e2
    have hk : k < cs.length := by rwa [List.length_map] at hk
    refine go_gtup (.of upd_same) rfl ?_
    walk_at "*"
    have sT : Same H1 (upd H2 T (.tup [.int (k : Nat), .ref c.p])) := by walk_at "same"
    generalize upd H2 T (.tup [.int (k : Nat), .ref c.p]) = H3 at sT ⊢
    replace tb := tb.same sT
    replace ac := ac.same sT
    replace el := sT _ _ el
    have hx := ac c mc
    obtain ⟨oa, ok⟩ := okc c mc
    have w1 := ok.w
    have b1 := ok.b
    have a1 := ok.a
    unfold Cut.L at hx
    walk_at "*"
    refine go_slL (.of el) (cut_take (by rw [List.length_map]; omega)) ?_
    intro q1 hq1
    walk_at "*"
    refine go_slL (.of (same_new hq1 _ _ el)) (cut_drop (k := k + 1) (by rw [List.length_map]; omega)) ?_
    intro q2 hq2
    walk_at "*"
    refine go_addL (ge2 upd_same (by walk_at "same")) upd_same (szl (by rw [List.length_take, List.length_drop, List.length_map]; omega)) ?_
    refine go_newS (H0 := H3) (by walk_at "same") fun r H4 nr s4 er => ?_
    replace er : H4 r = some (.lst (refsC (cs.take k ++ cs.drop (k + 1)))) := by rw [er, refsC, refsC, List.map_append, List.map_take, List.map_drop]
    replace tb := tb.same s4
    replace ac := ac.same s4
    replace s4 := sT.trans s4
    have okr : OkC n m (cs.take k ++ cs.drop (k + 1)) := fun c mc => okc c ((List.mem_append.mp mc).elim List.mem_of_mem_take List.mem_of_mem_drop)
    have atr : AtC H4 (cs.take k ++ cs.drop (k + 1)) := fun c mc => ac c ((List.mem_append.mp mc).elim List.mem_of_mem_take List.mem_of_mem_drop)
    have lr : (cs.take k ++ cs.drop (k + 1)).length ≤ 10 := by rw [List.length_append, List.length_take, List.length_drop]; omega
    have dr := ds_rest (tf := tf) ec
    generalize cs.take k ++ cs.drop (k + 1) = rs at er okr atr lr dr
    walk_at "*"
    refine go_new fun q5 H5a n5a s5a e5a => ?_
    walk_at "*"
    refine go_new fun r5 H5b n5b s5b e5b => ?_
    walk_at "*"
    replace tb := (tb.same s5a).same s5b
    replace atr := (atr.same s5a).same s5b
    replace er := s5b _ _ (s5a _ _ er)
    replace s4 := (s4.trans s5a).trans s5b
    replace e5a := s5b _ _ e5a
    refine go_addL er e5b (szl (by rw [List.length_map]; show rs.length + 1 ≤ _; omega)) ?_
    refine go_new fun l5 H5 n5 s5 e5 => ?_
    replace tb := tb.same s5
    replace atr := atr.same s5
    replace er := s5 _ _ er
    replace s4 := s4.trans s5
    replace e5a := s5 _ _ e5a
    replace e5 : H5 l5 = some (.lst (refsC (rs ++ [⟨q5, c.b, c.a + 1, c.w⟩]))) := by rw [e5, refsC, refsC, List.map_append]; rfl
    walk_at "*"
    refine go_cut (fun σ' H' => ∃ v, H' = H5 ∧ σ' = [some (.ref t), some (.int (ov : Int)), some (.ref l), some (.ref l2), some (.int (max 0 (tf ov 0 - ds tf cs))), some (.int (k : Nat)), some (.ref c.p), some (.ref r), some (.ref l5), v, some (.int (c.b : Int)), some (.int (c.a : Int)), some (.int (c.w : Int))]) ?_ ?_
    · walk_at "*"
      refine if2 (fun z => ?_) (fun z => ?_)
      · have z := of_decide_eq_true z
        walk_at "*"
        refine go_sp3 ⟨t, l5, n, m, ta, tf, ov, rs ++ [⟨q5, c.b, c.a + 1, c.w⟩], rfl, rfl, rfl, tb, hov, m0, e5, ?_, ?_, ?_⟩
        · intro x mx
          rcases List.mem_append.mp mx with mx | mx
          · exact atr x mx
          · obtain rfl := List.mem_singleton.mp mx
            exact e5a
        · intro x mx
          rcases List.mem_append.mp mx with mx | mx
          · exact (okr x mx).2
          · obtain rfl := List.mem_singleton.mp mx
            exact ⟨b1, (by show c.a + 1 < n; omega), w1⟩
        rw [share_ds, ds_app, ds_one]
        have := gd.rise c.a c.w (by omega) w1
        unfold dl at dr ⊢
        dsimp only
        walk_at "*"
        refine ite_F (decide_eq_false (by omega)) ?_
        walk_at "*"
        exact ⟨_, rfl, rfl⟩
      · walk_at "*"
        exact ⟨_, rfl, rfl⟩
    rintro σ' H5 ⟨v, rfl, rfl⟩
    walk_at "*"
    refine go_new fun q6 H6a n6a s6a e6a => ?_
    walk_at "*"
    refine go_new fun r6 H6b n6b s6b e6b => ?_
    walk_at "*"
    replace tb := (tb.same s6a).same s6b
    replace atr := (atr.same s6a).same s6b
    replace er := s6b _ _ (s6a _ _ er)
    replace s4 := (s4.trans s6a).trans s6b
    replace e6a := s6b _ _ e6a
    refine go_addL er e6b (szl (by rw [List.length_map]; show rs.length + 1 ≤ _; omega)) ?_
    refine go_new fun l6 H6 n6 s6 e6 => ?_
    replace tb := tb.same s6
    replace atr := atr.same s6
    replace er := s6 _ _ er
    replace s4 := s4.trans s6
    replace e6a := s6 _ _ e6a
    replace e6 : H6 l6 = some (.lst (refsC (rs ++ [⟨q6, c.b + 1, c.a, c.w⟩]))) := by rw [e6, refsC, refsC, List.map_append]; rfl
    walk_at "*"
    refine go_lenL (.of tb.top) ?_
    rw [lstF_len]
    walk_at "*"
    refine if2 (fun z => ?_) (fun z => ?_)
    · have z := of_decide_eq_true z
      walk_at "*"
      refine go_sp3 ⟨t, l6, n, m, ta, tf, ov, rs ++ [⟨q6, c.b + 1, c.a, c.w⟩], rfl, rfl, rfl, tb, hov, m0, e6, ?_, ?_, ?_⟩
      · intro x mx
        rcases List.mem_append.mp mx with mx | mx
        · exact atr x mx
        · obtain rfl := List.mem_singleton.mp mx
          exact e6a
      · intro x mx
        rcases List.mem_append.mp mx with mx | mx
        · exact (okr x mx).2
        · obtain rfl := List.mem_singleton.mp mx
          exact ⟨(by show c.b + 1 < n; omega), a1, w1⟩
      rw [share_ds, ds_app, ds_one]
      have := gd.rise c.b c.w (by omega) w1
      unfold dl at dr ⊢
      dsimp only
      walk_at "*"
      refine ite_F (decide_eq_false (by omega)) ?_
      walk_at "*"
      exact ⟨s4, _, _, _, _, _, _, _, _, rfl⟩
    · walk_at "*"
      exact ⟨s4, _, _, _, _, _, _, _, _, rfl⟩
  · rintro σ H2 ⟨s2, v5, v6, v7, v8, v9, v10, v11, v12, rfl⟩
    walk_at "*"
    exact hq _ (s1.trans s2)

def aimV (f h s u : Int) : Int := if s ≤ h then f * s / h + 1 else f + u * (s - h) / 1000 + 1
theorem aim_mono {f h s s' u : Int} (hf : 0 ≤ f) (hh : 1 ≤ h) (hu : 0 ≤ u) (c : s ≤ s') : aimV f h s u ≤ aimV f h s' u := by
  unfold aimV
  by_cases c1 : s ≤ h
  · rw [if_pos c1]
    by_cases c2 : s' ≤ h
    · rw [if_pos c2]
      have := Int.ediv_le_ediv (show 0 < h by omega) (Int.mul_le_mul_of_nonneg_left c hf)
      omega
    · rw [if_neg c2]
      have h1 := Int.ediv_le_ediv (show 0 < h by omega) (Int.mul_le_mul_of_nonneg_left c1 hf)
      rw [Int.mul_ediv_cancel _ (show h ≠ 0 by omega)] at h1
      have h2 := Int.ediv_nonneg (Int.mul_nonneg hu (show 0 ≤ s' - h by omega)) (show (0 : Int) ≤ 1000 by decide)
      omega
  · rw [if_neg c1, if_neg (by omega)]
    have := Int.ediv_le_ediv (show (0 : Int) < 1000 by decide) (Int.mul_le_mul_of_nonneg_left (show s - h ≤ s' - h by omega) hu)
    omega

/-! ### aim -/
abbrev s_aim : Stmt := top 2
abbrev N_aim : List Str := ["first", "had", "has", "usual"]
theorem sc_aim : FnScope N_aim ["first", "had", "has", "usual"] (defScope s_aim) := ⟨rfl, rfl, rfl, by decide +kernel, rfl, by decide +kernel, by decide +kernel⟩
def pr_aim (K : PySem.W.Frag) : V → V → V → V → Hp → VK → XK → Prop := fun a0 a1 a2 a3 H Q E => ∃ f h s u : Int, a0 = .int f ∧ a1 = .int h ∧ a2 = .int s ∧ a3 = .int u ∧ 0 ≤ f ∧ f ≤ 9999 ∧ 1 ≤ h ∧ h ≤ 1000 ∧ 0 ≤ s ∧ s ≤ 1001 ∧ 0 ≤ u ∧ u ≤ 9999 ∧ Q (.int (aimV f h s u)) H
abbrev sp_aim (K : PySem.W.Frag) : Sp := Sp4 (pr_aim K)
theorem ok_aim {P : Program} {w : World} {K : PySem.W.Frag} {mg : Str → Option Value} {base : Heap} {f : Addr} {fd : FuncData} (F : FunD K "aim" "aim" (defArgs s_aim) (defBody s_aim) (defScope s_aim) [] [] f fd) (T : Txt K mg)  : FnOk P w K mg base CX0 1 f fd ["first", "had", "has", "usual"] (sp_aim K) := by
  refine F.ok sc_aim (fun vs H Q E h => len4 h) (fun cdv A outer s H vs Q E hr h => ?_)
  obtain ⟨a0, a1, a2, a3, rfl, h⟩ := h
  have hu := hu_of hr
  refine ⟨_, PSs.nox ((pss_cons (ps_if (pt_cmpR op_le (pv 2) (pv 1) (nomark _)) (pss_one (ps_ret (pe_op op_addX (pe_op op_fdiv (pe_op op_mulX (pv 0) (pv 2)) (pv 1)) pe_int))) pss_nil)
      (pss_one (ps_ret (pe_op op_addX (pe_op op_addX (pv 0) (pe_op op_fdiv (pe_op op_mulX (pv 3) (pe_op op_sub (pv 2) (pv 1))) pe_int)) pe_int))))), ?_⟩
  refine go_start (σ := [some a0, some a1, some a2, some a3]) rfl ?_
  try dsimp only [cxOf, Cx.nox, Cx.wish]
  obtain ⟨f, h, s, u, rfl, rfl, rfl, rfl, h1, h2, h3, h4, h5, h6, h7, h8, hq⟩ := h
  walk_at "*"
  refine if2 (fun c => ?_) (fun c => ?_)
  · have c := of_decide_eq_true c
    walk_at "*"
    have e : aimV f h s u = f * s / h + 1 := by unfold aimV; rw [if_pos c]
    rw [← e]
    exact hq
  · have c := of_decide_eq_false c
    walk_at "*"
    have e : aimV f h s u = f + u * (s - h) / 1000 + 1 := by unfold aimV; rw [if_neg c]
    rw [← e]
    exact hq
/-! ### _law_aims -/
abbrev s__law_aims : Stmt := top 11
abbrev N__law_aims : List Str := ["_law_table_here", "_law_first", "_law_had", "_law_usual", "_law_k", "_law_row", "_law_aims_here", "_law_ahead", "_law_share", "_law_j"]
theorem sc__law_aims : FnScope N__law_aims ["_law_table_here", "_law_first", "_law_had", "_law_usual"] (defScope s__law_aims) := ⟨rfl, rfl, rfl, by decide +kernel, rfl, by decide +kernel, by decide +kernel⟩
def pr__law_aims (K : PySem.W.Frag) : V → V → V → V → Hp → VK → XK → Prop := fun a0 a1 a2 a3 H Q E => ∃ (t : Addr) (n m : Nat) (ta : Nat → Addr) (tf : Nat → Nat → Int) (f h u : Int), a0 = .ref t ∧ a1 = .int f ∧ a2 = .int h ∧ a3 = .int u ∧ Tab H t n m ta tf ∧ Good n m tf ∧ 0 ≤ f ∧ f ≤ 9999 ∧ 1 ≤ h ∧ h ≤ 1000 ∧ 0 ≤ u ∧ u ≤ 9999 ∧ ∀ H', Same H H' → Q (.bl true) H' 
abbrev sp__law_aims (K : PySem.W.Frag) : Sp := Sp4 (pr__law_aims K)
theorem ok__law_aims {P : Program} {w : World} {K : PySem.W.Frag} {mg : Str → Option Value} {base : Heap} {f : Addr} {fd : FuncData} (F : FunD K "_law_aims" "_law_aims" (defArgs s__law_aims) (defBody s__law_aims) (defScope s__law_aims) [] [] f fd) (T : Txt K mg) (d_aim : Dn P w K mg base CX0 1 "aim" ["first", "had", "has", "usual"] [] (sp_aim K)) : FnOk P w K mg base CX0 2 f fd ["_law_table_here", "_law_first", "_law_had", "_law_usual"] (sp__law_aims K) := by
  refine F.ok sc__law_aims (fun vs H Q E h => len4 h) (fun cdv A outer s H vs Q E hr h => ?_)
  obtain ⟨a0, a1, a2, a3, rfl, h⟩ := h
  have hu := hu_of hr
  refine ⟨_, PSs.nox ((pss_cons (ps_for PassesOwn.never rfl (pi_enum (by rfl) T.b_enumerate (pa_cons (pv 0) pa_nil)) (pg_tup rfl (pgs_cons (pg_name (i := 4) sc__law_aims.nd rfl (by first | exact Or.inl rfl | exact Or.inr rfl)) (pgs_cons (pg_name (i := 5) sc__law_aims.nd rfl (by first | exact Or.inl rfl | exact Or.inr rfl)) pgs_nil))) (pss_cons (ps_set (i := 6) sc__law_aims.nd rfl (by first | exact Or.inl rfl | exact Or.inr rfl) (pe_lc (own := [("_law_share", 8)]) rfl sc__law_aims.nd (pi_X (pv 5)) (blkOk_by (N := N__law_aims) (sc := defScope s__law_aims) (own := [("_law_share", 8)]) (by decide +kernel)) (fun _ _ _ _ _ => (pg_name (i := 8) sc__law_aims.nd rfl (by first | exact Or.inl rfl | exact Or.inr rfl))) (fun _ _ _ _ _ => pts_nil) (fun _ _ _ _ _ => (pe_d d_aim (hr.mono (by decide)) rfl pass0 (pa_cons (pv 1) (pa_cons (pv 2) (pa_cons (pv 8) (pa_cons (pv 3) pa_nil))))))))
      (pss_cons (ps_if (pt_truX (pe_callB (cr_any rfl) (by rfl) T.b_any L2.A.boot_any (pa_cons (pe_lc (own := [("_law_j", 9)]) rfl sc__law_aims.nd (pi_range1 rfl T.b_range (pa_cons (pe_op op_sub (pe_callB call_lenX (by rfl) T.b_len L2.A.boot_len (pa_cons (pv 6) pa_nil)) pe_int) pa_nil)) (blkOk_by (N := N__law_aims) (sc := defScope s__law_aims) (own := [("_law_j", 9)]) (by decide +kernel)) (fun _ _ _ _ _ => (pg_name (i := 9) sc__law_aims.nd rfl (by first | exact Or.inl rfl | exact Or.inr rfl))) (fun _ _ _ _ _ => pts_nil) (fun _ _ _ _ _ => (pe_cmpR op_lt (pe_ix (ix_K (K := K) rfl hu) (pv 6) (pv 9) (fun _ _ => rfl)) (pe_ix (ix_K (K := K) rfl hu) (pv 6) (pe_op (op_addK (K := K) rfl) (pv 9) pe_int) (fun _ _ => rfl)) (nomark _)))) pa_nil))) (pss_one (ps_ret pe_bl)) pss_nil)
      (pss_one (ps_if (pt_cmpR op_gt (pv 4) pe_int (nomark _)) (pss_cons (ps_set (i := 7) sc__law_aims.nd rfl (by first | exact Or.inl rfl | exact Or.inr rfl) (pe_lc (own := [("_law_share", 8)]) rfl sc__law_aims.nd (pi_X (pe_ix (ix_X hu) (pv 0) (pe_op op_sub (pv 4) pe_int) (fun _ _ => rfl))) (blkOk_by (N := N__law_aims) (sc := defScope s__law_aims) (own := [("_law_share", 8)]) (by decide +kernel)) (fun _ _ _ _ _ => (pg_name (i := 8) sc__law_aims.nd rfl (by first | exact Or.inl rfl | exact Or.inr rfl))) (fun _ _ _ _ _ => pts_nil) (fun _ _ _ _ _ => (pe_d d_aim (hr.mono (by decide)) rfl pass0 (pa_cons (pv 1) (pa_cons (pv 2) (pa_cons (pv 8) (pa_cons (pv 3) pa_nil))))))))
      (pss_one (ps_if (pt_truX (pe_callB (cr_any rfl) (by rfl) T.b_any L2.A.boot_any (pa_cons (pe_lc (own := [("_law_j", 9)]) rfl sc__law_aims.nd (pi_range1 rfl T.b_range (pa_cons (pe_callB call_lenX (by rfl) T.b_len L2.A.boot_len (pa_cons (pv 6) pa_nil)) pa_nil)) (blkOk_by (N := N__law_aims) (sc := defScope s__law_aims) (own := [("_law_j", 9)]) (by decide +kernel)) (fun _ _ _ _ _ => (pg_name (i := 9) sc__law_aims.nd rfl (by first | exact Or.inl rfl | exact Or.inr rfl))) (fun _ _ _ _ _ => pts_nil) (fun _ _ _ _ _ => (pe_cmpR op_gt (pe_ix (ix_K (K := K) rfl hu) (pv 7) (pv 9) (fun _ _ => rfl)) (pe_ix (ix_K (K := K) rfl hu) (pv 6) (pv 9) (fun _ _ => rfl)) (nomark _)))) pa_nil))) (pss_one (ps_ret pe_bl)) pss_nil))) pss_nil)))))
      (pss_one (ps_ret pe_bl)))), ?_⟩
  refine go_start (σ := [some a0, some a1, some a2, some a3, none, none, none, none, none, none]) rfl ?_
  try dsimp only [cxOf, Cx.nox, Cx.wish]
  obtain ⟨t, n, m, ta, tf, f, h, u, rfl, rfl, rfl, rfl, tb, gd, f0, f1, h0, h1, u0, u1, hq⟩ := h
  have n0 := gd.n0
  have n1 := gd.n1
  have m0 := gd.m0
  have m1 := gd.m1
  walk_at "*"
  refine go_enW (.of tb.top) ?_
  refine ForW.it (walk_enum (xs := lstF n fun i => .ref (ta i))) (fun i σ H' => Same H H' ∧ ∃ v4 v5 v6 v7 v8 v9, σ = [some (.ref t), some (.int f), some (.int h), some (.int u), v4, v5, v6, v7, v8, v9]) ⟨.refl _, _, _, _, _, _, _, rfl⟩ (fun i σ H' _ ⟨s, _⟩ => .of (s _ _ tb.top)) ?_ ?_
  · rintro k x σ H2 H3 hk ⟨s2, v4, v5, v6, v7, v8, v9, rfl⟩ ⟨T, x1, x2, rfl, hT, rfl, e1, e2⟩
    rw [lstF_len] at hk
    obtain rfl := Option.some.inj e1
    replace e2 := (lstF_at (f := fun i => V.ref (ta i)) hk).symm.trans e2
    obtain rfl := Option.some.inj e2
    refine go_gtup (.of upd_same) rfl ?_
    walk_at "*"
    have sT : Same H (upd H2 T (.tup [.int (k : Nat), .ref (ta k)])) := by walk_at "same"
    generalize upd H2 T (.tup [.int (k : Nat), .ref (ta k)]) = H3 at sT ⊢
    replace tb := tb.same sT
    refine go_iL (.of (tb.row k hk)) ?_
    have AIM : ∀ (ta' : Addr) (j : Nat) (H4 : Hp), j < n → Tab H4 t n m ta tf → True := fun _ _ _ _ _ => trivial
    refine LcW.list (xs := lstI m (tf k)) (fun D i ys H' => ys = lstI i (fun j => aimV f h (tf k j) u)) (by rw [lstF_len]; omega) (.of (tb.row k hk)) (fun D hD => rfl) ?_ ?_
    · rintro D i x ys H9 hD hi hl rfl s e yes no hy hn
      have li : i < m := by have := (List.getElem?_eq_some_iff.mp hi).1; rwa [lstF_len] at this
      rw [lstF_at li] at hi
      obtain rfl := Option.some.inj hi
      have b := gd.lo k i hk li
      refine go_name rfl ⟨rfl, ?_⟩
      walk_at "*"
      refine go_sp4 ⟨f, h, tf k i, u, rfl, rfl, rfl, rfl, by omega, by omega, by omega, by omega, by omega, by omega, by omega, by omega, ?_⟩
      refine hy _ _ (.refl _) ?_
      rw [lstF_app]
      exact lstF_congr fun j hj => by by_cases z : j = i <;> simp [z]
    rintro D ys H4 hD s4 e4 hl rfl
    rw [lstF_len] at e4
    replace tb := tb.same s4
    have sT := sT.trans s4
    walk_at "*"
    rw [lstF_len]
    walk_at "*"
    refine LcW.it walk_range (fun D i ys H' => Same H4 H' ∧ ys = (List.replicate i false).map V.bl) (by omega) (fun D hD => ⟨same_new hD, rfl⟩) (fun _ _ _ _ _ _ _ _ => trivial) ?_ ?_
    · rintro D' j x ys H5 H6 hD' hj hl' e' ⟨s, rfl⟩ ⟨rfl, rfl⟩ yes no hy hn
      have b := gd.fall k j hk (by omega)
      have b' := aim_mono (s := tf k (j + 1)) (s' := tf k j) f0 h0 u0 b
      refine go_name rfl ⟨rfl, ?_⟩
      walk_at "*"
      refine go_xL (.of (s _ _ e4)) (lstF_atI (by omega) (by omega)) ?_
      walk_at "*"
      refine go_xL (.of (s _ _ e4)) (lstF_atI (by omega) (by omega)) ?_
      walk_at "*"
      refine hy _ _ e' ⟨same_mut s hD', ?_⟩
      rw [show (0 + (j : Int)).toNat = j by omega, show (0 + (j : Int) + 1).toNat = j + 1 by omega, show decide (aimV f h (tf k j) u < aimV f h (tf k (j + 1)) u) = false from decide_eq_false (by omega), List.replicate_succ', List.map_append]
      rfl
    rintro D' ys H5 hD' e5 hl' ⟨s5, rfl⟩
    walk_at "*"
    refine go_any (.of e5) ?_
    walk_at "*"
    refine ite_F (by simp) ?_
    replace tb := tb.same s5
    have e45 := s5 _ _ e4
    have sT := sT.trans s5
    walk_at "*"
    refine if2 (fun c => ?_) (fun c => ?_)
    · have c := of_decide_eq_true c
      obtain ⟨k', rfl⟩ : ∃ k' : Nat, k = k' + 1 := ⟨k - 1, by omega⟩
      walk_at "*"
      refine go_xL (.of tb.top) (lstF_atI (by omega) (by omega)) ?_
      rw [show (((k' + 1 : Nat) : Int) - 1).toNat = k' by omega]
      refine go_iL (.of (tb.row k' (by omega))) ?_
      refine LcW.list (xs := lstI m (tf k')) (fun D i ys H' => ys = lstI i (fun j => aimV f h (tf k' j) u)) (by rw [lstF_len]; omega) (.of (tb.row k' (by omega))) (fun D hD => rfl) ?_ ?_
      · rintro D i x ys H9 hD hi hl rfl s e yes no hy hn
        have li : i < m := by have := (List.getElem?_eq_some_iff.mp hi).1; rwa [lstF_len] at this
        rw [lstF_at li] at hi
        obtain rfl := Option.some.inj hi
        have b := gd.lo k' i (by omega) li
        refine go_name rfl ⟨rfl, ?_⟩
        walk_at "*"
        refine go_sp4 ⟨f, h, tf k' i, u, rfl, rfl, rfl, rfl, by omega, by omega, by omega, by omega, by omega, by omega, by omega, by omega, ?_⟩
        refine hy _ _ (.refl _) ?_
        rw [lstF_app]
        exact lstF_congr fun j hj => by by_cases z : j = i <;> simp [z]
      rintro D2 ys H6 hD2 s6 e6 hl2 rfl
      rw [lstF_len] at e6
      have e46 := s6 _ _ e45
      have sT := sT.trans s6
      walk_at "*"
      rw [lstF_len]
      walk_at "*"
      refine LcW.it walk_range (fun D i ys H' => Same H6 H' ∧ ys = (List.replicate i false).map V.bl) (by omega) (fun D hD => ⟨same_new hD, rfl⟩) (fun _ _ _ _ _ _ _ _ => trivial) ?_ ?_
      · rintro D' j x ys H7 H8 hD' hj hl' e' ⟨s, rfl⟩ ⟨rfl, rfl⟩ yes no hy hn
        have b := gd.rise k' j hk (by omega)
        have b' := aim_mono (s := tf k' j) (s' := tf (k' + 1) j) f0 h0 u0 b
        refine go_name rfl ⟨rfl, ?_⟩
        walk_at "*"
        refine go_xL (.of (s _ _ e6)) (lstF_atI (by omega) (by omega)) ?_
        walk_at "*"
        refine go_xL (.of (s _ _ e46)) (lstF_atI (by omega) (by omega)) ?_
        walk_at "*"
        refine hy _ _ e' ⟨same_mut s hD', ?_⟩
        rw [show (0 + (j : Int)).toNat = j by omega, show decide (aimV f h (tf k' j) u > aimV f h (tf (k' + 1) j) u) = false from decide_eq_false (by omega), List.replicate_succ', List.map_append]
        rfl
      rintro D3 ys H7 hD3 e7 hl3 ⟨s7, rfl⟩
      walk_at "*"
      refine go_any (.of e7) ?_
      walk_at "*"
      refine ite_F (by simp) ?_
      walk_at "*"
      exact ⟨sT.trans s7, _, _, _, _, _, _, rfl⟩
    · walk_at "*"
      exact ⟨sT, _, _, _, _, _, _, rfl⟩
  · rintro σ H2 ⟨s2, v4, v5, v6, v7, v8, v9, rfl⟩
    walk_at "*"
    exact hq _ s2

theorem Good.cut {n n' m : Nat} {tf : Nat → Nat → Int} (g : Good n m tf) (h0 : 1 ≤ n') (h : n' ≤ n) : Good n' m tf where
  n0 := h0
  n1 := Nat.le_trans h g.n1
  m0 := g.m0
  m1 := g.m1
  lo := fun i k hi hk => g.lo i k (by omega) hk
  fall := fun i k hi hk => g.fall i k (by omega) hk
  rise := fun i k hi hk => g.rise i k (by omega) hk
  zero := g.zero
theorem pair_map {f h u : Int} (hf : 0 ≤ f) (hh : 1 ≤ h) (hu : 0 ≤ u) : ∀ {ns : List Int}, ns.Pairwise (· ≤ ·) → (ns.map fun s => aimV f h s u).Pairwise (· ≤ ·)
  | [], _ => .nil
  | x :: xs, p => .cons (fun y m => by
      obtain ⟨z, mz, rfl⟩ := List.mem_map.mp m
      exact aim_mono hf hh hu (List.rel_of_pairwise_cons p mz)) (pair_map hf hh hu (List.Pairwise.of_cons p))

/-! ### law -/
abbrev s_law : Stmt := top 12
abbrev N_law : List Str := ["_law_script", "_law_table_here", "_law_pot_here", "_law_overs", "_law_cuts_here", "_law_first", "_law_had", "_law_usual", "_law_shares_here", "_law_aims_here", "_law_share"]
theorem sc_law : FnScope N_law ["_law_script"] (defScope s_law) := ⟨rfl, rfl, rfl, by decide +kernel, rfl, by decide +kernel, by decide +kernel⟩
def pr_law (K : PySem.W.Frag) : V → Hp → VK → XK → Prop := fun a0 H Q E => ∃ (a : Addr) (ns : List Int), a0 = .ref a ∧ SqL K H a (ns.map V.int) ∧ ns.length ≤ 63 ∧ ∀ H', Q (.bl true) H' 
abbrev sp_law (K : PySem.W.Frag) : Sp := Sp1 (pr_law K)
theorem ok_law {P : Program} {w : World} {K : PySem.W.Frag} {mg : Str → Option Value} {base : Heap} {f : Addr} {fd : FuncData} (F : FunD K "law" "law" (defArgs s_law) (defBody s_law) (defScope s_law) [] [] f fd) (T : Txt K mg) (d__law_aims : Dn P w K mg base CX0 2 "_law_aims" ["_law_table_here", "_law_first", "_law_had", "_law_usual"] [] (sp__law_aims K)) (d__law_cell : Dn P w K mg base CX0 1 "_law_cell" ["_law_script", "_law_k"] [] (sp__law_cell K)) (d__law_cuts : Dn P w K mg base CX0 3 "_law_cuts" ["_law_table_here", "_law_pot_here", "_law_most"] [] (sp__law_cuts K)) (d__law_pot : Dn P w K mg base CX0 1 "_law_pot" ["_law_cell_here"] [] (sp__law_pot K)) (d__law_shares : Dn P w K mg base CX0 2 "_law_shares" ["_law_table_here", "_law_overs", "_law_cuts_here", "_law_more"] [] (sp__law_shares K)) (d__law_table : Dn P w K mg base CX0 3 "_law_table" ["_law_script"] [] (sp__law_table K)) (d__law_take : Dn P w K mg base CX0 2 "_law_take" ["_law_pot_here", "_law_many"] [] (sp__law_take K)) (d_aim : Dn P w K mg base CX0 1 "aim" ["first", "had", "has", "usual"] [] (sp_aim K)) (d_share_had : Dn P w K mg base CX0 1 "share_had" ["table", "overs", "cuts"] [] (sp_share_had K)) : FnOk P w K mg base CX0 4 f fd ["_law_script"] (sp_law K) := by
  refine F.ok sc_law (fun vs H Q E h => len1 h) (fun cdv A outer s H vs Q E hr h => ?_)
  obtain ⟨a0, rfl, h⟩ := h
  have hu := hu_of hr
  refine ⟨_, PSs.nox ((pss_cons (ps_set (i := 1) sc_law.nd rfl (by first | exact Or.inl rfl | exact Or.inr rfl) (pe_d d__law_table (hr.mono (by decide)) rfl pass0 (pa_cons (pv 0) pa_nil)))
      (pss_cons (ps_set (i := 2) sc_law.nd rfl (by first | exact Or.inl rfl | exact Or.inr rfl) (pe_d d__law_pot (hr.mono (by decide)) rfl pass0 (pa_cons (pe_op op_fdiv (pe_d d__law_cell (hr.mono (by decide)) rfl pass0 (pa_cons (pv 0) (pa_cons pe_int pa_nil))) pe_int) pa_nil)))
      (pss_cons (ps_set (i := 3) sc_law.nd rfl (by first | exact Or.inl rfl | exact Or.inr rfl) (pe_d d__law_take (hr.mono (by decide)) rfl pass0 (pa_cons (pv 2) (pa_cons (pe_callB call_lenX (by rfl) T.b_len L2.A.boot_len (pa_cons (pv 1) pa_nil)) pa_nil))))
      (pss_cons (ps_set (i := 4) sc_law.nd rfl (by first | exact Or.inl rfl | exact Or.inr rfl) (pe_d d__law_cuts (hr.mono (by decide)) rfl pass0 (pa_cons (pv 1) (pa_cons (pv 2) (pa_cons pe_int pa_nil)))))
      (pss_cons (ps_set (i := 5) sc_law.nd rfl (by first | exact Or.inl rfl | exact Or.inr rfl) (pe_d d__law_take (hr.mono (by decide)) rfl pass0 (pa_cons (pv 2) (pa_cons pe_int pa_nil))))
      (pss_cons (ps_set (i := 6) sc_law.nd rfl (by first | exact Or.inl rfl | exact Or.inr rfl) (pe_op op_addX pe_int (pe_d d__law_take (hr.mono (by decide)) rfl pass0 (pa_cons (pv 2) (pa_cons pe_int pa_nil)))))
      (pss_cons (ps_set (i := 7) sc_law.nd rfl (by first | exact Or.inl rfl | exact Or.inr rfl) (pe_d d__law_take (hr.mono (by decide)) rfl pass0 (pa_cons (pv 2) (pa_cons pe_int pa_nil))))
      (pss_cons (ps_if (pt_not (pt_truX (pe_d d__law_shares (hr.mono (by decide)) rfl pass0 (pa_cons (pv 1) (pa_cons (pv 3) (pa_cons (pv 4) (pa_cons (pe_d d__law_cuts (hr.mono (by decide)) rfl pass0 (pa_cons (pv 1) (pa_cons (pv 2) (pa_cons pe_int pa_nil)))) pa_nil))))))) (pss_one (ps_ret pe_bl)) pss_nil)
      (pss_cons (ps_set (i := 8) sc_law.nd rfl (by first | exact Or.inl rfl | exact Or.inr rfl) (pe_lst (pa_cons (pe_d d_share_had (hr.mono (by decide)) rfl pass0 (pa_cons (pv 1) (pa_cons (pv 3) (pa_cons (pv 4) pa_nil)))) (pa_cons (pe_op op_sub (pv 6) pe_int) (pa_cons (pv 6) (pa_cons (pe_callB (call_mn2 rfl) (by rfl) T.b_min L2.A.boot_min (pa_cons pe_int (pa_cons (pe_op op_addX (pv 6) pe_int) pa_nil))) (pa_cons pe_int (pa_cons pe_int pa_nil))))))))
      (pss_cons (ps_expr (pe_bm PySem.F.plainAttrs_list PySem.F.slot_list_append PySem.F.type_list_append mt_append (pv 8) (pa_cons (pe_d d__law_take (hr.mono (by decide)) rfl pass0 (pa_cons (pv 2) (pa_cons pe_int pa_nil))) pa_nil)))
      (pss_cons (ps_setLc (i := 9) (own := [("_law_share", 10)]) rfl sc_law.nd rfl rfl (sw_true rfl rfl rfl (by decide +kernel)) (pi_X (pe_callB cr_sorted (by rfl) T.b_sorted L2.A.boot_sorted (pa_cons (pv 8) pa_nil))) (blkOk_by (N := N_law) (sc := defScope s_law) (own := [("_law_share", 10)]) (by decide +kernel)) (fun _ _ _ _ _ => (pg_name (i := 10) sc_law.nd rfl (by first | exact Or.inl rfl | exact Or.inr rfl))) (fun _ _ _ _ _ => pts_nil) (fun _ _ _ _ _ => (pe_d d_aim (hr.mono (by decide)) rfl pass0 (pa_cons (pv 5) (pa_cons (pv 6) (pa_cons (pv 10) (pa_cons (pv 7) pa_nil)))))))
      (pss_cons (ps_if (pt_cmpR (op_neX hr.units) (pv 9) (pe_callB cr_sorted (by rfl) T.b_sorted L2.A.boot_sorted (pa_cons (pv 9) pa_nil)) (nomark _)) (pss_one (ps_ret pe_bl)) pss_nil)
      (pss_one (ps_ret (pe_d d__law_aims (hr.mono (by decide)) rfl pass0 (pa_cons (pe_slice sl_X (pv 1) po_none (po_some pe_int)) (pa_cons (pv 5) (pa_cons (pv 6) (pa_cons (pv 7) pa_nil)))))))))))))))))))), ?_⟩
  refine go_start (σ := [some a0, none, none, none, none, none, none, none, none, none, none]) rfl ?_
  try dsimp only [cxOf, Cx.nox, Cx.wish]
  obtain ⟨a, ns, rfl, hS, hn, hq⟩ := h
  walk_at "*"
  refine go_sp1 ⟨a, ns, rfl, hS, hn, fun t n m ta tf H1 s1 tb gd => ?_⟩
  walk_at "*"
  refine go_sp2 ⟨a, ns, rfl, rfl, seqL_same hS s1, fun z => ?_⟩
  walk_at "*"
  refine go_sp1 ⟨_, rfl, fun p H2 hp s2 p2 => ?_⟩
  have tb2 := tb.same s2
  have n0 := gd.n0
  have n1 := gd.n1
  have m0 := gd.m0
  have m1 := gd.m1
  have np1 : ∀ i, i < n → ta i ≠ p := fun i hi => ne_of_none (tb.row i hi) hp
  have np2 : t ≠ p := ne_of_none tb.top hp
  walk_at "*"
  refine go_lenL (.of tb2.top) ?_
  rw [lstF_len]
  walk_at "*"
  refine go_sp2 ⟨p, 0, _, rfl, rfl, p2, by omega, by omega, by omega, fun ov H3 v0 v1 k3 p3 => ?_⟩
  have tb3 := Tab.kp tb hp tb2 k3
  obtain ⟨ov, rfl⟩ : ∃ b' : Nat, ov = (b' : Int) := ⟨ov.toNat, by omega⟩
  walk_at "*"
  refine go_sp3 ⟨t, p, n, m, ta, tf, _, _, rfl, rfl, rfl, tb3, gd, np1, np2, p3, by omega, by omega, by omega, fun l cs H4 hl ecs atc lcs okc k4 p4 => ?_⟩
  have lp : l ≠ p := p3.ne hl
  have cp : ∀ c ∈ cs, c.p ≠ p := fun c mc => p3.ne (okc c mc).1
  have S : Same H H4 := same_kp (same_kp (s1.trans s2) k3 (s1.free hp)) k4 (s1.free hp)
  have tb4 := Tab.kp tb hp tb3 k4
  walk_at "*"
  refine go_sp2 ⟨p, _, _, rfl, rfl, p4, by omega, by omega, by omega, fun f H5 f0 f1 k5 p5 => ?_⟩
  walk_at "*"
  refine go_sp2 ⟨p, _, _, rfl, rfl, p5, by omega, by omega, by omega, fun h H6 h0 h1 k6 p6 => ?_⟩
  walk_at "*"
  refine go_sp2 ⟨p, _, _, rfl, rfl, p6, by omega, by omega, by omega, fun u H7 u0 u1 k7 p7 => ?_⟩
  have k47 := (k5.trans k6).trans k7
  have tb7 := Tab.kp tb hp tb4 k47
  walk_at "*"
  refine go_sp3 ⟨t, p, n, m, ta, tf, _, _, rfl, rfl, rfl, tb7, gd, np1, np2, p7, by omega, by omega, by omega, fun l2 cs2 H8 hl2 ecs2 atc2 lcs2 okc2 k8 p8 => ?_⟩
  have k48 := k47.trans k8
  have tb8 := Tab.kp tb hp tb4 k48
  have S8 : Same H H8 := same_kp S k48 (s1.free hp)
  have ecs8 := k48 _ _ ecs lp
  have atc8 : AtC H8 cs := fun c mc => k48 _ _ (atc c mc) (cp c mc)
  walk_at "*"
  refine go_sp4 ⟨t, l, l2, n, m, ta, tf, ov, cs, cs2, rfl, rfl, rfl, rfl, tb8, gd, by omega, ecs8, atc8, fun c mc => (okc c mc).2, lcs, ecs2, atc2, fun c mc => (okc2 c mc).2, lcs2, fun H9 s9 => ?_⟩
  have tb9 := tb8.same s9
  walk_at "*"
  refine go_sp3 ⟨t, l, n, m, ta, tf, ov, cs, rfl, rfl, rfl, tb9, by omega, m0, s9 _ _ ecs8, atc8.same s9, fun c mc => (okc c mc).2.2, ?_⟩
  rw [share_ds]
  have d0 := ds_nonneg gd (cs := cs) fun c mc => (okc c mc).2
  have z0 := gd.lo ov 0 (by omega) m0
  have x0 : 0 ≤ max 0 (tf ov 0 - ds tf cs) ∧ max 0 (tf ov 0 - ds tf cs) ≤ 1000 := by omega
  generalize max 0 (tf ov 0 - ds tf cs) = X at x0 ⊢
  walk_at "*"
  refine go_newS (H0 := H9) (.refl _) fun r HA nr sA er => ?_
  have pA := (p8.same s9).same sA
  have rp : r ≠ p := (p8.same s9).ne nr
  walk_at "*"
  refine go_sp2 ⟨p, _, _, rfl, rfl, pA, by omega, by omega, by omega, fun y HB y0 y1 kB pB => ?_⟩
  have erB := kB _ _ er rp
  have tbB := Tab.kp tb hp (tb9.same sA) kB
  have SB : Same H HB := same_kp ((S8.trans s9).trans sA) kB (s1.free hp)
  walk_at "*"
  have H9r : H r = none := (S8.trans s9).free nr
  have tbC := Tab.kp tb9 nr tbB (Kp.upd (o := .lst ([.int X, .int (1 + h - 1), .int (1 + h), .int (min 1000 (1 + h + 1)), .int 0, .int 1000] ++ [.int y])))
  have SC : Same H (upd HB r (.lst ([.int X, .int (1 + h - 1), .int (1 + h), .int (min 1000 (1 + h + 1)), .int 0, .int 1000] ++ [.int y]))) := same_mut SB H9r
  refine go_sorted (ns := [X, 1 + h - 1, 1 + h, min 1000 (1 + h + 1), 0, 1000, y]) (.of upd_same) (Nat.le_of_ble_eq_true rfl) fun ns' q hp' hs' hq' => ?_
  have bd : ∀ s ∈ ns', 0 ≤ s ∧ s ≤ 1000 := fun s ms => by
    have := hp'.subset ms
    simp only [List.mem_cons, List.not_mem_nil, or_false] at this
    omega
  have ln' : ns'.length = 7 := hp'.length_eq
  replace SC := SC.trans (same_new (o := .lst (ns'.map V.int)) hq')
  replace tbC := tbC.same (same_new (o := .lst (ns'.map V.int)) hq')
  have eq' : upd (upd HB r (.lst ([.int X, .int (1 + h - 1), .int (1 + h), .int (min 1000 (1 + h + 1)), .int 0, .int 1000] ++ [.int y]))) q (.lst (ns'.map V.int)) q = _ := upd_same
  walk_at "*"
  generalize upd (upd HB r _) q (HO.lst (ns'.map V.int)) = HC at SC tbC eq' ⊢
  refine go_iL (.of eq') ?_
  refine LcW.list (xs := ns'.map V.int) (fun D i ys H' => ys = ((ns'.take i).map fun s => aimV f (1 + h) s u).map V.int) (by rw [List.length_map]; omega) (.of eq') (fun D hD => rfl) ?_ ?_
  · rintro D i x ys H9 hD hi hl rfl s e yes no hy hn
    obtain ⟨z, rfl, hz⟩ := int_at hi
    have b := bd z (List.mem_of_getElem? hz)
    refine go_name rfl ⟨rfl, ?_⟩
    walk_at "*"
    refine go_sp4 ⟨f, 1 + h, z, u, rfl, rfl, rfl, rfl, by omega, by omega, by omega, by omega, by omega, by omega, by omega, by omega, ?_⟩
    refine hy _ _ (.refl _) ?_
    rw [take_snoc hz, List.map_append, List.map_append]
    rfl
  rintro D ys HD hD sD eD hl rfl
  rw [List.length_map, List.take_length] at eD
  have sorted' := pair_map (f := f) (h := 1 + h) (u := u) f0 (by omega) u0 hs'
  have l7 : (ns'.map fun s => aimV f (1 + h) s u).length = 7 := by rw [List.length_map]; exact ln'
  generalize (ns'.map fun s => aimV f (1 + h) s u) = as at eD sorted' l7
  walk_at "*"
  refine go_sorted (.of eD) (by omega) fun as' q2 hp2 hs2 hq2 => ?_
  obtain rfl := perm_eq hp2 hs2 sorted'
  walk_at "*"
  refine go_neL (.of (same_new hq2 _ _ eD)) (.of upd_same) (ints_ok _) (ints_ok _) ?_
  rw [eqVs_refl (ints_ok _)]
  walk_at "*"
  replace tbC := (tbC.same sD).same (same_new (o := .lst (as'.map V.int)) hq2)
  refine go_slL (.of tbC.top) (lstF_cutM (m := 20)) ?_
  refine go_new fun d HE nd sE eE => ?_
  have nE : ∀ i, i < n → ta i ≠ d := fun i hi => ne_of_none (tbC.row i hi) nd
  replace tbC := tbC.same sE
  walk_at "*"
  refine go_sp4 ⟨d, min 20 n, m, ta, tf, f, 1 + h, u, rfl, rfl, rfl, rfl, ⟨eE, fun i hi => tbC.row i (by omega), fun i hi => nE i (by omega)⟩, gd.cut (by omega) (by omega), by omega, by omega, by omega, by omega, by omega, by omega, fun HF sF => ?_⟩
  exact hq _
/-! ### the head -/
def D__law_mixed : He.DefD := ⟨("_law_mixed", none), "_law_mixed", "_law_mixed", defArgs s__law_mixed, defBody s__law_mixed, defScope s__law_mixed, [], []⟩
def D__law_take : He.DefD := ⟨("_law_take", none), "_law_take", "_law_take", defArgs s__law_take, defBody s__law_take, defScope s__law_take, [], []⟩
def D__law_pot : He.DefD := ⟨("_law_pot", none), "_law_pot", "_law_pot", defArgs s__law_pot, defBody s__law_pot, defScope s__law_pot, [], []⟩
def D__law_cell : He.DefD := ⟨("_law_cell", none), "_law_cell", "_law_cell", defArgs s__law_cell, defBody s__law_cell, defScope s__law_cell, [], []⟩
def D__law_table : He.DefD := ⟨("_law_table", none), "_law_table", "_law_table", defArgs s__law_table, defBody s__law_table, defScope s__law_table, [], []⟩
def D_share_had : He.DefD := ⟨("share_had", none), "share_had", "share_had", defArgs s_share_had, defBody s_share_had, defScope s_share_had, [], []⟩
def D__law_cuts : He.DefD := ⟨("_law_cuts", none), "_law_cuts", "_law_cuts", defArgs s__law_cuts, defBody s__law_cuts, defScope s__law_cuts, [], []⟩
def D__law_shares : He.DefD := ⟨("_law_shares", none), "_law_shares", "_law_shares", defArgs s__law_shares, defBody s__law_shares, defScope s__law_shares, [], []⟩
def D_aim : He.DefD := ⟨("aim", none), "aim", "aim", defArgs s_aim, defBody s_aim, defScope s_aim, [], []⟩
def D__law_aims : He.DefD := ⟨("_law_aims", none), "_law_aims", "_law_aims", defArgs s__law_aims, defBody s__law_aims, defScope s__law_aims, [], []⟩
def D_law : He.DefD := ⟨("law", none), "law", "law", defArgs s_law, defBody s_law, defScope s_law, [], []⟩
def fn : List He.DefD := [D__law_mixed, D__law_take, D__law_pot, D__law_cell, D__law_table, D_share_had, D__law_cuts, D__law_shares, D_aim, D__law_aims, D_law]
def fa : List He.Fa := [.glo "_law_mixed", .glo "_law_take", .glo "_law_pot", .glo "_law_cell", .glo "_law_table", .glo "share_had", .glo "_law_cuts", .glo "_law_shares", .glo "aim", .glo "_law_aims", .glo "law", .free "any", .free "enumerate", .free "len", .free "max", .free "min", .free "range", .free "reversed", .free "sorted"]
abbrev R : PySem.W.OpenRow := PySem.W.OpenLaw.row PySem.Challenge.rw_inningsbook_k64_whole_rain
abbrev hk : PySem.W.Hook := He.hookD 4 fa fn
def ob (s : PySem.W.SharedT) : He.AlD := He.obsDG 4 fa fn (HandSHeadRun.getT s)
theorem ob_eq (s : PySem.W.SharedT) : ob s = hk.obs s.abs := He.obsDG_eq (HandSHeadRun.getT_eq s)
abbrev loose : List Str := (["share_had", "aim", "_law_cell", "_law_mixed", "_law_take", "_law_pot", "_law_table", "_law_cuts", "_law_shares", "_law_aims"] : List Str)
theorem run (w : World) : HandSHeadRun.RunEq R (PySem.W.view R.prog [12]) hk ob 3000 loose w := by
  intro os
  kernel_rfl
theorem facts {P : Program} {w : World} {K : PySem.W.Frag} {h : Heap} {mg : Str → Option Value} {f : Addr} (X : K.In h) (G : h.Ns mainGlobals mg) (hfa : mg ("law" : Str) = some (.ref f)) (c : He.SaysD fa fn K) :
    ∃ fd : FuncData, (∀ (s : Shared) (v : Value), BindsTo s fd ⟨[v], []⟩ [("_law_script", v)]) ∧ ∀ base : Heap, K.In base → base.Ns mainGlobals mg → FnOk P w K mg base CX0 4 f fd ["_law_script"] (sp_law K) := by
  have T : Txt K mg := ⟨He.free_ok X G (c.fact 11 (f := .free "any") rfl), He.free_ok X G (c.fact 12 (f := .free "enumerate") rfl), He.free_ok X G (c.fact 13 (f := .free "len") rfl), He.free_ok X G (c.fact 14 (f := .free "max") rfl), He.free_ok X G (c.fact 15 (f := .free "min") rfl), He.free_ok X G (c.fact 16 (f := .free "range") rfl), He.free_ok X G (c.fact 17 (f := .free "reversed") rfl), He.free_ok X G (c.fact 18 (f := .free "sorted") rfl)⟩
  obtain ⟨fd__law_mixed, F__law_mixed⟩ := c.def_ 0 (d := D__law_mixed) rfl
  obtain ⟨fd__law_take, F__law_take⟩ := c.def_ 1 (d := D__law_take) rfl
  obtain ⟨fd__law_pot, F__law_pot⟩ := c.def_ 2 (d := D__law_pot) rfl
  obtain ⟨fd__law_cell, F__law_cell⟩ := c.def_ 3 (d := D__law_cell) rfl
  obtain ⟨fd__law_table, F__law_table⟩ := c.def_ 4 (d := D__law_table) rfl
  obtain ⟨fd_share_had, F_share_had⟩ := c.def_ 5 (d := D_share_had) rfl
  obtain ⟨fd__law_cuts, F__law_cuts⟩ := c.def_ 6 (d := D__law_cuts) rfl
  obtain ⟨fd__law_shares, F__law_shares⟩ := c.def_ 7 (d := D__law_shares) rfl
  obtain ⟨fd_aim, F_aim⟩ := c.def_ 8 (d := D_aim) rfl
  obtain ⟨fd__law_aims, F__law_aims⟩ := c.def_ 9 (d := D__law_aims) rfl
  obtain ⟨fd_law, F_law⟩ := c.def_ 10 (d := D_law) rfl
  have e := hfa.symm.trans (He.glo_ok X G (c.fact 10 (f := .glo "law") rfl))
  cases e
  have b := FunD.bindsA (ps := ["_law_script"]) F_law fun _ _ _ _ _ _ us hl => match us, hl with | [_], _ => rfl
  refine ⟨fd_law, fun s v => b s [v] rfl, fun base hb hn => ?_⟩
  have d__law_mixed : Dn P w K mg base CX0 1 "_law_mixed" ["_law_cell_here", "_law_k"] [] (sp__law_mixed K) := ⟨⟨_, _, [], ok__law_mixed F__law_mixed T , He.glo_ok X G (c.fact 0 (f := .glo "_law_mixed") rfl), F__law_mixed.kp, FunD.bindsN F__law_mixed fun _ _ _ _ _ _ us hl => match us, hl with | [_, _], _ => rfl, .nil⟩⟩
  have d__law_take : Dn P w K mg base CX0 2 "_law_take" ["_law_pot_here", "_law_many"] [] (sp__law_take K) := ⟨⟨_, _, [], ok__law_take F__law_take T d__law_mixed, He.glo_ok X G (c.fact 1 (f := .glo "_law_take") rfl), F__law_take.kp, FunD.bindsN F__law_take fun _ _ _ _ _ _ us hl => match us, hl with | [_, _], _ => rfl, .nil⟩⟩
  have d__law_pot : Dn P w K mg base CX0 1 "_law_pot" ["_law_cell_here"] [] (sp__law_pot K) := ⟨⟨_, _, [], ok__law_pot F__law_pot T , He.glo_ok X G (c.fact 2 (f := .glo "_law_pot") rfl), F__law_pot.kp, FunD.bindsN F__law_pot fun _ _ _ _ _ _ us hl => match us, hl with | [_], _ => rfl, .nil⟩⟩
  have d__law_cell : Dn P w K mg base CX0 1 "_law_cell" ["_law_script", "_law_k"] [] (sp__law_cell K) := ⟨⟨_, _, [], ok__law_cell F__law_cell T , He.glo_ok X G (c.fact 3 (f := .glo "_law_cell") rfl), F__law_cell.kp, FunD.bindsN F__law_cell fun _ _ _ _ _ _ us hl => match us, hl with | [_, _], _ => rfl, .nil⟩⟩
  have d__law_table : Dn P w K mg base CX0 3 "_law_table" ["_law_script"] [] (sp__law_table K) := ⟨⟨_, _, [], ok__law_table F__law_table T d__law_cell d__law_pot d__law_take, He.glo_ok X G (c.fact 4 (f := .glo "_law_table") rfl), F__law_table.kp, FunD.bindsN F__law_table fun _ _ _ _ _ _ us hl => match us, hl with | [_], _ => rfl, .nil⟩⟩
  have d_share_had : Dn P w K mg base CX0 1 "share_had" ["table", "overs", "cuts"] [] (sp_share_had K) := ⟨⟨_, _, [], ok_share_had F_share_had T , He.glo_ok X G (c.fact 5 (f := .glo "share_had") rfl), F_share_had.kp, FunD.bindsN F_share_had fun _ _ _ _ _ _ us hl => match us, hl with | [_, _, _], _ => rfl, .nil⟩⟩
  have d__law_cuts : Dn P w K mg base CX0 3 "_law_cuts" ["_law_table_here", "_law_pot_here", "_law_most"] [] (sp__law_cuts K) := ⟨⟨_, _, [], ok__law_cuts F__law_cuts T d__law_take, He.glo_ok X G (c.fact 6 (f := .glo "_law_cuts") rfl), F__law_cuts.kp, FunD.bindsN F__law_cuts fun _ _ _ _ _ _ us hl => match us, hl with | [_, _, _], _ => rfl, .nil⟩⟩
  have d__law_shares : Dn P w K mg base CX0 2 "_law_shares" ["_law_table_here", "_law_overs", "_law_cuts_here", "_law_more"] [] (sp__law_shares K) := ⟨⟨_, _, [], ok__law_shares F__law_shares T d_share_had, He.glo_ok X G (c.fact 7 (f := .glo "_law_shares") rfl), F__law_shares.kp, FunD.bindsN F__law_shares fun _ _ _ _ _ _ us hl => match us, hl with | [_, _, _, _], _ => rfl, .nil⟩⟩
  have d_aim : Dn P w K mg base CX0 1 "aim" ["first", "had", "has", "usual"] [] (sp_aim K) := ⟨⟨_, _, [], ok_aim F_aim T , He.glo_ok X G (c.fact 8 (f := .glo "aim") rfl), F_aim.kp, FunD.bindsN F_aim fun _ _ _ _ _ _ us hl => match us, hl with | [_, _, _, _], _ => rfl, .nil⟩⟩
  have d__law_aims : Dn P w K mg base CX0 2 "_law_aims" ["_law_table_here", "_law_first", "_law_had", "_law_usual"] [] (sp__law_aims K) := ⟨⟨_, _, [], ok__law_aims F__law_aims T d_aim, He.glo_ok X G (c.fact 9 (f := .glo "_law_aims") rfl), F__law_aims.kp, FunD.bindsN F__law_aims fun _ _ _ _ _ _ us hl => match us, hl with | [_, _, _, _], _ => rfl, .nil⟩⟩
  exact ok_law F_law T d__law_aims d__law_cell d__law_cuts d__law_pot d__law_shares d__law_table d__law_take d_aim d_share_had
end L2.Toy
open PySem PySem.W PySem.Calls PyProof.Rows
set_option maxRecDepth 100000 in
set_option maxHeartbeats 0 in
theorem PySem.Challenge.cw_inningsbook_k64_whole_rain_holds : PySem.Challenge.rw_inningsbook_k64_whole_rain.Holds := by
  w_on; o_law
  refine HandSHeadRun.head_any (r := OpenLaw.row PySem.Challenge.rw_inningsbook_k64_whole_rain) (q := view (OpenLaw.row PySem.Challenge.rw_inningsbook_k64_whole_rain).prog [12]) (H := L2.Toy.hk) (ob := L2.Toy.ob) (M := 3000) (loose := L2.Toy.loose) (d := HandSHeadRun.topDef (OpenLaw.row PySem.Challenge.rw_inningsbook_k64_whole_rain).prog 12) (kwd := []) L2.Toy.ob_eq
    (by kernel_rfl) (fun s => by kernel_rfl) L2.Toy.run (by kernel_rfl) (by kernel_rfl) (by kernel_rfl) (by rfl) (by first | assumption | decide +kernel) (by decide +kernel) ⟨rfl, rfl, rfl, rfl, rfl, by decide +kernel⟩ ?hw ?hc
  case hw => w_witness2
  case hc =>
    refine L2.walk_ofE (l := PySem.Challenge.rw_inningsbook_k64_whole_rain) (n := 63) (k := 4) (x := "_law_script") (CX := L2.CX0) rfl (by decide) (by kernel_rfl) ⟨rfl, by decide, by decide⟩ ?F (fun _ _ _ _ z => z)
    intro w mg fa h Y G hmg0
    obtain ⟨K, KX, c⟩ := Y
    have hmg : mg ("law" : PySem.Str) = some (.ref fa) := by
      have e : (HandSHeadRun.topDef (OpenLaw.row PySem.Challenge.rw_inningsbook_k64_whole_rain).prog 12).name = ("law" : PySem.Str) := by kernel_rfl
      rw [← e]
      exact hmg0
    obtain ⟨fd, hb, hF⟩ := L2.Toy.facts (P := (PySem.Challenge.rw_inningsbook_k64_whole_rain).prog) (w := w) KX G hmg c
    exact ⟨K, fd, L2.Toy.sp_law K, KX, hb, fun H a ns hl _ hS => ⟨L2.V.ref a, rfl, a, ns, rfl, hS, hl, fun _ => rfl⟩, hF⟩
#print axioms PySem.Challenge.cw_inningsbook_k64_whole_rain_holds

