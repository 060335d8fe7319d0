import PyProof.Rows.All
import Wide.All
import OpenK.AllK
import Wide.FinOn
import KE.KStateDown
import Lean
import HandS.ForMost
import HandS.Steps
import HandS.IsInst
import HandS.More
import HandS.Exc
import HandS.WordsExc
import HandS.Defaults
import HandS.Head0
import HandS.Head1
import HandS.Head2
import HandS.HeadEnd
import HandS.HeadHook1
import HandS.HeadHook2
import HandS.Style
import HandS.TupLe
import HandS.Rev
import HandS.RevRange
import HandS.DictTup
import HandS.RaiseFrom
import HandS.SuiteRaise
import HandS.SetKeys
import HandS.ExcInit
import HandS.ExcField
import HandS.Walk
import KE.KxText
import HandS.CallSlots
import HandS.ExcIs
import KE.KExcIs
import HandS.TryOnly
import HandS.TryMany
import HandS.ExcOwn
import KE.GoesEnumKw
import HandS.Zip
import HandS.Strs
import HandS.SortInts
import PyProof.DictMoreH
import KE.KTupSum
import KE.KDictZip
import HandS.RaiseMore
import HandS.Wide
import PySem.Challenge.RW_inningsbook_k71_leagues_refused
set_option Elab.async false
set_option linter.all false
set_option maxRecDepth 100000
set_option maxHeartbeats 4000000

namespace L2.A
open PySem PySem.Spec PyProof.Rows
/-! a layer of our own over HandS: defs by name, operators for every kind of value, one step a construct -/
/-- what is at fp may change, the rest stays -/
def Kp (fp : Addr → Prop) (H H' : Hp) : Prop := ∀ a o, H a = some o → ¬ fp a → H' a = some o
theorem Kp.same {fp : Addr → Prop} {H H' : Hp} (h : Same H H') : Kp fp H H' := fun a o e _ => h a o e
theorem Kp.refl {fp : Addr → Prop} {H : Hp} : Kp fp H H := fun _ _ e _ => e
theorem Kp.trans {fp : Addr → Prop} {H H1 H2 : Hp} (a : Kp fp H H1) (b : Kp fp H1 H2) : Kp fp H H2 := fun x o e n => b x o (a x o e n) n
theorem Kp.upd {H : Hp} {p : Addr} {o : HO} : Kp (fun a => a = p) H (upd H p o) := fun a u e n => by rw [upd_ne n]; exact e
theorem same_new {H : Hp} {p : Addr} {o : HO} (h : H p = none) : Same H (upd H p o) := fun a u e => by rw [upd_ne (ne_of_none e h)]; exact e
theorem same_new2 {H H' : Hp} {p : Addr} {o : HO} (s : Same H H') (h : H' p = none) : Same H (upd H' p o) := s.trans (same_new h)
/-- an object that H does not know may change -/
theorem same_mut {H H' : Hp} {p : Addr} {o : HO} (s : Same H H') (h : H p = none) : Same H (upd H' p o) := fun a u e => by rw [upd_ne (ne_of_none e h)]; exact s a u e
theorem same_kp {H H1 H2 : Hp} {p : Addr} (s : Same H H1) (k : Kp (fun a => a = p) H1 H2) (h : H p = none) : Same H H2 := fun a o e => k a o (s a o e) (ne_of_none e h)
theorem ge_same {H H' : Hp} {a : Addr} {o : HO} (s : Same H H') (h : H a = some o) : H' a = some o := s a o h

section
variable {P : Program} {w : World} {K : PySem.W.Frag} {mg : Str → Option Value} {base : Heap} {CX : CXT} {k : Nat}
/-- a def of the top by its name -/
structure Dn (P : Program) (w : World) (K : PySem.W.Frag) (mg : Str → Option Value) (base : Heap) (CX : CXT) (k : Nat) (x : Str) (ps : List Str) (dvs : List V) (sp : Sp) : Prop where
  ex : ∃ (f : Addr) (fd : FuncData) (ds : List Value), FnOk P w K mg base CX k f fd ps sp ∧ mg x = some (.ref f) ∧ PySem.W.keepIn K (.ref f) = true ∧ Binds K fd ps ds ∧ Vals dvs ds
end
section
variable {X : Cx} {CX : CXT} {k : Nat} {ps : List Str} {dvs : List V} {sp : Sp} {E : XK} {x : Str} {p pos : Pos} {e : Expr} {es : List Expr} {t : TA}
theorem pe_d (D : Dn X.prog X.w X.K X.mg X.base CX k x ps dvs sp) (hr : Room k X.A) (hg : Gl X x) (hx : Passes CX X E) (ha : PA X (e :: es) t) (hdb : (x == ("__debug__" : Str)) = false := by decide)
    (he : starEach (e :: es) X.env = (false, eval e X.env) :: starEach es X.env := by rfl) (hpl : (backTo pos (starEach es X.env)).any (·.1) = false := by rfl) : PE X (.Call (.Name x p) (e :: es) [] pos) (tCall sp dvs E t) := by
  obtain ⟨f, fd, ds, F, hm, hk, hb, hv⟩ := D.ex
  exact pe_call F hr hg hm hk hb hv hx ha hdb he hpl
theorem pe_d0 (D : Dn X.prog X.w X.K X.mg X.base CX k x ps dvs sp) (hr : Room k X.A) (hg : Gl X x) (hx : Passes CX X E) (hdb : (x == ("__debug__" : Str)) = false := by decide) : PE X (.Call (.Name x p) [] [] pos) (tCall sp dvs E tNil) := by
  obtain ⟨f, fd, ds, F, hm, hk, hb, hv⟩ := D.ex
  exact pe_call0 F hr hg hm hk hb hv hx hdb
end

/-! ### steps -/
section
variable {t u : TS} {D : Ends} {σ σ' : St} {H : Hp} {te ta tb tc : TE} {g : TG} {v : V} {i : Nat} {Q : VK} {r r' : R2} {tt tu : TT} {QB : Bool → Hp → Prop} {QS : St → Hp → Prop} {ts : TA} {QL : List V → Hp → Prop} {K : PySem.W.Frag}
theorem go_seq (h : t { D with nx := u D } σ H) : tSeq t u D σ H := h
theorem go_asg (h : te σ H fun x H1 => g x σ H1 D.nx) : tAsg te g D σ H := h
theorem go_name (e : σ.set i (some v) = σ') (h : QS σ' H) : gName i v σ H QS := by show QS (σ.set i (some v)) H; rw [e]; exact h
theorem go_var (e : σ[i]? = some (some v)) (h : Q v H) : tVar i σ H Q := ⟨v, e, h⟩
theorem go_c (h : Q v H) : tC v σ H Q := h
theorem go_op (h : ta σ H fun x H1 => tb σ H1 fun y H2 => r x y H2 Q) : tOp r ta tb σ H Q := h
theorem go_un {ru : V → Hp → VK → Prop} (h : ta σ H fun x H1 => ru x H1 Q) : tUn ru ta σ H Q := h
theorem go_I0 {f : Int → Int → V} {a b : Int} (h : Q (f a b) H) : rI0 f (.int a) (.int b) H Q := ⟨a, b, rfl, rfl, h⟩
theorem go_I {C : Int → Int → Prop} {f : Int → Int → V} {a b : Int} (c : C a b) (h : Q (f a b) H) : rI C f (.int a) (.int b) H Q := ⟨a, b, rfl, rfl, c, h⟩
theorem go_U {f : Int → V} {a : Int} (h : Q (f a) H) : rU f (.int a) H Q := ⟨a, rfl, h⟩
theorem go_ret (h : te σ H D.rt) : tRet te D σ H := h
theorem go_retN (h : D.rt .non H) : tRetN D σ H := h
theorem go_next (h : D.nx σ H) : tNext D σ H := h
theorem go_brk (h : D.bk σ H) : tBreak D σ H := h
theorem go_ct (h : D.ct σ H) : tCont D σ H := h
theorem go_if (h : tt σ H fun b H1 => if b = true then t D σ H1 else u D σ H1) : tIfS tt t u D σ H := h
theorem go_ifx (h : tt σ H fun c H1 => if c = true then ta σ H1 Q else tb σ H1 Q) : tIf tt ta tb σ H Q := h
def KB (x : V) (H : Hp) (QB : Bool → Hp → Prop) : Prop := ∃ k, x = .bl k ∧ QB k H
theorem go_test (h : te σ H fun x H' => KB x H' QB) : tTest te σ H QB := h
theorem go_B (h : te σ H fun x H' => KB x H' QB) : tB te σ H QB := h
theorem go_bl {b : Bool} (h : QB b H) : KB (.bl b) H QB := ⟨b, rfl, h⟩
theorem go_not (h : tt σ H fun c H1 => QB (!c) H1) : tNot tt σ H QB := h
theorem go_and (h : tt σ H fun c H1 => if c = true then tu σ H1 QB else QB false H1) : tAnd tt tu σ H QB := h
theorem go_or (h : tt σ H fun c H1 => if c = true then QB true H1 else tu σ H1 QB) : tOr tt tu σ H QB := h
theorem go_andV (h : ta σ H fun x H1 => KB x H1 fun c H1 => if c = true then tb σ H1 Q else Q (.bl false) H1) : tAndV ta tb σ H Q := h
theorem go_orV (h : ta σ H fun x H1 => KB x H1 fun c H1 => if c = true then Q (.bl true) H1 else tb σ H1 Q) : tOrV ta tb σ H Q := h
theorem go_notV (h : ta σ H fun x H1 => KB x H1 fun c H1 => Q (.bl (!c)) H1) : tNotV ta σ H Q := h
theorem go_drop (h : te σ H fun _ H1 => D.nx σ H1) : tDrop te D σ H := h
theorem go_nil (h : QL [] H) : tNil σ H QL := h
theorem go_cons (h : te σ H fun x H1 => ts σ H1 fun xs H2 => QL (x :: xs) H2) : tCons te ts σ H QL := h
def NewO (o : HO) (H : Hp) (Q : VK) : Prop := ∀ p, H p = none → Q (.ref p) (upd H p o)
def NewT (xs : List V) (H : Hp) (Q : VK) : Prop := xs.length ≤ sizeLine ∧ NewO (.tup xs) H Q
def NewL (xs : List V) (H : Hp) (Q : VK) : Prop := xs.length ≤ sizeLine ∧ NewO (.lst xs) H Q
theorem go_tup (h : ts σ H fun xs H1 => NewT xs H1 Q) : tTup ts σ H Q := h
theorem go_lst (h : ts σ H fun xs H1 => NewL xs H1 Q) : tLst ts σ H Q := h
theorem go_newT {xs : List V} (e : Nat.ble xs.length 1000 = true) (h : NewO (.tup xs) H Q) : NewT xs H Q := ⟨Nat.le_trans (Nat.le_of_ble_eq_true e) (by decide), h⟩
theorem go_newL {xs : List V} (e : Nat.ble xs.length 1000 = true) (h : NewO (.lst xs) H Q) : NewL xs H Q := ⟨Nat.le_trans (Nat.le_of_ble_eq_true e) (by decide), h⟩
theorem go_CB {rc : List V → Hp → VK → Prop} (h : ts σ H fun vs H1 => rc vs H1 Q) : tCB rc ts σ H Q := h
theorem go_call {sp : Sp} {dvs : List V} {E : XK} (h : ts σ H fun vs H1 => sp (vs ++ dvs) H1 Q E) : tCall sp dvs E ts σ H Q := h
theorem go_eq {x y : V} (e : scal x y = true) (h : Q (.bl (decide (x = y))) H) : rEq x y H Q := ⟨e, h⟩
theorem go_ne {x y : V} (e : scal x y = true) (h : Q (.bl (!decide (x = y))) H) : rNe x y H Q := ⟨e, h⟩
theorem go_chain (h : ta σ H fun x H1 => tb σ H1 fun y H2 => r x y H2 fun z H3 => KB z H3 fun k H3 => (if k = true then tc σ H3 fun w' H4 => r' y w' H4 Q else Q (.bl false) H3)) : tChain r r' ta tb tc σ H Q := h
theorem go_gtup {n : Nat} {tg : TGs} {a : Addr} {xs : List V} (hs : SqT K H a xs) (hl : xs.length = n) (h : tg xs σ H QS) : gTup K n tg (.ref a) σ H QS := ⟨a, xs, rfl, hs, hl, h⟩
theorem go_gcons {tg : TGs} {vs : List V} (h : g v σ H fun σ' H' => tg vs σ' H' QS) : gCons g tg (v :: vs) σ H QS := ⟨v, vs, rfl, h⟩
theorem go_gnil (h : QS σ H) : gNil [] σ H QS := ⟨rfl, h⟩
theorem go_nx {a : St → Hp → Prop} {b : VK} {c d : St → Hp → Prop} (h : a σ H) : Ends.nx ⟨a, b, c, d⟩ σ H := h
theorem go_rt {a : St → Hp → Prop} {b : VK} {c d : St → Hp → Prop} (h : b v H) : Ends.rt ⟨a, b, c, d⟩ v H := h
theorem go_bk {a : St → Hp → Prop} {b : VK} {c d : St → Hp → Prop} (h : c σ H) : Ends.bk ⟨a, b, c, d⟩ σ H := h
theorem go_ctx {a : St → Hp → Prop} {b : VK} {c d : St → Hp → Prop} (h : d σ H) : Ends.ct ⟨a, b, c, d⟩ σ H := h
theorem go_sub {to ti : TE} {ps : TSet} (h : to σ H fun o H1 => ti σ H1 fun i H2 => ps o i v H2 fun H3 => QS σ H3) : gSub to ti ps v σ H QS := h
theorem iteNT {A B : Prop} (h : B) : if (!true) = true then A else B := by rw [if_neg (by decide)]; exact h
theorem iteNF {A B : Prop} (h : A) : if (!false) = true then A else B := by rw [if_pos (by decide)]; exact h
theorem if2 {b : Bool} {A B : Prop} (h1 : b = true → A) (h2 : b = false → B) : if b = true then A else B := by
  cases b with
  | true => exact h1 rfl
  | false => exact h2 rfl
end
end L2.A

namespace L2.A
open PySem PySem.Spec PyProof.Rows
/-! ### operators for every kind of value -/
theorem boot_len : bootBuiltins "len" = some (.builtin "len") := by decide +kernel
theorem boot_isinstance : bootBuiltins "isinstance" = some (.builtin "isinstance") := by decide +kernel
theorem boot_sum : bootBuiltins "sum" = some (.builtin "sum") := by decide +kernel
theorem boot_max : bootBuiltins "max" = some (.builtin "max") := by decide +kernel
theorem boot_min : bootBuiltins "min" = some (.builtin "min") := by decide +kernel
theorem boot_all : bootBuiltins "all" = some (.builtin "all") := by decide +kernel
theorem boot_any : bootBuiltins "any" = some (.builtin "any") := by decide +kernel
theorem boot_abs : bootBuiltins "abs" = some (.builtin "abs") := by decide +kernel
theorem boot_sorted : bootBuiltins "sorted" = some (.builtin "sorted") := by decide +kernel
theorem boot_int : bootBuiltins "int" = some (.type "int") := by decide +kernel
theorem boot_str : bootBuiltins "str" = some (.type "str") := by decide +kernel
theorem boot_bool : bootBuiltins "bool" = some (.type "bool") := by decide +kernel
theorem boot_list : bootBuiltins "list" = some (.type "list") := by decide +kernel
theorem boot_tuple : bootBuiltins "tuple" = some (.type "tuple") := by decide +kernel
theorem boot_dict : bootBuiltins "dict" = some (.type "dict") := by decide +kernel
theorem boot_set : bootBuiltins "set" = some (.type "set") := by decide +kernel
theorem boot_ValueError : bootBuiltins "ValueError" = some (.type "ValueError") := by decide +kernel
section
variable {X : Cx} {K : PySem.W.Frag} {H : Hp} {Q : VK} {v : V}
abbrev rStrA : R2 := fun x y H Q => ∃ i j, x = .str i ∧ y = .str j ∧ i.length + j.length ≤ sizeLine ∧ Q (.str (i ++ j)) H
abbrev rIntB : R2 := fun x y H Q => ∃ i k, x = .int i ∧ y = .bl k ∧ Q (.int (i + b2i k)) H
def rAddX (K : PySem.W.Frag) : R2 := fun x y H Q => rI0 (fun i j => .int (i + j)) x y H Q ∨ rStrA x y H Q ∨ rCat x y H Q ∨ rCatT K x y H Q ∨ rIntB x y H Q
theorem op_addX : OpR X (binaryOp .Add) (rAddX X.K) := op_add.or (op_add_str.or (op_cat.or (op_catT.or op_add_ib)))
theorem go_addI {a b : Int} (h : Q (.int (a + b)) H) : rAddX K (.int a) (.int b) H Q := .inl ⟨a, b, rfl, rfl, h⟩
theorem go_addS {a b : Str} (z : a.length + b.length ≤ sizeLine) (h : Q (.str (a ++ b)) H) : rAddX K (.str a) (.str b) H Q := .inr (.inl ⟨a, b, rfl, rfl, z, h⟩)
theorem go_addB {a : Int} {b : Bool} (h : Q (.int (a + b2i b)) H) : rAddX K (.int a) (.bl b) H Q := .inr (.inr (.inr (.inr ⟨a, b, rfl, rfl, h⟩)))
theorem go_addL {p q : Addr} {xs ys : List V} (hp : H p = some (.lst xs)) (hq : H q = some (.lst ys)) (z : xs.length + ys.length ≤ sizeLine) (h : NewO (.lst (xs ++ ys)) H Q) : rAddX K (.ref p) (.ref q) H Q :=
  .inr (.inr (.inl ⟨p, q, xs, ys, rfl, rfl, hp, hq, z, h⟩))
theorem go_addT {p q : Addr} {x : V} {xs : List V} {y : V} {ys : List V} (hp : SqT K H p (x :: xs)) (hq : SqT K H q (y :: ys)) (z : (x :: xs).length + (y :: ys).length ≤ sizeLine) (h : NewO (.tup (x :: xs ++ y :: ys)) H Q) : rAddX K (.ref p) (.ref q) H Q :=
  .inr (.inr (.inr (.inl ⟨p, q, _, _, rfl, rfl, hp, hq, by simp, z, (fun e => nomatch e), fun _ => h⟩)))
/-- whole numbers, or a list so many times -/
def rMulS : R2 := fun x y H Q => ∃ a n, x = .str a ∧ y = .int n ∧ MulOk a n ∧ Q (.str (Txt.mul a n)) H
theorem op_mulS : OpR X (binaryOp .Mult) rMulS := by
  intro pins s σ H x y v u Q I rx ry h
  obtain ⟨a, n, rfl, rfl, ok, q⟩ := h
  obtain ⟨t, rfl⟩ := rx
  obtain ⟨t', rfl⟩ := ry
  exact SB.mul ok fun t' k => ⟨.str _, H, I.tok k, ⟨t', rfl⟩, q⟩
def rMulX : R2 := fun x y H Q => rI CMul (fun i j => .int (i * j)) x y H Q ∨ rRep x y H Q ∨ rMulS x y H Q
theorem op_mulX : OpR X (binaryOp .Mult) rMulX := op_mul.or (op_rep.or op_mulS)
theorem go_mulS {a : Str} {n : Int} (ok : MulOk a n) (h : Q (.str (Txt.mul a n)) H) : rMulX (.str a) (.int n) H Q := .inr (.inr ⟨a, n, rfl, rfl, ok, h⟩)
theorem go_mulI {a b : Int} (c : CMul a b) (h : Q (.int (a * b)) H) : rMulX (.int a) (.int b) H Q := .inl ⟨a, b, rfl, rfl, c, h⟩
/-- == -/
def rEqX (K : PySem.W.Frag) : R2 := fun x y H Q => rEq x y H Q ∨ rEqD K x y H Q
def rNeX (K : PySem.W.Frag) : R2 := fun x y H Q => rNe x y H Q ∨ rNeD K x y H Q
theorem op_eqX (hu : X.A.units + 64 < cLine) : OpR X (compareOp .Eq) (rEqX X.K) := op_eq.or (op_eqD hu)
theorem op_neX (hu : X.A.units + 64 < cLine) : OpR X (compareOp .NotEq) (rNeX X.K) := op_ne.or (op_neD hu)
theorem go_eqS {x y : V} (e : scal x y = true) (h : Q (.bl (decide (x = y))) H) : rEqX K x y H Q := .inl ⟨e, h⟩
theorem go_neS {x y : V} (e : scal x y = true) (h : Q (.bl (!decide (x = y))) H) : rNeX K x y H Q := .inl ⟨e, h⟩
/-- in -/
theorem op_in_d (hu : X.A.units + 1 < cLine) : OpR X (compareOp .In) (fun y x H Q => ∃ a o, x = .ref a ∧ DGet H a y o ∧ Q (.bl o.isSome) H) := by
  intro pins s σ H y x iv u Q I ry rx h
  obtain ⟨a, o, rfl, g, q⟩ := h
  cases rx
  exact d_in hu I g ry fun s3 I3 => ⟨.bl o.isSome, H, I3, rfl, q⟩
theorem op_notIn_d (hu : X.A.units + 1 < cLine) : OpR X (compareOp .NotIn) (fun y x H Q => ∃ a o, x = .ref a ∧ DGet H a y o ∧ Q (.bl (!o.isSome)) H) := by
  intro pins s σ H y x iv u Q I ry rx h
  obtain ⟨a, o, rfl, g, q⟩ := h
  cases rx
  exact d_notIn hu I g ry fun s3 I3 => ⟨.bl (!o.isSome), H, I3, rfl, q⟩
abbrev rInD : R2 := fun y x H Q => ∃ a o, x = .ref a ∧ DGet H a y o ∧ Q (.bl o.isSome) H
abbrev rNotInD : R2 := fun y x H Q => ∃ a o, x = .ref a ∧ DGet H a y o ∧ Q (.bl (!o.isSome)) H
def rInX (K : PySem.W.Frag) : R2 := fun x y H Q => rIn K false x y H Q ∨ rInS x y H Q ∨ rInD x y H Q
def rNotInX (K : PySem.W.Frag) : R2 := fun x y H Q => rIn K true x y H Q ∨ rNotInS x y H Q ∨ rNotInD x y H Q
theorem op_inX (hu : X.A.units + 1 < cLine) : OpR X (compareOp .In) (rInX X.K) := op_in_seq.or (op_inS.or (op_in_d hu))
theorem op_notInX (hu : X.A.units + 1 < cLine) : OpR X (compareOp .NotIn) (rNotInX X.K) := op_notIn_seq.or (op_notInS.or (op_notIn_d hu))
theorem go_inL {x : V} {p : Addr} {xs : List V} (hp : SqL K H p xs) (fx : flatV x = true) (fs : xs.all flatV = true) (h : Q (.bl (inV x xs)) H) : rInX K x (.ref p) H Q := .inl ⟨p, xs, rfl, .inl hp, fx, fs, h⟩
theorem go_inT {x : V} {p : Addr} {xs : List V} (hp : SqT K H p xs) (fx : flatV x = true) (fs : xs.all flatV = true) (h : Q (.bl (inV x xs)) H) : rInX K x (.ref p) H Q := .inl ⟨p, xs, rfl, .inr hp, fx, fs, h⟩
theorem go_inSg {c : Nat} {z : Str} (h : Q (.bl (decide (c ∈ z.cps.toList))) H) : rInX K (.str ⟨#[c]⟩) (.str z) H Q := .inr (.inl ⟨c, z, rfl, rfl, h⟩)
theorem go_inK {p : Addr} {kvs : List (Key × V)} (k : Key) (hp : H p = some (.dK kvs)) (h : Q (.bl (valV kvs k).isSome) H) : rInX K (kV k) (.ref p) H Q := .inr (.inr ⟨p, _, rfl, DGet.k hp, h⟩)
theorem go_ninL {x : V} {p : Addr} {xs : List V} (hp : SqL K H p xs) (fx : flatV x = true) (fs : xs.all flatV = true) (h : Q (.bl (!inV x xs)) H) : rNotInX K x (.ref p) H Q := .inl ⟨p, xs, rfl, .inl hp, fx, fs, h⟩
theorem go_ninT {x : V} {p : Addr} {xs : List V} (hp : SqT K H p xs) (fx : flatV x = true) (fs : xs.all flatV = true) (h : Q (.bl (!inV x xs)) H) : rNotInX K x (.ref p) H Q := .inl ⟨p, xs, rfl, .inr hp, fx, fs, h⟩
theorem go_ninSg {c : Nat} {z : Str} (h : Q (.bl (!decide (c ∈ z.cps.toList))) H) : rNotInX K (.str ⟨#[c]⟩) (.str z) H Q := .inr (.inl ⟨c, z, rfl, rfl, h⟩)
theorem go_ninK {p : Addr} {kvs : List (Key × V)} (k : Key) (hp : H p = some (.dK kvs)) (h : Q (.bl (!(valV kvs k).isSome)) H) : rNotInX K (kV k) (.ref p) H Q := .inr (.inr ⟨p, _, rfl, DGet.k hp, h⟩)
/-- is: None alone, or a truth -/
abbrev rIsO : R2 := fun x y H Q => ∃ a b oa ob, x = .ref a ∧ y = .ref b ∧ H a = some oa ∧ isObj oa = true ∧ H b = some ob ∧ isObj ob = true ∧ Q (.bl (decide (a = b))) H
abbrev rNotO : R2 := fun x y H Q => ∃ a b oa ob, x = .ref a ∧ y = .ref b ∧ H a = some oa ∧ isObj oa = true ∧ H b = some ob ∧ isObj ob = true ∧ Q (.bl (!decide (a = b))) H
abbrev rIsC (K : PySem.W.Frag) : R2 := fun x y H Q => ∃ a b, x = V.ref a ∧ y = V.ref b ∧ (a = b ∨ (PySem.W.makesIn K a = true ∧ PySem.W.makesIn K b = true)) ∧ Q (.bl (decide (a = b))) H
abbrev rNotC (K : PySem.W.Frag) : R2 := fun x y H Q => ∃ a b, x = V.ref a ∧ y = V.ref b ∧ (a = b ∨ (PySem.W.makesIn K a = true ∧ PySem.W.makesIn K b = true)) ∧ Q (.bl (!decide (a = b))) H
def rIsX (K : PySem.W.Frag) : R2 := fun x y H Q => rIsN x y H Q ∨ rIsB x y H Q ∨ rIsO x y H Q ∨ rIsC K x y H Q
def rIsNotX (K : PySem.W.Frag) : R2 := fun x y H Q => rNotN x y H Q ∨ rNotB x y H Q ∨ rNotO x y H Q ∨ rNotC K x y H Q
theorem op_isX : OpR X (compareOp .Is) (rIsX X.K) := op_isN1.or (op_isBl.or (op_is_ref.or op_is_cls))
theorem op_isNotX : OpR X (compareOp .IsNot) (rIsNotX X.K) := op_notN1.or (op_notBl.or (op_isnot_ref.or op_isnot_cls))
theorem go_isN {x : V} (h : Q (.bl (decide (x = .non))) H) : rIsX K x .non H Q := .inl ⟨rfl, h⟩
theorem go_notN {x : V} (h : Q (.bl (!decide (x = .non))) H) : rIsNotX K x .non H Q := .inl ⟨rfl, h⟩
theorem go_isB {a b : Bool} (h : Q (.bl (decide (a = b))) H) : rIsX K (.bl a) (.bl b) H Q := .inr (.inl ⟨_, _, rfl, rfl, h⟩)
theorem go_notB {a b : Bool} (h : Q (.bl (!decide (a = b))) H) : rIsNotX K (.bl a) (.bl b) H Q := .inr (.inl ⟨_, _, rfl, rfl, h⟩)
/-- o[i] -/
abbrev rIxD : R2 := fun x y H Q => ∃ a v, x = .ref a ∧ DGet H a y (some v) ∧ Q v H
theorem ix_dict (hu : X.A.units + 1 < cLine) : IxR X rIxD := by
  intro value slice pins s σ H x y v u Q I rx ry h hs
  obtain ⟨a, z, rfl, g, q⟩ := h
  cases rx
  exact tail_any (dict_typeIs I g) PySem.F.slot_dict_getitem.lookup (d_getItem hu I g ry fun w' s3 I3 rw' => ⟨z, H, I3, rw', q⟩) hs
def rIxX (K : PySem.W.Frag) : R2 := fun x y H Q => rIxL K x y H Q ∨ rIxT K x y H Q ∨ rIxS x y H Q ∨ rIxD x y H Q
theorem ix_X (hu : X.A.units + 1 < cLine) : IxR X (rIxX X.K) := ix_list.or (ix_tup.or (ix_str.or (ix_dict hu)))
theorem go_xL {p : Addr} {xs : List V} {j : Int} (hp : SqL K H p xs) (ha : atI xs j = some v) (h : Q v H) : rIxX K (.ref p) (.int j) H Q := .inl ⟨p, xs, j, v, rfl, rfl, hp, ha, h⟩
theorem go_xT {p : Addr} {xs : List V} {j : Int} (hp : SqT K H p xs) (ha : atI xs j = some v) (h : Q v H) : rIxX K (.ref p) (.int j) H Q := .inr (.inl ⟨p, xs, j, v, rfl, rfl, hp, ha, h⟩)
theorem go_xS {z : Str} {j : Int} {c : Nat} (hz : z.length ≤ sizeLine) (ha : atI z.cps.toList j = some c) (h : Q (.str ⟨#[c]⟩) H) : rIxX K (.str z) (.int j) H Q := .inr (.inr (.inl ⟨z, j, c, rfl, rfl, hz, ha, h⟩))
theorem go_xK {p : Addr} {kvs : List (Key × V)} (k : Key) (hp : H p = some (.dK kvs)) (hv : valV kvs k = some v) (h : Q v H) : rIxX K (.ref p) (kV k) H Q := .inr (.inr (.inr ⟨p, v, rfl, hv ▸ DGet.k hp, h⟩))
theorem go_xKs {p : Addr} {kvs : List (Key × V)} {z : Str} (hp : H p = some (.dK kvs)) (hv : valV kvs (Sum.inr z) = some v) (h : Q v H) : rIxX K (.ref p) (.str z) H Q := go_xK (Sum.inr z) hp hv h
/-- o[i] = e -/
theorem PSet.or {r r' : TSet} (h : PSet X r) (h' : PSet X r') : PSet X (fun o i v H Q => r o i v H Q ∨ r' o i v H Q) := by
  intro pins s σ H o i v ov iv u Q I ro ri rv q
  rcases q with q | q
  · exact h pins s σ H o i v ov iv u Q I ro ri rv q
  · exact h' pins s σ H o i v ov iv u Q I ro ri rv q
abbrev rSetD : TSet := fun o i v H Q => ∃ a H4, o = .ref a ∧ DPut H a i v H4 ∧ Q H4
theorem set_dict (hu : X.A.units + 1 < cLine) : PSet X rSetD := by
  intro pins s σ H o i v ov iv u Q I ro ri rv h
  obtain ⟨a, H4, rfl, g, q⟩ := h
  cases ro
  exact d_setItem hu I g ri rv fun s4 I4 => ⟨H4, I4, q⟩
def rSetX : TSet := fun o i v H Q => rSetL o i v H Q ∨ rSetD o i v H Q
theorem set_X (hu : X.A.units + 1 < cLine) : PSet X rSetX := PSet.or set_list (set_dict hu)
variable {QH : Hp → Prop}
theorem go_sL {l : Addr} {xs : List V} {j : Int} {n : Nat} (hl : H l = some (.lst xs)) (hj : ixN xs.length j = some n) (h : QH (upd H l (.lst (xs.set n v)))) : rSetX (.ref l) (.int j) v H QH := .inl ⟨l, xs, j, n, rfl, rfl, hl, hj, h⟩
theorem go_sK {p : Addr} {kvs : List (Key × V)} (k : Key) (hp : H p = some (.dK kvs)) (z : kvs.length < sizeLine) (h : QH (upd H p (.dK (putK kvs k v)))) : rSetX (.ref p) (kV k) v H QH := .inr ⟨p, _, rfl, DPut.k hp z, h⟩
theorem go_sKs {p : Addr} {kvs : List (Key × V)} {x : Str} (hp : H p = some (.dK kvs)) (z : kvs.length < sizeLine) (h : QH (upd H p (.dK (putK kvs (Sum.inr x) v)))) : rSetX (.ref p) (.str x) v H QH := go_sK (Sum.inr x) hp z h
/-- slices -/
abbrev rSlS : V → Option Int → Option Int → Hp → VK → Prop := fun x lo hi H Q => ∃ z, x = .str z ∧ z.length ≤ sizeLine ∧ Q (.str (cutS z lo hi)) H
def rSlX (K : PySem.W.Frag) : V → Option Int → Option Int → Hp → VK → Prop := fun x lo hi H Q => rSlL K x lo hi H Q ∨ rSlT K x lo hi H Q ∨ rSlS x lo hi H Q
theorem sl_X : SlR X (rSlX X.K) := sl_list.or (sl_tup.or sl_str)
/-- len, int, isinstance, truth -/
abbrev rLenD : List V → Hp → VK → Prop := fun xs H Q => ∃ a kvs, xs = [V.ref a] ∧ H a = some (.dK kvs) ∧ Q (.int kvs.length) H
abbrev rLenV (K : PySem.W.Frag) : List V → Hp → VK → Prop := fun xs H Q => ∃ x n, xs = [x] ∧ LenV K x H n ∧ Q (.int n) H
def rLenX (K : PySem.W.Frag) : List V → Hp → VK → Prop := fun xs H Q => rLenV K xs H Q ∨ rLenD xs H Q
theorem call_lenX : CallR X (.builtin "len") (rLenX X.K) := call_len.or call_lenD
theorem go_lenL {p : Addr} {xs : List V} (hp : SqL K H p xs) (h : Q (.int xs.length) H) : rLenX K [.ref p] H Q := .inl ⟨_, _, rfl, .inl ⟨xs, hp, rfl⟩, h⟩
theorem go_lenT {p : Addr} {xs : List V} (hp : SqT K H p xs) (h : Q (.int xs.length) H) : rLenX K [.ref p] H Q := .inl ⟨_, _, rfl, .inr ⟨xs, hp, rfl⟩, h⟩
theorem go_lenS {z : Str} (hz : z.length ≤ sizeLine) (h : Q (.int z.length) H) : rLenX K [.str z] H Q := .inl ⟨.str z, z.length, rfl, ⟨hz, rfl⟩, h⟩
theorem go_lenD {p : Addr} {kvs : List (Key × V)} (hp : H p = some (.dK kvs)) (h : Q (.int kvs.length) H) : rLenX K [.ref p] H Q := .inr ⟨p, kvs, rfl, hp, h⟩
abbrev rInt1 : List V → Hp → VK → Prop := fun xs H Q => (∃ i, xs = [.int i] ∧ Q (.int i) H) ∨ ∃ k, xs = [.bl k] ∧ Q (.int (if k then 1 else 0)) H
abbrev rIntS : List V → Hp → VK → Prop := fun xs H Q => ∃ a n, xs = [.str a] ∧ PySem.intText? a = some n ∧ a.length ≤ 640 ∧ Q (.int n) H
def rIntX : List V → Hp → VK → Prop := fun xs H Q => rInt1 xs H Q ∨ rIntS xs H Q
theorem call_intX : CallR X (.type "int") rIntX := call_int1.or call_int_str
theorem go_intI {i : Int} (h : Q (.int i) H) : rIntX [.int i] H Q := .inl (.inl ⟨i, rfl, h⟩)
theorem go_intB {k : Bool} (h : Q (.int (if k then 1 else 0)) H) : rIntX [.bl k] H Q := .inl (.inr ⟨k, rfl, h⟩)
theorem go_intS {a : Str} {n : Int} (e : PySem.intText? a = some n) (z : a.length ≤ 640) (h : Q (.int n) H) : rIntX [.str a] H Q := .inr ⟨a, n, rfl, e, z, h⟩
def rIsiX (K : PySem.W.Frag) : List V → Hp → VK → Prop := fun xs H Q => rIsi K xs H Q ∨ rIsiT K xs H Q
theorem call_isiX : CallR X (.builtin "isinstance") (rIsiX X.K) := call_isi.or call_isiT
theorem go_isi {x : V} {T U : String} {b : Bool} (ty : TyX K H x (.type U)) (e : kitB U T = some b) (h : Q (.bl b) H) : rIsiX K [x, .ty T] H Q := .inl ⟨x, .ty T, .type U, .type T, b, rfl, .ty T, ty, kit_ty e, h⟩
def rListO (K : PySem.W.Frag) : List V → Hp → VK → Prop := fun xs H Q => ∃ p ys, xs = [.ref p] ∧ (SqL K H p ys ∨ SqT K H p ys) ∧ ∀ l, H l = none → Q (.ref l) (upd H l (.lst ys))
theorem call_listO : CallR X (.type "list") (rListO X.K) := call_list_of
def rTupO (K : PySem.W.Frag) : List V → Hp → VK → Prop := fun xs H Q => ∃ p ys, xs = [.ref p] ∧ ((SqL K H p ys ∧ ∀ l, H l = none → Q (.ref l) (upd H l (.tup ys))) ∨ (SqT K H p ys ∧ Q (.ref p) H))
theorem call_tupO : CallR X (.type "tuple") (rTupO X.K) := call_tuple_of
def rMx2 : List V → Hp → VK → Prop := fun xs H Q => ∃ i j, xs = [.int i, .int j] ∧ Q (.int (if j > i then j else i)) H
def rMn2 : List V → Hp → VK → Prop := fun xs H Q => ∃ i j, xs = [.int i, .int j] ∧ Q (.int (if j < i then j else i)) H
theorem call_mx2 (hc : X.calm = true) : CallR X (.builtin "max") rMx2 := call_max2 hc
theorem call_mn2 (hc : X.calm = true) : CallR X (.builtin "min") rMn2 := call_min2 hc
def rAbsI : List V → Hp → VK → Prop := fun xs H Q => ∃ i, xs = [.int i] ∧ Q (.int (if i < 0 then -i else i)) H
theorem call_absI : CallR X (.builtin "abs") rAbsI := call_abs
def rStrI : List V → Hp → VK → Prop := fun xs H Q => ∃ i, xs = [.int i] ∧ i.natAbs.log2 < 1920 ∧ Q (.str (toString i)) H
theorem call_strI : CallR X (.type "str") rStrI := call_str_int
theorem go_listL {l : Addr} {xs : List V} (hS : SqL K H l xs) (h : NewO (.lst xs) H Q) : rListO K [V.ref l] H Q := ⟨l, xs, rfl, .inl hS, h⟩
theorem go_listT {l : Addr} {xs : List V} (hS : SqT K H l xs) (h : NewO (.lst xs) H Q) : rListO K [V.ref l] H Q := ⟨l, xs, rfl, .inr hS, h⟩
theorem go_tupL {l : Addr} {xs : List V} (hS : SqL K H l xs) (h : NewO (.tup xs) H Q) : rTupO K [V.ref l] H Q := ⟨l, xs, rfl, .inl ⟨hS, h⟩⟩
theorem go_tupT {l : Addr} {xs : List V} (hS : SqT K H l xs) (h : Q (.ref l) H) : rTupO K [V.ref l] H Q := ⟨l, xs, rfl, .inr ⟨hS, h⟩⟩
theorem go_max {a b : Int} (h : Q (.int (max a b)) H) : rMx2 [V.int a, V.int b] H Q := ⟨a, b, rfl, by
  have e : (if b > a then b else a) = max a b := by
    by_cases c : b > a
    · rw [if_pos c]; omega
    · rw [if_neg c]; omega
  rw [e]; exact h⟩
theorem go_min {a b : Int} (h : Q (.int (min a b)) H) : rMn2 [V.int a, V.int b] H Q := ⟨a, b, rfl, by
  have e : (if b < a then b else a) = min a b := by
    by_cases c : b < a
    · rw [if_pos c]; omega
    · rw [if_neg c]; omega
  rw [e]; exact h⟩
theorem go_abs {a : Int} (h : Q (.int a.natAbs) H) : rAbsI [V.int a] H Q := ⟨a, rfl, by
  have e : (if a < 0 then -a else a) = (a.natAbs : Int) := by
    by_cases c : a < 0
    · rw [if_pos c]; omega
    · rw [if_neg c]; omega
  rw [e]; exact h⟩
theorem go_str {a : Int} (z : a.natAbs.log2 < 1920) (h : Q (.str (toString a)) H) : rStrI [V.int a] H Q := ⟨a, rfl, z, h⟩
def tTruX (K : PySem.W.Frag) (te : TE) : TT := fun σ H Q => te σ H fun x H' => ∃ k, TruV K x H' k ∧ Q k H'
theorem pt_truX {a : Expr} {ta : TE} (ha : PE X a ta) (he : ∀ whole, isTrue a X.env whole = (do let v ← whole; standAt a.pos; holding [v] (truthy v)) := by intro _; rfl) : PT X a (tTruX X.K ta) := pt_truth ha he
def KT (K : PySem.W.Frag) (x : V) (H : Hp) (QB : Bool → Hp → Prop) : Prop := ∃ k, TruV K x H k ∧ QB k H
theorem go_tru {te : TE} {σ : St} {QB : Bool → Hp → Prop} (h : te σ H fun x H' => KT K x H' QB) : tTruX K te σ H QB := h
theorem go_truB {b : Bool} {QB : Bool → Hp → Prop} (h : QB b H) : KT K (.bl b) H QB := ⟨b, rfl, h⟩
theorem go_truI {i : Int} {QB : Bool → Hp → Prop} (h : QB (i != 0) H) : KT K (.int i) H QB := ⟨_, rfl, h⟩
theorem go_truN {QB : Bool → Hp → Prop} (h : QB false H) : KT K .non H QB := ⟨_, rfl, h⟩
theorem kit_ii : kitB "int" "int" = some true := by decide +kernel
theorem kit_ib : kitB "int" "bool" = some false := by decide +kernel
theorem kit_bb : kitB "bool" "bool" = some true := by decide +kernel
theorem kit_bi : kitB "bool" "int" = some true := by decide +kernel
theorem kit_ss : kitB "str" "str" = some true := by decide +kernel
theorem kit_nb : kitB "NoneType" "bool" = some false := by decide +kernel
theorem kit_ni : kitB "NoneType" "int" = some false := by decide +kernel
theorem kit_ns : kitB "NoneType" "str" = some false := by decide +kernel
theorem kit_nt : kitB "NoneType" "tuple" = some false := by decide +kernel
theorem kit_is : kitB "int" "str" = some false := by decide +kernel
theorem kit_si : kitB "str" "int" = some false := by decide +kernel
theorem kit_sb : kitB "str" "bool" = some false := by decide +kernel
theorem kit_tt : kitB "tuple" "tuple" = some true := by decide +kernel
theorem kit_ll : kitB "list" "list" = some true := by decide +kernel
theorem kit_tl : kitB "tuple" "list" = some false := by decide +kernel
theorem kit_lt : kitB "list" "tuple" = some false := by decide +kernel
theorem kit_bs : kitB "bool" "str" = some false := by decide +kernel
/-- a list or a tuple that is walked -/
def IX (K : PySem.W.Frag) (x : V) (H1 : Hp) (R : It → Hp → Prop) : Prop := (∃ a, x = .ref a ∧ (∃ xs, SqL K H1 a xs) ∧ R (Itl K a) H1) ∨ (∃ a, x = .ref a ∧ (∃ xs, SqT K H1 a xs) ∧ R (Itt K a) H1) ∨ (∃ z, x = .str z ∧ R (Its z) H1)
def iX (K : PySem.W.Frag) (tl : TE) : TI := fun σ H R => tl σ H fun x H1 => (∃ a, x = .ref a ∧ (∃ xs, SqL K H1 a xs) ∧ R (Itl K a) H1) ∨ (∃ a, x = .ref a ∧ (∃ xs, SqT K H1 a xs) ∧ R (Itt K a) H1) ∨ (∃ z, x = .str z ∧ R (Its z) H1)
theorem pi_X {tg l : Expr} {tl : TE} (hl : PE X l tl) : PI X tg l (iX X.K tl) := by
  refine ⟨fun pins s σ H R I h => ?_⟩
  refine thn (hl.run pins s σ H _ I h) fun v s1 ⟨x, H1, I1, r1, q1⟩ => ?_
  rcases q1 with ⟨a, ex, ⟨xs, hq⟩, q⟩ | ⟨a, ex, ⟨xs, hq⟩, q⟩ | ⟨z, ex, q⟩
  · subst ex
    cases r1
    obtain ⟨its, rv, p, hz⟩ := I1.list hq
    refine wpAny_pyIter_list p.isList ?_
    refine ⟨s1.heap.objs.size, [s1.heap.objs.size], _, _, H1, rfl, I1.kept (t' := s1.toks) fun b o e => Heap.get?_push_of_some _ e, turn_list a _, ⟨_, Heap.get?_push_size _ rfl, rfl, rfl⟩, fun b hb => ?_, q⟩
    have e : b = s1.heap.objs.size := by simpa using hb
    subst e
    exact I1.fpOk (Nat.le_refl _) (I1.hok.fresh (Nat.le_refl _))
  · subst ex
    cases r1
    obtain ⟨its, rv, p, hz⟩ := I1.tuple hq
    refine wpAny_pyIter_tuple (show s1.heap.IsTuple a its.toArray from p) ?_
    refine ⟨s1.heap.objs.size, [s1.heap.objs.size], _, _, H1, rfl, I1.kept (t' := s1.toks) fun b o e => Heap.get?_push_of_some _ e, turn_tuple a _, ⟨_, Heap.get?_push_size _ rfl, rfl, rfl⟩, fun b hb => ?_, q⟩
    have e : b = s1.heap.objs.size := by simpa using hb
    subst e
    exact I1.fpOk (Nat.le_refl _) (I1.hok.fresh (Nat.le_refl _))
  · subst ex
    obtain ⟨t, rfl⟩ := r1
    cases ha : z.cps.all (· < 128)
    · exact wpAny_pyIter_wide ha (pi_one (tk := s1.toks) I1 _ (turn_str _ z t "str_iterator" (.inr rfl)) ⟨_, Heap.get?_push_size _ rfl, rfl, rfl⟩ q)
    · exact wpAny_pyIter_ascii ha (pi_one (tk := s1.toks) I1 _ (turn_str _ z t "str_ascii_iterator" (.inl rfl)) ⟨_, Heap.get?_push_size _ rfl, rfl, rfl⟩ q)
end
end L2.A

namespace L2.A
open PySem PySem.Spec PyProof.Rows
theorem go_start {t : TS} {D : Ends} {N : List Str} {vs : List V} {σ : St} {H : Hp} (e : start N vs = σ) (h : t D σ H) : t D (start N vs) H := by rw [e]; exact h
theorem ite_T {b : Bool} {A B : Prop} (e : b = true) (h : A) : if b = true then A else B := by rw [if_pos e]; exact h
theorem ite_F {b : Bool} {A B : Prop} (e : b = false) (h : B) : if b = true then A else B := by rw [e]; exact iteF h
/-- promises by the number of arguments -/
def Sp0 (R : Hp → VK → XK → Prop) : Sp := fun vs H Q E => vs = [] ∧ R H Q E
def Sp1 (R : V → Hp → VK → XK → Prop) : Sp := fun vs H Q E => ∃ a, vs = [a] ∧ R a H Q E
def Sp2 (R : V → V → Hp → VK → XK → Prop) : Sp := fun vs H Q E => ∃ a b, vs = [a, b] ∧ R a b H Q E
def Sp3 (R : V → V → V → Hp → VK → XK → Prop) : Sp := fun vs H Q E => ∃ a b c, vs = [a, b, c] ∧ R a b c H Q E
def Sp4 (R : V → V → V → V → Hp → VK → XK → Prop) : Sp := fun vs H Q E => ∃ a b c d, vs = [a, b, c, d] ∧ R a b c d H Q E
def Sp5 (R : V → V → V → V → V → Hp → VK → XK → Prop) : Sp := fun vs H Q E => ∃ a b c d e, vs = [a, b, c, d, e] ∧ R a b c d e H Q E
section
variable {vs : List V} {H : Hp} {Q : VK} {E : XK} {a b c d e : V}
theorem len0 {R} (h : Sp0 R vs H Q E) : vs.length = 0 := by obtain ⟨rfl, _⟩ := h; rfl
theorem len1 {R} (h : Sp1 R vs H Q E) : vs.length = 1 := by obtain ⟨_, rfl, _⟩ := h; rfl
theorem len2 {R} (h : Sp2 R vs H Q E) : vs.length = 2 := by obtain ⟨_, _, rfl, _⟩ := h; rfl
theorem len3 {R} (h : Sp3 R vs H Q E) : vs.length = 3 := by obtain ⟨_, _, _, rfl, _⟩ := h; rfl
theorem len4 {R} (h : Sp4 R vs H Q E) : vs.length = 4 := by obtain ⟨_, _, _, _, rfl, _⟩ := h; rfl
theorem len5 {R} (h : Sp5 R vs H Q E) : vs.length = 5 := by obtain ⟨_, _, _, _, _, rfl, _⟩ := h; rfl
theorem go_sp0 {R} (h : R H Q E) : Sp0 R ([] ++ []) H Q E := ⟨rfl, h⟩
theorem go_sp1 {R} (h : R a H Q E) : Sp1 R ([a] ++ []) H Q E := ⟨a, rfl, h⟩
theorem go_sp2 {R} (h : R a b H Q E) : Sp2 R ([a, b] ++ []) H Q E := ⟨a, b, rfl, h⟩
theorem go_sp3 {R} (h : R a b c H Q E) : Sp3 R ([a, b, c] ++ []) H Q E := ⟨a, b, c, rfl, h⟩
theorem go_sp4 {R} (h : R a b c d H Q E) : Sp4 R ([a, b, c, d] ++ []) H Q E := ⟨a, b, c, d, rfl, h⟩
theorem go_sp5 {R} (h : R a b c d e H Q E) : Sp5 R ([a, b, c, d, e] ++ []) H Q E := ⟨a, b, c, d, e, rfl, h⟩
end
end L2.A
namespace L2.A
open PySem PySem.Spec PyProof.Rows
section
variable {K : PySem.W.Frag} {H : Hp} {Q : VK} {v : V} {σ : St} {D : Ends}
def ForW (J : It) (g : TG) (tb : TS) (D : Ends) (σ : St) (H1 : Hp) : Prop := ∃ W : Nat → Nat → St → Hp → Prop, (∃ m, W 0 m σ H1) ∧ ∀ i m σ H, W i m σ H →
  (J.stop i H ∧ D.nx σ H) ∨ (J.go i H ∧ ∃ N : St → Hp → Prop, (∀ σ' H', N σ' H' → ∃ m', m' < m ∧ W (i + 1) m' σ' H') ∧ ∀ x H', J.yld i H x H' → g x σ H' fun σ2 H2 => tb { D with nx := N, ct := N, bk := D.nx } σ2 H2)
theorem go_for {wi : TI} {g : TG} {tb : TS} (h : wi σ H fun J H1 => ForW J g tb D σ H1) : tFor wi g tb D σ H := h
theorem ForW.list {a : Addr} {xs : List V} {g : TG} {tb : TS} (Pv : Nat → St → Hp → Prop) (h0 : Pv 0 σ H) (hl : ∀ i σ H, i ≤ xs.length → Pv i σ H → SqL K H a xs)
    (hs : ∀ i x σ H, xs[i]? = some x → Pv i σ H → g x σ H fun σ2 H2 => tb { D with nx := Pv (i + 1), ct := Pv (i + 1), bk := D.nx } σ2 H2) (hd : ∀ σ H, Pv xs.length σ H → D.nx σ H) : ForW (Itl K a) g tb D σ H := for_list Pv h0 hl hs hd
theorem ForW.tup {a : Addr} {xs : List V} {g : TG} {tb : TS} (Pv : Nat → St → Hp → Prop) (h0 : Pv 0 σ H) (hl : ∀ i σ H, i ≤ xs.length → Pv i σ H → SqT K H a xs)
    (hs : ∀ i x σ H, xs[i]? = some x → Pv i σ H → g x σ H fun σ2 H2 => tb { D with nx := Pv (i + 1), ct := Pv (i + 1), bk := D.nx } σ2 H2) (hd : ∀ σ H, Pv xs.length σ H → D.nx σ H) : ForW (Itt K a) g tb D σ H := for_tup Pv h0 hl hs hd
theorem ForW.range {lo : Int} {n : Nat} {g : TG} {tb : TS} (Pv : Nat → St → Hp → Prop) (h0 : Pv 0 σ H)
    (hs : ∀ i σ H, i < n → Pv i σ H → g (.int (lo + i)) σ H fun σ2 H2 => tb { D with nx := Pv (i + 1), ct := Pv (i + 1), bk := D.nx } σ2 H2) (hd : ∀ σ H, Pv n σ H → D.nx σ H) : ForW (Itr lo n) g tb D σ H := for_range Pv h0 hs hd
theorem ForW.str {z : Str} {g : TG} {tb : TS} (Pv : Nat → St → Hp → Prop) (h0 : Pv 0 σ H)
    (hs : ∀ i c σ H, z.cps.toList[i]? = some c → Pv i σ H → g (.str ⟨#[c]⟩) σ H fun σ2 H2 => tb { D with nx := Pv (i + 1), ct := Pv (i + 1), bk := D.nx } σ2 H2) (hd : ∀ σ H, Pv z.cps.toList.length σ H → D.nx σ H) : ForW (Its z) g tb D σ H := by
  refine ⟨fun i m σ H => m = z.cps.size - i ∧ i ≤ z.cps.size ∧ Pv i σ H, ⟨z.cps.size, by simp, Nat.zero_le _, h0⟩, ?_⟩
  rintro i m σ H ⟨rfl, hi, p⟩
  by_cases hlt : i < z.cps.size
  · refine .inr ⟨hlt, Pv (i + 1), fun σ' H' p' => ⟨z.cps.size - (i + 1), by omega, rfl, hlt, p'⟩, fun x H' y => ?_⟩
    obtain ⟨e, c, hc, hx⟩ := y
    subst e hx
    exact hs i c σ _ (by simpa using hc) p
  · have e : i = z.cps.size := by omega
    subst e
    exact .inl ⟨Nat.le_refl _, hd σ H (by simpa using p)⟩
theorem go_iX {tl : TE} {R : It → Hp → Prop} (h : tl σ H fun x H1 => IX K x H1 R) : iX K tl σ H R := h
theorem go_iL {a : Addr} {xs : List V} {R : It → Hp → Prop} (hS : SqL K H a xs) (h : R (Itl K a) H) : IX K (.ref a) H R := .inl ⟨a, rfl, ⟨xs, hS⟩, h⟩
theorem go_iT {a : Addr} {xs : List V} {R : It → Hp → Prop} (hS : SqT K H a xs) (h : R (Itt K a) H) : IX K (.ref a) H R := .inr (.inl ⟨a, rfl, ⟨xs, hS⟩, h⟩)
theorem go_iS {z : Str} {R : It → Hp → Prop} (h : R (Its z) H) : IX K (.str z) H R := .inr (.inr ⟨z, rfl, h⟩)
def LcW (J : It) (g : TG) (tt : TT) (te : TE) (vs : List Nat) (σ : St) (H1 : Hp) (Q : VK) : Prop := ∀ D, H1 D = none → ∃ W : Nat → Nat → Hp → Prop, (∃ m, W 0 m (upd H1 D (.lst []))) ∧ ∀ i m H, W i m H →
  (J.stop i H ∧ Q (.ref D) H) ∨ (J.go i H ∧ ∃ Nx : Hp → Prop, (∀ H', Nx H' → ∃ m', m' < m ∧ W (i + 1) m' H') ∧ ∀ x H', J.yld i H x H' → g x (wipe σ vs) H' fun σ2 H2 => wipe σ2 vs = wipe σ vs ∧ tt σ2 H2 fun b H3 =>
    if b = true then te σ2 H3 fun y H4 => ∃ acc, H4 D = some (.lst acc) ∧ acc.length < sizeLine ∧ Nx (upd H4 D (.lst (acc ++ [y]))) else Nx H3)
theorem go_lc {wi : TI} {g : TG} {tt : TT} {te : TE} {vs : List Nat} (h : wi σ H fun J H1 => LcW J g tt te vs σ H1 Q) : tLc wi g tt te vs σ H Q := h
/-- the same relation at other targets -/
structure LcS (g : TG) (tt : TT) (te : TE) (vs : List Nat) (σ : St) (x : V) (H : Hp) (yes : V → Hp → Prop) (no : Hp → Prop) : Prop where
  run : g x (wipe σ vs) H fun σ2 H2 => wipe σ2 vs = wipe σ vs ∧ tt σ2 H2 fun b H3 => if b = true then te σ2 H3 yes else no H3
/-- GENERAL: over a list; R i ys H' what holds of the items made so far; D is the new list's own place -/
theorem LcW.list {a : Addr} {xs : List V} {H1 : Hp} {g : TG} {tt : TT} {te : TE} {vs : List Nat} (R : Addr → Nat → List V → Hp → Prop) (hz : xs.length ≤ 100000) (hS : SqL K H1 a xs) (h0 : ∀ D, H1 D = none → R D 0 [] (upd H1 D (.lst [])))
    (hs : ∀ D i x ys H', H1 D = none → xs[i]? = some x → ys.length ≤ i → R D i ys H' → Same H1 H' → H' D = some (.lst ys) → ∀ (yes : V → Hp → Prop) (no : Hp → Prop),
      (∀ y H'', Same H' H'' → R D (i + 1) (ys ++ [y]) (upd H'' D (.lst (ys ++ [y]))) → yes y H'') → (∀ H'', Same H' H'' → R D (i + 1) ys H'' → no H'') →
      g x (wipe σ vs) H' fun σ2 H2 => wipe σ2 vs = wipe σ vs ∧ tt σ2 H2 fun b H3 => if b = true then te σ2 H3 yes else no H3)
    (hd : ∀ D ys H', H1 D = none → Same H1 H' → H' D = some (.lst ys) → ys.length ≤ xs.length → R D xs.length ys H' → Q (.ref D) H') : LcW (Itl K a) g tt te vs σ H1 Q := by
  intro D hD
  refine lc_list (xs := xs) (fun i H' => Same H1 H' ∧ ∃ ys, H' D = some (.lst ys) ∧ ys.length ≤ i ∧ R D i ys H') ⟨same_new hD, [], upd_same, Nat.le_refl _, h0 D hD⟩ (fun i H' _ ⟨s, _⟩ => s.seq hS) (fun i x H' hi ⟨s, ys, e, hl, r⟩ => ?_) fun H' ⟨s, ys, e, hl, r⟩ => hd D ys H' hD s e hl r
  have hil : i < xs.length := (List.getElem?_eq_some_iff.mp hi).1
  refine hs D i x ys H' hD hi hl r s e _ _ (fun y H'' s2 r2 => ⟨ys, s2 _ _ e, ?_, same_mut (s.trans s2) hD, ys ++ [y], upd_same, by rw [List.length_append]; show ys.length + 1 ≤ _; omega, r2⟩) fun H'' s2 r2 => ⟨s.trans s2, ys, s2 _ _ e, by omega, r2⟩
  exact Nat.lt_of_le_of_lt hl (Nat.lt_of_lt_of_le hil (Nat.le_trans hz (by decide)))
theorem LcW.tup {a : Addr} {xs : List V} {H1 : Hp} {g : TG} {tt : TT} {te : TE} {vs : List Nat} (R : Addr → Nat → List V → Hp → Prop) (hz : xs.length ≤ 100000) (hS : SqT K H1 a xs) (h0 : ∀ D, H1 D = none → R D 0 [] (upd H1 D (.lst [])))
    (hs : ∀ D i x ys H', H1 D = none → xs[i]? = some x → ys.length ≤ i → R D i ys H' → Same H1 H' → H' D = some (.lst ys) → ∀ (yes : V → Hp → Prop) (no : Hp → Prop),
      (∀ y H'', Same H' H'' → R D (i + 1) (ys ++ [y]) (upd H'' D (.lst (ys ++ [y]))) → yes y H'') → (∀ H'', Same H' H'' → R D (i + 1) ys H'' → no H'') →
      g x (wipe σ vs) H' fun σ2 H2 => wipe σ2 vs = wipe σ vs ∧ tt σ2 H2 fun b H3 => if b = true then te σ2 H3 yes else no H3)
    (hd : ∀ D ys H', H1 D = none → Same H1 H' → H' D = some (.lst ys) → ys.length ≤ xs.length → R D xs.length ys H' → Q (.ref D) H') : LcW (Itt K a) g tt te vs σ H1 Q := by
  intro D hD
  have seqT : ∀ {H' : Hp}, Same H1 H' → SqT K H' a xs := fun {H'} s => by
    rcases hS with (h | ⟨o, h⟩) | h
    · exact .inl (.inl (s _ _ h))
    · exact .inl (.inr ⟨o, s _ _ h⟩)
    · exact .inr h
  refine lc_tup (xs := xs) (fun i H' => Same H1 H' ∧ ∃ ys, H' D = some (.lst ys) ∧ ys.length ≤ i ∧ R D i ys H') ⟨same_new hD, [], upd_same, Nat.le_refl _, h0 D hD⟩ (fun i H' _ ⟨s, _⟩ => seqT s) (fun i x H' hi ⟨s, ys, e, hl, r⟩ => ?_) fun H' ⟨s, ys, e, hl, r⟩ => hd D ys H' hD s e hl r
  have hil : i < xs.length := (List.getElem?_eq_some_iff.mp hi).1
  refine hs D i x ys H' hD hi hl r s e _ _ (fun y H'' s2 r2 => ⟨ys, s2 _ _ e, ?_, same_mut (s.trans s2) hD, ys ++ [y], upd_same, by rw [List.length_append]; show ys.length + 1 ≤ _; omega, r2⟩) fun H'' s2 r2 => ⟨s.trans s2, ys, s2 _ _ e, by omega, r2⟩
  exact Nat.lt_of_le_of_lt hl (Nat.lt_of_lt_of_le hil (Nat.le_trans hz (by decide)))
/-- elements are plain values, no test -/
theorem LcW.listV {a : Addr} {xs : List V} {H1 : Hp} {g : TG} {te : TE} {vs : List Nat} (out : Nat → V) (hz : xs.length ≤ 100000) (hS : SqL K H1 a xs)
    (hs : ∀ i x H', xs[i]? = some x → Same H1 H' → ∀ Q' : VK, (∀ H'', Same H' H'' → Q' (out i) H'') → g x (wipe σ vs) H' fun σ2 H2 => wipe σ2 vs = wipe σ vs ∧ te σ2 H2 Q')
    (mono : ∀ (x : V) (σ : St) (H : Hp) (Q Q' : St → Hp → Prop), (∀ σ H, Q σ H → Q' σ H) → g x σ H Q → g x σ H Q')
    (hd : ∀ D H', H1 D = none → Same H1 H' → H' D = some (.lst ((List.range xs.length).map out)) → Q (.ref D) H') : LcW (Itl K a) g tYes te vs σ H1 Q := by
  refine LcW.list (fun D i ys H' => ys = (List.range i).map out) hz hS (fun _ _ => rfl) (fun D i x ys H' hD hi hl r s e yes no hy hn => ?_) fun D ys H' hD s e _ r => hd D H' hD s (by rw [e, r])
  refine mono x _ _ _ _ (fun σ2 H2 q => q) (hs i x H' hi s yes fun H'' s2 => hy _ _ s2 ?_)
  rw [r, List.range_succ, List.map_append]
  rfl
theorem gname_mono {i : Nat} (x : V) (σ : St) (H : Hp) (Q Q' : St → Hp → Prop) (h : ∀ σ H, Q σ H → Q' σ H) (q : gName i x σ H Q) : gName i x σ H Q' := h _ _ q
theorem go_all {l : Addr} {bs : List Bool} (hS : SqL K H l (bs.map V.bl)) (h : Q (.bl (bs.all id)) H) : rAll K [.ref l] H Q := ⟨l, bs, rfl, hS, h⟩
theorem go_any {l : Addr} {bs : List Bool} (hS : SqL K H l (bs.map V.bl)) (h : Q (.bl (bs.any id)) H) : rAny K [.ref l] H Q := ⟨l, bs, rfl, hS, h⟩
theorem go_sum {l : Addr} {ns : List Int} (hS : SqL K H l (ns.map V.int)) (h : Q (.int ns.sum) H) : rSum K [.ref l] H Q := ⟨l, ns, rfl, hS, h⟩
theorem go_yes {QB : Bool → Hp → Prop} (h : QB true H) : tYes σ H QB := h
end
theorem range_map_const {n : Nat} {v : V} : (List.range n).map (fun _ => v) = List.replicate n v := by
  induction n with
  | zero => rfl
  | succ n ih => rw [List.range_succ, List.map_append, ih, List.replicate_succ'] <;> rfl
theorem all_true {n : Nat} : (List.replicate n true).all id = true := by simp
theorem szl {n : Nat} (h : n ≤ 100000) : n ≤ sizeLine := Nat.le_trans h (by decide)
theorem bl_ok {b : Bool} {Q : VK} {H : Hp} (e : b = true) (h : Q (.bl true) H) : Q (.bl b) H := by rw [e]; exact h
end L2.A
namespace L2.A
open PySem PySem.Spec PyProof.Rows
theorem ret_V {v v' : V} {Q : VK} {H : Hp} (e : v' = v) (h : Q v' H) : Q v H := by rw [← e]; exact h
theorem dec_int {i j : Int} : decide (V.int i = V.int j) = decide (i = j) := by simp
theorem dec_str {i j : Str} : decide (V.str i = V.str j) = decide (i = j) := by simp
theorem dec_bl {i j : Bool} : decide (V.bl i = V.bl j) = decide (i = j) := by simp
/-- the head and the items of a list of whole numbers -/
theorem int_at {ns : List Int} {i : Nat} {x : V} (h : (ns.map V.int)[i]? = some x) : ∃ z, x = V.int z ∧ ns[i]? = some z := by
  rw [List.getElem?_map] at h
  cases e : ns[i]? with
  | none => rw [e] at h; cases h
  | some z => rw [e] at h; exact ⟨z, (Option.some.inj h).symm, rfl⟩
theorem iteS_bl {b : Bool} {Q : VK} {H : Hp} {v1 v2 : V} (h1 : b = true → Q v1 H) (h2 : b = false → Q v2 H) : if b = true then Q v1 H else Q v2 H := if2 h1 h2
end L2.A
namespace L2.A
open PySem PySem.Spec PyProof.Rows
def RN1 (vs : List V) (H1 : Hp) (R : It → Hp → Prop) : Prop := ∃ j : Int, vs = [.int j] ∧ -(2 ^ 62) ≤ j ∧ j < 2 ^ 62 ∧ R (Itr 0 j.toNat) H1
def RN2 (vs : List V) (H1 : Hp) (R : It → Hp → Prop) : Prop := ∃ i j : Int, vs = [.int i, .int j] ∧ (-(2 ^ 62) ≤ i ∧ i < 2 ^ 62 ∧ -(2 ^ 62) ≤ j ∧ j < 2 ^ 62) ∧ R (Itr i (j - i).toNat) H1
theorem go_rng1 {ta : TA} {σ : St} {H : Hp} {R : It → Hp → Prop} (h : ta σ H fun vs H1 => RN1 vs H1 R) : iRng1 ta σ H R := h
theorem go_rng2 {ta : TA} {σ : St} {H : Hp} {R : It → Hp → Prop} (h : ta σ H fun vs H1 => RN2 vs H1 R) : iRng2 ta σ H R := h
theorem go_rn1 {j : Int} {H : Hp} {R : It → Hp → Prop} (h1 : -100000 ≤ j ∧ j ≤ 100000) (h : R (Itr 0 j.toNat) H) : RN1 [.int j] H R := ⟨j, rfl, by omega, by omega, h⟩
theorem go_rn2 {i j : Int} {H : Hp} {R : It → Hp → Prop} (h1 : -100000 ≤ i ∧ i ≤ 100000 ∧ -100000 ≤ j ∧ j ≤ 100000) (h : R (Itr i (j - i).toNat) H) : RN2 [.int i, .int j] H R := ⟨i, j, rfl, ⟨by omega, by omega, by omega, by omega⟩, h⟩
/-- an item of a written list at a drawn place -/
theorem at_some {α : Type} {xs : List α} {r : Int} (h0 : 0 ≤ r) (h1 : r < xs.length) : ∃ v, atI xs r = some v ∧ v ∈ xs := by
  obtain ⟨j, rfl⟩ : ∃ j : Nat, r = (j : Int) := ⟨r.toNat, by omega⟩
  have hj : j < xs.length := by omega
  exact ⟨xs[j], atI_nat (List.getElem?_eq_getElem hj), List.getElem_mem hj⟩
theorem menuS {L : List Str} {r : Int} (h0 : 0 ≤ r) (h1 : r < L.length) : ∃ k, atI (L.map V.str) r = some (.str k) ∧ k ∈ L := by
  obtain ⟨v, e, m⟩ := at_some (xs := L.map V.str) h0 (by rw [List.length_map]; exact h1)
  obtain ⟨k, hk, rfl⟩ := List.mem_map.mp m
  exact ⟨k, e, hk⟩
theorem menuI {L : List Int} {r : Int} (h0 : 0 ≤ r) (h1 : r < L.length) : ∃ k, atI (L.map V.int) r = some (.int k) ∧ k ∈ L := by
  obtain ⟨v, e, m⟩ := at_some (xs := L.map V.int) h0 (by rw [List.length_map]; exact h1)
  obtain ⟨k, hk, rfl⟩ := List.mem_map.mp m
  exact ⟨k, e, hk⟩
/-- a sign of a written text at a drawn place -/
theorem sign_some {z : Str} {r : Int} (h0 : 0 ≤ r) (h1 : r < z.cps.toList.length) : ∃ c, atI z.cps.toList r = some c ∧ c ∈ z.cps.toList := at_some h0 h1
theorem len_app (a b : Str) : (a ++ b).length = a.length + b.length := by
  have h := congrArg List.length (TL.tl_append a b)
  rw [List.length_append, ← TL.len_tl, ← TL.len_tl, ← TL.len_tl] at h
  exact h
theorem len_one {c : Nat} : (⟨#[c]⟩ : Str).length = 1 := rfl
end L2.A

namespace L2.A
open PySem PySem.Spec PyProof.Rows
section
variable {σ : St} {H : Hp} {Q : VK} {QB : Bool → Hp → Prop} {tt tu : TT} {ta tb : TE} {c1 c2 : Bool} {v1 v2 : V}
/-! ### and, or whose parts lay nothing: one value, no two ways -/
theorem go_andP (h1 : ∀ QB' : Bool → Hp → Prop, QB' c1 H → tt σ H QB') (h2 : ∀ QB' : Bool → Hp → Prop, QB' c2 H → tu σ H QB') (h : QB (c1 && c2) H) : tAnd tt tu σ H QB := h1 _ (by
  cases c1 with
  | true => exact iteT (h2 _ h)
  | false => exact iteF h)
theorem go_orP (h1 : ∀ QB' : Bool → Hp → Prop, QB' c1 H → tt σ H QB') (h2 : ∀ QB' : Bool → Hp → Prop, QB' c2 H → tu σ H QB') (h : QB (c1 || c2) H) : tOr tt tu σ H QB := h1 _ (by
  cases c1 with
  | true => exact iteT h
  | false => exact iteF (h2 _ h))
theorem go_andVP (h1 : ∀ Q' : VK, Q' (.bl c1) H → ta σ H Q') (h2 : ∀ Q' : VK, Q' (.bl c2) H → tb σ H Q') (h : Q (.bl (c1 && c2)) H) : tAndV ta tb σ H Q := h1 _ ⟨c1, rfl, by
  cases c1 with
  | true => exact iteT (h2 _ h)
  | false => exact iteF h⟩
theorem go_orVP (h1 : ∀ Q' : VK, Q' (.bl c1) H → ta σ H Q') (h2 : ∀ Q' : VK, Q' (.bl c2) H → tb σ H Q') (h : Q (.bl (c1 || c2)) H) : tOrV ta tb σ H Q := h1 _ ⟨c1, rfl, by
  cases c1 with
  | true => exact iteT h
  | false => exact iteF (h2 _ h)⟩
theorem go_ifxP (h1 : ∀ QB' : Bool → Hp → Prop, QB' c1 H → tt σ H QB') (h2 : ∀ Q' : VK, Q' v1 H → ta σ H Q') (h3 : ∀ Q' : VK, Q' v2 H → tb σ H Q') (h : Q (if c1 = true then v1 else v2) H) : tIf tt ta tb σ H Q := h1 _ (by
  cases c1 with
  | true => exact iteT (h2 _ h)
  | false => exact iteF (h3 _ h))
theorem and_join (h2 : ∀ QB' : Bool → Hp → Prop, QB' c2 H → tu σ H QB') (h : QB (c1 && c2) H) : if c1 = true then tu σ H QB else QB false H := by
  cases c1 with
  | true => exact iteT (h2 _ h)
  | false => exact iteF h
theorem or_join (h2 : ∀ QB' : Bool → Hp → Prop, QB' c2 H → tu σ H QB') (h : QB (c1 || c2) H) : if c1 = true then QB true H else tu σ H QB := by
  cases c1 with
  | true => exact iteT h
  | false => exact iteF (h2 _ h)
theorem andV_join (h2 : ∀ Q' : VK, Q' (.bl c2) H → tb σ H Q') (h : Q (.bl (c1 && c2)) H) : if c1 = true then tb σ H Q else Q (.bl false) H := by
  cases c1 with
  | true => exact iteT (h2 _ h)
  | false => exact iteF h
theorem orV_join (h2 : ∀ Q' : VK, Q' (.bl c2) H → tb σ H Q') (h : Q (.bl (c1 || c2)) H) : if c1 = true then Q (.bl true) H else tb σ H Q := by
  cases c1 with
  | true => exact iteT h
  | false => exact iteF (h2 _ h)
/-- the same where the parts may lay new objects -/
theorem go_andS (h1 : ∀ QB' : Bool → Hp → Prop, (∀ H', Same H H' → QB' c1 H') → tt σ H QB') (h2 : ∀ H1, Same H H1 → ∀ QB' : Bool → Hp → Prop, (∀ H', Same H1 H' → QB' c2 H') → tu σ H1 QB') (h : ∀ H', Same H H' → QB (c1 && c2) H') : tAnd tt tu σ H QB := h1 _ fun H1 s1 => by
  cases c1 with
  | true => exact iteT (h2 _ s1 _ fun H2 s2 => h _ (s1.trans s2))
  | false => exact iteF (h _ s1)
theorem go_orS (h1 : ∀ QB' : Bool → Hp → Prop, (∀ H', Same H H' → QB' c1 H') → tt σ H QB') (h2 : ∀ H1, Same H H1 → ∀ QB' : Bool → Hp → Prop, (∀ H', Same H1 H' → QB' c2 H') → tu σ H1 QB') (h : ∀ H', Same H H' → QB (c1 || c2) H') : tOr tt tu σ H QB := h1 _ fun H1 s1 => by
  cases c1 with
  | true => exact iteT (h _ s1)
  | false => exact iteF (h2 _ s1 _ fun H2 s2 => h _ (s1.trans s2))
end
end L2.A

namespace L2.A
open PySem PySem.Spec PyProof.Rows
/-- a statement, then the rest, with a word between them: what follows is shown once, from Mid -/
def tCut (t u : TS) : TS := fun D σ H => ∃ Mid : St → Hp → Prop, t { D with nx := Mid } σ H ∧ ∀ σ' H', Mid σ' H' → u D σ' H'
theorem pss_cut {X : Cx} {st : Stmt} {rest : List Stmt} {t u : TS} (h1 : PS X st t) (h2 : PSs X rest u) : PSs X (st :: rest) (tCut t u) := by
  refine ⟨fun pins s σ H D I h => ?_⟩
  obtain ⟨Mid, hm, hu⟩ := h
  refine wpAny_execs_cons (thn (h1.run pins s σ H { D with nx := Mid } I hm) fun f s1 q => ?_)
  cases f with
  | next =>
    obtain ⟨σ', H', I', q⟩ := q
    exact h2.run pins s1 σ' H' D I' (hu σ' H' q)
  | ret v => exact q
  | brk => exact q
  | cont => exact q
theorem go_cut {t u : TS} {D : Ends} {σ : St} {H : Hp} (Mid : St → Hp → Prop) (h1 : t { D with nx := Mid } σ H) (h2 : ∀ σ' H', Mid σ' H' → u D σ' H') : tCut t u D σ H := ⟨Mid, h1, h2⟩
end L2.A

namespace L2.A
open PySem PySem.Spec PyProof.Rows
theorem seqT_same {K : PySem.W.Frag} {H H' : Hp} {p : Addr} {xs : List V} (h : SqT K H p xs) (s : Same H H') : SqT K H' p xs := by
  rcases h with (h | ⟨o, h⟩) | h
  · exact .inl (.inl (s _ _ h))
  · exact .inl (.inr ⟨o, s _ _ h⟩)
  · exact .inr h
theorem seqL_same {K : PySem.W.Frag} {H H' : Hp} {p : Addr} {xs : List V} (h : SqL K H p xs) (s : Same H H') : SqL K H' p xs := s.seq h
/-- == of scalars in short -/
abbrev eI (a b : Int) : Bool := decide (V.int a = V.int b)
abbrev eS (a b : Str) : Bool := decide (V.str a = V.str b)
theorem eI_eq (a b : Int) : eI a b = decide (a = b) := by simp
theorem eS_eq (a b : Str) : eS a b = decide (a = b) := by simp
end L2.A

namespace L2.A
open PySem PySem.Spec PyProof.Rows
section
variable {σ : St} {H : Hp} {Q : VK}
/-! ### displays of dicts -/
def kvOf (p : V × V) : Key × V := (match p.1 with | .str x => Sum.inr x | .int i => Sum.inl i | _ => Sum.inl 0, p.2)
def DispK (p : Addr) (ps : List (V × V)) (H2 : Hp) (Q : VK) : Prop := H2 p = some (.dK []) ∧ ∃ kvs : List (Key × V), ps = kvs.map (fun kv => (kV kv.1, kv.2)) ∧ kvs.length ≤ 15 ∧ Q (.ref p) (upd H2 p (.dK (mergeK [] kvs)))
def DispN (trs : List (TE × TE)) (σ : St) (H : Hp) (Q : VK) : Prop := ∀ p, H p = none → tPairs trs σ (upd H p (.dK [])) fun ps H2 => DispK p ps H2 Q
theorem go_disp {trs : List (TE × TE)} (h : DispN trs σ H Q) : tDisp trs σ H Q := h
theorem go_pairs {tk tv : TE} {r : List (TE × TE)} {R : List (V × V) → Hp → Prop} (h : tk σ H fun k H1 => tv σ H1 fun v H2 => tPairs r σ H2 fun ps H3 => R ((k, v) :: ps) H3) : tPairs ((tk, tv) :: r) σ H R := h
theorem go_pairs0 {R : List (V × V) → Hp → Prop} (h : R [] H) : tPairs [] σ H R := h
theorem go_dispK {p : Addr} {ps : List (V × V)} (h0 : H p = some (.dK [])) (e : ps = (ps.map kvOf).map (fun kv => (kV kv.1, kv.2))) (hl : Nat.ble (ps.map kvOf).length 15 = true) (h : Q (.ref p) (upd H p (.dK (mergeK [] (ps.map kvOf))))) : DispK p ps H Q :=
  ⟨h0, _, e, Nat.le_of_ble_eq_true hl, h⟩
end
end L2.A

namespace L2.A
open PySem PySem.Spec PyProof.Rows
theorem upd_free {H : Hp} {a b : Addr} {o : HO} (h : upd H a o b = none) : H b = none := by
  by_cases e : b = a
  · subst e; rw [upd_same] at h; cases h
  · rw [upd_ne e] at h; exact h
end L2.A

namespace L2.A
open PySem PySem.Spec PyProof.Rows
/-- a statement that lays nothing: the slots behind it told -/
theorem go_cutP {t u : TS} {D : Ends} {σ : St} {H : Hp} (σ1 : St) (h1 : t { D with nx := fun σ' H' => σ' = σ1 ∧ H' = H } σ H) (h2 : u D σ1 H) : tCut t u D σ H := ⟨_, h1, fun _ _ ⟨e1, e2⟩ => by rw [e1, e2]; exact h2⟩
/-- .. that may lay new objects -/
theorem go_cutS {t u : TS} {D : Ends} {σ : St} {H : Hp} (σ1 : St) (h1 : t { D with nx := fun σ' H' => σ' = σ1 ∧ Same H H' } σ H) (h2 : ∀ H', Same H H' → u D σ1 H') : tCut t u D σ H := ⟨_, h1, fun _ _ ⟨e1, e2⟩ => by rw [e1]; exact h2 _ e2⟩
end L2.A

namespace L2.A
open PySem PySem.Spec PyProof.Rows
section
variable {X : Cx} {K : PySem.W.Frag} {σ : St} {H : Hp} {Q : VK}
/-! ### slices -/
def PartI (x : V) (H : Hp) (R : Option Int → Hp → Prop) : Prop := ∃ i, x = .int i ∧ R (some i) H
theorem go_sl {r : V → Option Int → Option Int → Hp → VK → Prop} {te : TE} {tl th : TO} (h : te σ H fun x H1 => tl σ H1 fun l H2 => th σ H2 fun u H3 => r x l u H3 Q) : tSl r te tl th σ H Q := h
theorem go_nopart {R : Option Int → Hp → Prop} (h : R none H) : tNoPart σ H R := h
theorem go_part {t : TE} {R : Option Int → Hp → Prop} (h : t σ H fun x H1 => PartI x H1 R) : tPart t σ H R := h
theorem go_partI {i : Int} {R : Option Int → Hp → Prop} (h : R (some i) H) : PartI (.int i) H R := ⟨i, rfl, h⟩
theorem go_slT {p : Addr} {xs ys : List V} {lo hi : Option Int} (hp : SqT K H p xs) (e : cutV xs lo hi = ys) (n : (Nat.beq (HT.sIx xs.length 0 lo) 0 && Nat.beq (HT.sIx xs.length xs.length hi) xs.length) = false) (h : NewO (.tup ys) H Q) : rSlX K (.ref p) lo hi H Q :=
  .inr (.inl ⟨p, xs, rfl, hp, fun ⟨z1, z2⟩ => by rw [z1, z2] at n; simp at n, by rw [e]; exact h⟩)
theorem go_slL {p : Addr} {xs ys : List V} {lo hi : Option Int} (hp : SqL K H p xs) (e : cutV xs lo hi = ys) (h : NewO (.lst ys) H Q) : rSlX K (.ref p) lo hi H Q := .inl ⟨p, xs, rfl, hp, by rw [e]; exact h⟩
theorem go_slS {z : Str} {lo hi : Option Int} (hz : z.length ≤ sizeLine) (h : Q (.str (cutS z lo hi)) H) : rSlX K (.str z) lo hi H Q := .inr (.inr ⟨z, rfl, hz, h⟩)
/-! ### min, max of three -/
def rMn3 : List V → Hp → VK → Prop := fun xs H Q => ∃ i j k : Int, xs = [.int i, .int j, .int k] ∧ Q (.int (min i (min j k))) H
def rMx3 : List V → Hp → VK → Prop := fun xs H Q => ∃ i j k : Int, xs = [.int i, .int j, .int k] ∧ Q (.int (max i (max j k))) H
theorem vals3 {x y z : V} {us : List Value} (r : Vals [x, y, z] us) : ∃ u v w', us = [u, v, w'] ∧ RelV x u ∧ RelV y v ∧ RelV z w' := by
  cases r with
  | cons r1 r2 =>
    obtain ⟨u, v, rfl, a, b⟩ := vals2 r2
    exact ⟨_, _, _, rfl, r1, a, b⟩
theorem call_mn3 (hc : X.calm = true) : CallR X (.builtin "min") rMn3 := by
  intro pins s σ H xs us Q I r h
  obtain ⟨i, j, k, rfl, q⟩ := h
  obtain ⟨u, v, w', rfl, ⟨t, rfl⟩, ⟨t', rfl⟩, ⟨t2, rfl⟩⟩ := vals3 r
  refine min_three_ints (I.ok.hd hc) fun h' tk hk => ⟨_, H, I.kept hk, ?_, q⟩
  by_cases h1 : j < i
  · by_cases h2 : k < j
    · rw [if_pos h1, if_pos h2]; exact ⟨_, by rw [show min i (min j k) = k by omega]⟩
    · rw [if_pos h1, if_neg h2]; exact ⟨_, by rw [show min i (min j k) = j by omega]⟩
  · by_cases h2 : k < i
    · rw [if_neg h1, if_pos h2]; exact ⟨_, by rw [show min i (min j k) = k by omega]⟩
    · rw [if_neg h1, if_neg h2]; exact ⟨_, by rw [show min i (min j k) = i by omega]⟩
theorem call_mx3 (hc : X.calm = true) : CallR X (.builtin "max") rMx3 := by
  intro pins s σ H xs us Q I r h
  obtain ⟨i, j, k, rfl, q⟩ := h
  obtain ⟨u, v, w', rfl, ⟨t, rfl⟩, ⟨t', rfl⟩, ⟨t2, rfl⟩⟩ := vals3 r
  refine max_three_ints (I.ok.hd hc) fun h' tk hk => ⟨_, H, I.kept hk, ?_, q⟩
  by_cases h1 : j > i
  · by_cases h2 : k > j
    · rw [if_pos h1, if_pos h2]; exact ⟨_, by rw [show max i (max j k) = k by omega]⟩
    · rw [if_pos h1, if_neg h2]; exact ⟨_, by rw [show max i (max j k) = j by omega]⟩
  · by_cases h2 : k > i
    · rw [if_neg h1, if_pos h2]; exact ⟨_, by rw [show max i (max j k) = k by omega]⟩
    · rw [if_neg h1, if_neg h2]; exact ⟨_, by rw [show max i (max j k) = i by omega]⟩
theorem go_min3 {a b c : Int} (h : Q (.int (min a (min b c))) H) : rMn3 [V.int a, V.int b, V.int c] H Q := ⟨a, b, c, rfl, h⟩
theorem go_max3 {a b c : Int} (h : Q (.int (max a (max b c))) H) : rMx3 [V.int a, V.int b, V.int c] H Q := ⟨a, b, c, rfl, h⟩
end
end L2.A

namespace L2.A
open PySem PySem.Spec PyProof.Rows
theorem ge2 {H H' : Hp} {a : Addr} {o : HO} (h : H a = some o) (s : Same H H') : H' a = some o := s a o h
end L2.A


namespace L2.A
open PySem PySem.Spec PyProof.Rows
/-! ### == of data at any depth -/
mutual
theorem Dp.same {K : PySem.W.Frag} {H H' : Hp} (s : Same H H') : ∀ (d : PyData) (v : V), Dp K H v d → Dp K H' v d
  | .none, _, h => by cases h; exact .non
  | .bool b, _, h => by cases h; exact .bl b
  | .int i, _, h => by cases h; exact .int i
  | .str x, _, h => by cases h; exact .str x
  | .list ds, _, h => by
    cases h with
    | lst hs ha => exact .lst (s.seq hs) (Dp.sameAll s ds _ ha)
  | .tuple ds, _, h => by
    cases h with
    | tup hs ha => exact .tup (seqT_same hs s) (Dp.sameAll s ds _ ha)
  | .dict _, _, h => by cases h
theorem Dp.sameAll {K : PySem.W.Frag} {H H' : Hp} (s : Same H H') : ∀ (ds : List PyData) (vs : List V), DpAll K H vs ds → DpAll K H' vs ds
  | [], _, h => by cases h; exact .nil
  | d :: ds, _, h => by
    cases h with
    | cons h1 h2 => exact .cons (Dp.same s d _ h1) (Dp.sameAll s ds _ h2)
end
/-- the datum of a scalar -/
def dV : V → PyData
  | .bl b => .bool b
  | .int i => .int i
  | .str x => .str x
  | _ => .none
theorem Dp.flat {K : PySem.W.Frag} {H : Hp} : ∀ {v : V}, flatV v = true → Dp K H v (dV v)
  | .non, _ => .non
  | .bl b, _ => .bl b
  | .int i, _ => .int i
  | .str x, _ => .str x
theorem DpAll.flat {K : PySem.W.Frag} {H : Hp} : ∀ {vs : List V}, vs.all flatV = true → DpAll K H vs (vs.map dV)
  | [], _ => .nil
  | v :: vs, h => by
    have h' : flatV v = true ∧ vs.all flatV = true := by simpa using h
    exact .cons (Dp.flat h'.1) (DpAll.flat h'.2)
/-- a scalar whose text may be laid -/
def okV : V → Bool
  | .non | .bl _ | .int _ => true
  | .str x => PySem.PyData.strOk x
  | _ => false
theorem okV_flat {v : V} (h : okV v = true) : flatV v = true := by cases v <;> simp_all [okV, flatV]
theorem okV_all {vs : List V} (h : vs.all okV = true) : vs.all flatV = true := by
  rw [List.all_eq_true] at h ⊢
  exact fun v m => okV_flat (h v m)
theorem lay_flat {v : V} (h : okV v = true) : (dV v).canLay0 = true := by cases v <;> simp_all [okV, dV, PyData.canLay0]
theorem layAll_flat : ∀ {vs : List V}, vs.all okV = true → PyData.canLayAll0 (vs.map dV) = true
  | [], _ => rfl
  | v :: vs, h => by
    have h' : okV v = true ∧ vs.all okV = true := by simpa using h
    simp only [List.map_cons, PyData.canLayAll0, lay_flat h'.1, layAll_flat h'.2, Bool.and_self]
theorem depth_flat {v : V} : (dV v).depth = 0 := by cases v <;> simp [dV, PyData.depth]
theorem depthAll_flat : ∀ {vs : List V}, PyData.depthAll (vs.map dV) = 0
  | [] => rfl
  | v :: vs => by simp only [List.map_cons, PyData.depthAll, depth_flat, depthAll_flat]; rfl
theorem shaped_tup {vs : List V} (h : vs.all okV = true) : SeqAt.shaped (.tuple (vs.map dV)) = true := by
  simp only [SeqAt.shaped, PyData.canLay0, layAll_flat h, PyData.depth, depthAll_flat]; rfl
theorem shaped_lst {vs : List V} (h : vs.all okV = true) : SeqAt.shaped (.list (vs.map dV)) = true := by
  simp only [SeqAt.shaped, PyData.canLay0, layAll_flat h, PyData.depth, depthAll_flat]; rfl
/-- == of rows of scalars -/
def eqVs (xs ys : List V) : Bool := PyData.eqvAll (xs.map dV) (ys.map dV)
theorem eqVs_refl {vs : List V} (h : vs.all okV = true) : eqVs vs vs = true := SeqAt.eqvAll_refl _ (layAll_flat h)
section
variable {K : PySem.W.Frag} {H : Hp} {Q : VK}
theorem go_eqT {p q : Addr} {xs ys : List V} (hp : SqT K H p xs) (hq : SqT K H q ys) (ox : xs.all okV = true) (oy : ys.all okV = true) (h : Q (.bl (eqVs xs ys)) H) : rEqX K (.ref p) (.ref q) H Q :=
  .inr ⟨_, _, .tup hp (DpAll.flat (okV_all ox)), .tup hq (DpAll.flat (okV_all oy)), shaped_tup ox, shaped_tup oy, by rw [PyData.eqv]; exact h⟩
theorem go_neT {p q : Addr} {xs ys : List V} (hp : SqT K H p xs) (hq : SqT K H q ys) (ox : xs.all okV = true) (oy : ys.all okV = true) (h : Q (.bl (!eqVs xs ys)) H) : rNeX K (.ref p) (.ref q) H Q :=
  .inr ⟨_, _, .tup hp (DpAll.flat (okV_all ox)), .tup hq (DpAll.flat (okV_all oy)), shaped_tup ox, shaped_tup oy, by rw [PyData.eqv]; exact h⟩
theorem go_eqL {p q : Addr} {xs ys : List V} (hp : SqL K H p xs) (hq : SqL K H q ys) (ox : xs.all okV = true) (oy : ys.all okV = true) (h : Q (.bl (eqVs xs ys)) H) : rEqX K (.ref p) (.ref q) H Q :=
  .inr ⟨_, _, .lst hp (DpAll.flat (okV_all ox)), .lst hq (DpAll.flat (okV_all oy)), shaped_lst ox, shaped_lst oy, by rw [PyData.eqv]; exact h⟩
theorem go_neL {p q : Addr} {xs ys : List V} (hp : SqL K H p xs) (hq : SqL K H q ys) (ox : xs.all okV = true) (oy : ys.all okV = true) (h : Q (.bl (!eqVs xs ys)) H) : rNeX K (.ref p) (.ref q) H Q :=
  .inr ⟨_, _, .lst hp (DpAll.flat (okV_all ox)), .lst hq (DpAll.flat (okV_all oy)), shaped_lst ox, shaped_lst oy, by rw [PyData.eqv]; exact h⟩
end
end L2.A


namespace L2.A
open PySem PySem.Spec PyProof.Rows
section
variable {X : Cx} {K : PySem.W.Frag}
/-! ### the same rules with the fragment named (within a comprehension's own context) -/
theorem op_addK (hK : X.K = K) : OpR X (binaryOp .Add) (rAddX K) := hK ▸ op_addX
theorem op_eqK (hK : X.K = K) (hu : X.A.units + 64 < cLine) : OpR X (compareOp .Eq) (rEqX K) := hK ▸ op_eqX hu
theorem op_neK (hK : X.K = K) (hu : X.A.units + 64 < cLine) : OpR X (compareOp .NotEq) (rNeX K) := hK ▸ op_neX hu
theorem op_inK (hK : X.K = K) (hu : X.A.units + 1 < cLine) : OpR X (compareOp .In) (rInX K) := hK ▸ op_inX hu
theorem op_notInK (hK : X.K = K) (hu : X.A.units + 1 < cLine) : OpR X (compareOp .NotIn) (rNotInX K) := hK ▸ op_notInX hu
theorem op_isK' (hK : X.K = K) : OpR X (compareOp .Is) (rIsX K) := hK ▸ op_isX
theorem op_isNotK' (hK : X.K = K) : OpR X (compareOp .IsNot) (rIsNotX K) := hK ▸ op_isNotX
theorem ix_K (hK : X.K = K) (hu : X.A.units + 1 < cLine) : IxR X (rIxX K) := hK ▸ ix_X hu
theorem sl_K (hK : X.K = K) : SlR X (rSlX K) := hK ▸ sl_X
theorem call_lenK (hK : X.K = K) : CallR X (.builtin "len") (rLenX K) := hK ▸ call_lenX
theorem call_isiK (hK : X.K = K) : CallR X (.builtin "isinstance") (rIsiX K) := hK ▸ call_isiX
theorem call_listK (hK : X.K = K) : CallR X (.type "list") (rListO K) := hK ▸ call_listO
theorem call_tupK (hK : X.K = K) : CallR X (.type "tuple") (rTupO K) := hK ▸ call_tupO
theorem pt_truK (hK : X.K = K) {a : Expr} {ta : TE} (ha : PE X a ta) (he : ∀ whole, isTrue a X.env whole = (do let v ← whole; standAt a.pos; holding [v] (truthy v)) := by intro _; rfl) : PT X a (tTruX K ta) := hK ▸ pt_truX ha he
theorem pi_K (hK : X.K = K) {tg l : Expr} {tl : TE} (hl : PE X l tl) : PI X tg l (iX K tl) := hK ▸ pi_X hl
theorem cr_sumK (hK : X.K = K) (hc : X.calm = true) : CallR X (.builtin "sum") (rSum K) := hK ▸ cr_sum hc
theorem cr_allK (hK : X.K = K) (hc : X.calm = true) : CallR X (.builtin "all") (rAll K) := hK ▸ cr_all hc
theorem cr_anyK (hK : X.K = K) (hc : X.calm = true) : CallR X (.builtin "any") (rAny K) := hK ▸ cr_any hc
theorem pg_tupK (hK : X.K = K) {es : List Expr} {k : Nat} {t : TGs} {n : Nat} {pos : Pos} (hc : X.calm = true) (h : PGs X es t)
    (hn : (assignEach es X.env).length = n := by rfl) (hst : (assignEach es X.env).findIdx? (·.1) = none := by rfl) : PG X (.Tuple es k pos) (gTup K n t) := hK ▸ pg_tup hc h hn hst
end
def BmW (K : PySem.W.Frag) (T : String) (rc : V → List V → Hp → VK → Prop) (ta : TA) (σ : St) (x : V) (H1 : Hp) (Q : VK) : Prop := tyV K T x H1 ∧ ta σ H1 fun vs H2 => rc x vs H2 Q
def BmW0 (K : PySem.W.Frag) (T : String) (rc : V → List V → Hp → VK → Prop) (x : V) (H1 : Hp) (Q : VK) : Prop := tyV K T x H1 ∧ rc x [] H1 Q
section
variable {K : PySem.W.Frag} {H : Hp} {Q : VK} {σ : St}
/-! ### bound methods -/
theorem go_bm {T : String} {rc : V → List V → Hp → VK → Prop} {te : TE} {ta : TA} (h : te σ H fun x H1 => BmW K T rc ta σ x H1 Q) : tBM K T rc te ta σ H Q := h
theorem go_bmW {T : String} {rc : V → List V → Hp → VK → Prop} {ta : TA} {x : V} (h1 : tyV K T x H) (h : ta σ H fun vs H2 => rc x vs H2 Q) : BmW K T rc ta σ x H Q := ⟨h1, h⟩
theorem go_bm0 {T : String} {rc : V → List V → Hp → VK → Prop} {te : TE} (h : te σ H fun x H1 => BmW0 K T rc x H1 Q) : tBM0 K T rc te σ H Q := h
theorem go_bmW0 {T : String} {rc : V → List V → Hp → VK → Prop} {x : V} (h1 : tyV K T x H) (h : rc x [] H Q) : BmW0 K T rc x H Q := ⟨h1, h⟩
theorem tyV_s {z : Str} : tyV K "str" (.str z) H := rfl
theorem tyV_l {p : Addr} {xs : List V} (h : SqL K H p xs) : tyV K "list" (.ref p) H := .inl ⟨rfl, xs, h⟩
theorem tyV_d {p : Addr} {kvs : List (Key × V)} (h : H p = some (.dK kvs)) : tyV K "dict" (.ref p) H := .inr (.inr (.inl ⟨rfl, .inl ⟨kvs, h⟩⟩))
theorem tyV_dT {p : Addr} {kvs} (h : H p = some (.dT kvs)) : tyV K "dict" (.ref p) H := .inr (.inr (.inl ⟨rfl, .inr ⟨kvs, h⟩⟩))
theorem go_append {l : Addr} {xs : List V} {y : V} (hl : H l = some (.lst xs)) (z : xs.length < 100000) (h : Q .non (upd H l (.lst (xs ++ [y])))) : rAppend (.ref l) [y] H Q := ⟨l, xs, y, rfl, rfl, hl, Nat.lt_of_lt_of_le z (by decide), h⟩
end
end L2.A

namespace L2.A
open PySem PySem.Spec PyProof.Rows
section
variable {σ σ' : St} {H : Hp} {D : Ends} {u v w : V} {i j l : Nat} {ta : TA}
def P3 (i j l : Nat) (σ : St) (D : Ends) (vs : List V) (H1 : Hp) : Prop := ∃ u v w, vs = [u, v, w] ∧ D.nx (((σ.set i (some u)).set j (some v)).set l (some w)) H1
def P2 (i j : Nat) (σ : St) (D : Ends) (vs : List V) (H1 : Hp) : Prop := ∃ u v, vs = [u, v] ∧ D.nx ((σ.set i (some u)).set j (some v)) H1
theorem go_par3 (h : ta σ H fun vs H1 => P3 i j l σ D vs H1) : tPar3 i j l ta D σ H := h
theorem go_par (h : ta σ H fun vs H1 => P2 i j σ D vs H1) : tPar i j ta D σ H := h
theorem go_p3 (e : ((σ.set i (some u)).set j (some v)).set l (some w) = σ') (h : D.nx σ' H) : P3 i j l σ D [u, v, w] H := ⟨u, v, w, rfl, by rw [e]; exact h⟩
theorem go_p2 (e : (σ.set i (some u)).set j (some v) = σ') (h : D.nx σ' H) : P2 i j σ D [u, v] H := ⟨u, v, rfl, by rw [e]; exact h⟩
end
theorem kp_mut {fp : Addr → Prop} {H H' : Hp} {l : Addr} {o : HO} (k : Kp fp H H') (h : H l = none) : Kp fp H (upd H' l o) := fun a u e n => by rw [upd_ne (ne_of_none e h)]; exact k a u e n
theorem kp_new {fp : Addr → Prop} {H H' : Hp} {l : Addr} {o : HO} (k : Kp fp H H') (h : H' l = none) : Kp fp H (upd H' l o) := k.trans (Kp.same (same_new h))
end L2.A

namespace L2.A
open PySem PySem.Spec PyProof.Rows
/-- a new object, the heap abstract -/
theorem go_new {o : HO} {H : Hp} {Q : VK} (h : ∀ p H', H p = none → Same H H' → H' p = some o → Q (.ref p) H') : NewO o H Q := fun p hp => h p _ hp (same_new hp) upd_same
/-- the same, from an earlier heap -/
theorem go_newS {o : HO} {H0 H : Hp} {Q : VK} (s : Same H0 H) (h : ∀ p H', H0 p = none → Same H0 H' → H' p = some o → Q (.ref p) H') : NewO o H Q := fun p hp => h p _ (s.free hp) (s.trans (same_new hp)) upd_same
end L2.A

namespace L2.A
open PySem PySem.Spec PyProof.Rows
section
variable {X : Cx} {K : PySem.W.Frag} {σ σ' : St} {H : Hp} {D : Ends} {Q : VK} {J : It} {n : Nat} {G : Hp → Prop} {Y : Nat → Hp → V → Hp → Prop}
/-! ### walks of any kind -/
theorem ForW.it (w : Walk J n G Y) {g : TG} {tb : TS} (Pv : Nat → St → Hp → Prop) (h0 : Pv 0 σ H) (hG : ∀ i σ H, i ≤ n → Pv i σ H → G H)
    (hs : ∀ i x σ H H', i < n → Pv i σ H → Y i H x H' → g x σ H' fun σ2 H2 => tb { D with nx := Pv (i + 1), ct := Pv (i + 1), bk := D.nx } σ2 H2) (hd : ∀ σ H, Pv n σ H → D.nx σ H) : ForW J g tb D σ H := for_it w Pv h0 hG hs hd
theorem LcW.it (w : Walk J n G Y) {H1 : Hp} {g : TG} {tt : TT} {te : TE} {vs : List Nat} (R : Addr → Nat → List V → Hp → Prop) (hz : n ≤ 100000) (h0 : ∀ D, H1 D = none → R D 0 [] (upd H1 D (.lst []))) (hG : ∀ D i ys H, H1 D = none → i ≤ n → H D = some (.lst ys) → R D i ys H → G H)
    (hs : ∀ D i x ys H H', H1 D = none → i < n → ys.length ≤ i → H D = some (.lst ys) → R D i ys H → Y i H x H' → ∀ (yes : V → Hp → Prop) (no : Hp → Prop),
      (∀ y H'', H'' D = some (.lst ys) → R D (i + 1) (ys ++ [y]) (upd H'' D (.lst (ys ++ [y]))) → yes y H'') → (∀ H'', H'' D = some (.lst ys) → R D (i + 1) ys H'' → no H'') →
      g x (wipe σ vs) H' fun σ2 H2 => wipe σ2 vs = wipe σ vs ∧ tt σ2 H2 fun b H3 => if b = true then te σ2 H3 yes else no H3)
    (hd : ∀ D ys H', H1 D = none → H' D = some (.lst ys) → ys.length ≤ n → R D n ys H' → Q (.ref D) H') : LcW J g tt te vs σ H1 Q := by
  intro D hD
  refine lc_it w (fun i H' => ∃ ys, H' D = some (.lst ys) ∧ ys.length ≤ i ∧ R D i ys H') ⟨[], upd_same, Nat.le_refl _, h0 D hD⟩ (fun i H' hi ⟨ys, e, _, r⟩ => hG D i ys H' hD hi e r) (fun i x H' H'' hi ⟨ys, e, hl, r⟩ y => ?_) fun H' ⟨ys, e, hl, r⟩ => hd D ys H' hD e hl r
  refine hs D i x ys H' H'' hD hi hl e r y _ _ (fun z H3 e3 r3 => ⟨ys, e3, ?_, ys ++ [z], upd_same, by rw [List.length_append]; show ys.length + 1 ≤ _; omega, r3⟩) fun H3 e3 r3 => ⟨ys, e3, by omega, r3⟩
  exact Nat.lt_of_le_of_lt hl (Nat.lt_of_lt_of_le hi (Nat.le_trans hz (by decide)))
/-! ### reversed(range), enumerate, zip -/
def RvR (a b : Int) (H1 : Hp) (R : It → Hp → Prop) : Prop := -(2 ^ 62) ≤ a ∧ a < 2 ^ 62 ∧ -(2 ^ 62) ≤ b ∧ b < 2 ^ 62 ∧ R (Itc (a + (((b - a).toNat : Nat) : Int) - 1) (-1) (b - a).toNat) H1
def Rg1 (x : V) (H1 : Hp) (Q : Int → Int → Hp → Prop) : Prop := ∃ n, x = .int n ∧ Q 0 n H1
theorem go_revR {tr : St → Hp → (Int → Int → Hp → Prop) → Prop} {R : It → Hp → Prop} (h : tr σ H fun a b H1 => RvR a b H1 R) : iRevR tr σ H R := h
theorem go_rg1 {ta : TE} {Q : Int → Int → Hp → Prop} (h : ta σ H fun x H1 => Rg1 x H1 Q) : tRg1 ta σ H Q := h
theorem go_rg1b {n : Int} {Q : Int → Int → Hp → Prop} (h : Q 0 n H) : Rg1 (.int n) H Q := ⟨n, rfl, h⟩
theorem go_rvR {b : Int} {R : It → Hp → Prop} (h1 : 0 ≤ b ∧ b ≤ 100000) (h : R (Itc (b - 1) (-1) b.toNat) H) : RvR 0 b H R := ⟨by omega, by omega, by omega, by omega, by rw [show (0 : Int) + (((b - 0).toNat : Nat) : Int) - 1 = b - 1 by omega, show (b - 0).toNat = b.toNat by omega]; exact h⟩
def EnW (K : PySem.W.Frag) (vs : List V) (H1 : Hp) (R : It → Hp → Prop) : Prop := ∃ a xs, vs = [.ref a] ∧ SqL K H1 a xs ∧ R (Ite K a) H1
theorem go_enum {ta : TA} {R : It → Hp → Prop} (h : ta σ H fun vs H1 => EnW K vs H1 R) : iEnum K ta σ H R := h
theorem go_enW {a : Addr} {xs : List V} {R : It → Hp → Prop} (hS : SqL K H a xs) (h : R (Ite K a) H) : EnW K [.ref a] H R := ⟨a, xs, rfl, hS, h⟩
def ZpW (K : PySem.W.Frag) (vs : List V) (H1 : Hp) (R : It → Hp → Prop) : Prop := ∃ a b xs ys, vs = [.ref a, .ref b] ∧ SqL K H1 a xs ∧ SqL K H1 b ys ∧ R (Itz K a b) H1
theorem go_zip {ta : TA} {R : It → Hp → Prop} (h : ta σ H fun vs H1 => ZpW K vs H1 R) : iZip K ta σ H R := h
theorem go_zpW {a b : Addr} {xs ys : List V} {R : It → Hp → Prop} (hS : SqL K H a xs) (hT : SqL K H b ys) (h : R (Itz K a b) H) : ZpW K [.ref a, .ref b] H R := ⟨a, b, xs, ys, rfl, hS, hT, h⟩
/-! ### name op= e, o[i] op= e -/
theorem ip_addX : PIp X .Add (fun x y H Q => rI0 (fun i j => .int (i + j)) x y H Q ∨ rStrA x y H Q ∨ rExt2 x y H Q) := iop_add.or (iop_add_str.or iop_ext)
def AugW (te : TE) (ti : TIp) (σ : St) (i : Nat) (D : Ends) (x : V) (H : Hp) : Prop := te σ H fun y H1 => ti x y H1 fun z H2 => D.nx (σ.set i (some z)) H2
theorem go_aug {i : Nat} {te : TE} {ti : TIp} {x : V} (e : σ[i]? = some (some x)) (h : te σ H fun y H1 => ti x y H1 fun z H2 => gName i z σ H2 D.nx) : tAug i te ti D σ H := ⟨x, e, h⟩
theorem go_ipI {f : Int → Int → Int} {a b : Int} (h : Q (.int (f a b)) H) : ipI f (.int a) (.int b) H Q := ⟨a, b, rfl, rfl, h⟩
theorem go_ipA {a b : Int} (h : Q (.int (a + b)) H) : (rI0 (fun i j => .int (i + j)) (.int a) (.int b) H Q ∨ rStrA (.int a) (.int b) H Q ∨ rExt2 (.int a) (.int b) H Q) := .inl ⟨a, b, rfl, rfl, h⟩
theorem go_ipS {a b : Str} (z : a.length + b.length ≤ sizeLine) (h : Q (.str (a ++ b)) H) : (rI0 (fun i j => .int (i + j)) (.str a) (.str b) H Q ∨ rStrA (.str a) (.str b) H Q ∨ rExt2 (.str a) (.str b) H Q) := .inr (.inl ⟨a, b, rfl, rfl, z, h⟩)
theorem go_ipL {a b : Addr} {xs ys : List V} (hp : H a = some (.lst xs)) (hq : H b = some (.lst ys)) (z : xs.length + ys.length ≤ sizeLine) (h : Q (.ref a) (upd H a (.lst (xs ++ ys)))) : (rI0 (fun i j => .int (i + j)) (.ref a) (.ref b) H Q ∨ rStrA (.ref a) (.ref b) H Q ∨ rExt2 (.ref a) (.ref b) H Q) := .inr (.inr ⟨a, b, xs, ys, rfl, rfl, hp, hq, z, h⟩)
end
/-! ### lists told by a function of the place -/
def lstF (n : Nat) (f : Nat → V) : List V := (List.range n).map f
theorem lstF_len {n : Nat} {f : Nat → V} : (lstF n f).length = n := by simp [lstF]
theorem lstF_at {n : Nat} {f : Nat → V} {i : Nat} (h : i < n) : (lstF n f)[i]? = some (f i) := by simp [lstF, h]
theorem lstF_atI {n : Nat} {f : Nat → V} {i : Int} (h0 : 0 ≤ i) (h1 : i < n) : atI (lstF n f) i = some (f i.toNat) := by
  obtain ⟨j, rfl⟩ : ∃ j : Nat, i = (j : Int) := ⟨i.toNat, by omega⟩
  exact atI_nat (lstF_at (by omega))
theorem lstF_last {n : Nat} {f : Nat → V} : atI (lstF (n + 1) f) (-1) = some (f n) := by
  have e : ixN (n + 1) (-1) = some n := by
    unfold ixN
    rw [if_neg (by omega), if_pos (by omega)]
    congr 1
    omega
  unfold atI
  rw [lstF_len, e]
  exact lstF_at (by omega)
theorem lstF_app {n : Nat} {f : Nat → V} {v : V} : lstF n f ++ [v] = lstF (n + 1) (fun i => if i = n then v else f i) := by
  unfold lstF
  rw [List.range_succ, List.map_append]
  congr 1
  · refine List.map_congr_left fun i hi => ?_
    rw [if_neg (by have := List.mem_range.mp hi; omega)]
  · simp
theorem lstF_set {n k : Nat} {f : Nat → V} {v : V} (h : k < n) : (lstF n f).set k v = lstF n (fun i => if i = k then v else f i) := by
  apply List.ext_getElem?
  intro i
  unfold lstF
  rw [List.getElem?_set]
  by_cases e : k = i
  · subst e
    simp [h]
  · rw [if_neg e]
    by_cases l : i < n
    · simp [l, Ne.symm e]
    · simp [l]
theorem lstF_congr {n : Nat} {f g : Nat → V} (h : ∀ i, i < n → f i = g i) : lstF n f = lstF n g := List.map_congr_left fun i hi => h i (List.mem_range.mp hi)
theorem lstF_cut {n m : Nat} {f : Nat → V} (h : m ≤ n) : cutV (lstF n f) none (some (m : Int)) = lstF m f := by
  unfold cutV
  rw [HT.sIx_nat, HT.sIx_none, lstF_len, Nat.min_eq_left h, List.drop_zero, Nat.sub_zero]
  unfold lstF
  rw [← List.map_take, List.take_range, Nat.min_eq_left h]
theorem lstF_of (xs : List V) (d : V) : xs = lstF xs.length (fun i => xs.getD i d) := by
  apply List.ext_getElem?
  intro i
  by_cases l : i < xs.length
  · rw [lstF_at l]; simp [l]
  · simp [lstF, l]
end L2.A

namespace L2.A
open PySem PySem.Spec PyProof.Rows
theorem DpAll.map {K : PySem.W.Frag} {H : Hp} {α : Type} {f : α → V} {g : α → PyData} : ∀ {xs : List α}, (∀ x ∈ xs, Dp K H (f x) (g x)) → DpAll K H (xs.map f) (xs.map g)
  | [], _ => .nil
  | x :: xs, h => .cons (h x (List.mem_cons_self ..)) (DpAll.map fun y m => h y (List.mem_cons_of_mem _ m))
theorem canAll_map {α : Type} {g : α → PyData} : ∀ {xs : List α}, (∀ x ∈ xs, (g x).canLay0 = true) → PyData.canLayAll0 (xs.map g) = true
  | [], _ => rfl
  | x :: xs, h => by
    simp only [List.map_cons, PyData.canLayAll0, h x (List.mem_cons_self ..), canAll_map fun y m => h y (List.mem_cons_of_mem _ m), Bool.and_self]
theorem depthAll_map {α : Type} {g : α → PyData} {d : Nat} : ∀ {xs : List α}, (∀ x ∈ xs, (g x).depth ≤ d) → PyData.depthAll (xs.map g) ≤ d
  | [], _ => Nat.zero_le _
  | x :: xs, h => by
    simp only [List.map_cons, PyData.depthAll]
    exact Nat.max_le.mpr ⟨h x (List.mem_cons_self ..), depthAll_map fun y m => h y (List.mem_cons_of_mem _ m)⟩
theorem shaped_of {d : PyData} (h1 : d.canLay0 = true) (h2 : d.depth ≤ 64) : SeqAt.shaped d = true := by
  unfold SeqAt.shaped
  rw [h1, decide_eq_true h2]; rfl
theorem go_eqD {K : PySem.W.Frag} {H : Hp} {Q : VK} {x y : V} {d e : PyData} (h1 : Dp K H x d) (h2 : Dp K H y e) (s1 : SeqAt.shaped d = true) (s2 : SeqAt.shaped e = true) (h : Q (.bl (PyData.eqv d e)) H) : rEqX K x y H Q := .inr ⟨d, e, h1, h2, s1, s2, h⟩
theorem go_neD {K : PySem.W.Frag} {H : Hp} {Q : VK} {x y : V} {d e : PyData} (h1 : Dp K H x d) (h2 : Dp K H y e) (s1 : SeqAt.shaped d = true) (s2 : SeqAt.shaped e = true) (h : Q (.bl (!PyData.eqv d e)) H) : rNeX K x y H Q := .inr ⟨d, e, h1, h2, s1, s2, h⟩
theorem go_eqDs {K : PySem.W.Frag} {H : Hp} {Q : VK} {x y : V} {d : PyData} (h1 : Dp K H x d) (h2 : Dp K H y d) (s1 : d.canLay0 = true) (s2 : d.depth ≤ 64) (h : Q (.bl true) H) : rEqX K x y H Q :=
  go_eqD h1 h2 (shaped_of s1 s2) (shaped_of s1 s2) (by rw [SeqAt.eqv_refl d s1]; exact h)
theorem go_neDs {K : PySem.W.Frag} {H : Hp} {Q : VK} {x y : V} {d : PyData} (h1 : Dp K H x d) (h2 : Dp K H y d) (s1 : d.canLay0 = true) (s2 : d.depth ≤ 64) (h : Q (.bl false) H) : rNeX K x y H Q :=
  go_neD h1 h2 (shaped_of s1 s2) (shaped_of s1 s2) (by rw [SeqAt.eqv_refl d s1]; exact h)
end L2.A

namespace L2.A
open PySem PySem.Spec PyProof.Rows
theorem lstF_cutM {n m : Nat} {f : Nat → V} : cutV (lstF n f) none (some (m : Int)) = lstF (min m n) f := by
  unfold cutV
  rw [HT.sIx_nat, HT.sIx_none, lstF_len, List.drop_zero, Nat.sub_zero]
  unfold lstF
  rw [← List.map_take, List.take_range, Nat.min_eq_left (Nat.min_le_right _ _)]
theorem cut_take {xs : List V} {k : Nat} (h : k ≤ xs.length) : cutV xs none (some (k : Int)) = xs.take k := by
  unfold cutV
  rw [HT.sIx_nat, HT.sIx_none, List.drop_zero, Nat.sub_zero, Nat.min_eq_left h]
theorem cut_drop {xs : List V} {k : Nat} (h : k ≤ xs.length) : cutV xs (some (k : Int)) none = xs.drop k := by
  unfold cutV
  rw [HT.sIx_nat, HT.sIx_none, Nat.min_eq_left h]
  exact List.take_of_length_le (by rw [List.length_drop]; omega)
theorem perm_eq : ∀ {xs ys : List Int}, xs.Perm ys → xs.Pairwise (· ≤ ·) → ys.Pairwise (· ≤ ·) → xs = ys
  | [], ys, p, _, _ => p.symm.eq_nil.symm
  | x :: xs, [], p, _, _ => p.eq_nil
  | x :: xs, y :: ys, p, hx, hy => by
    have h1 : x ≤ y := by
      rcases List.mem_cons.mp (p.symm.subset (List.mem_cons_self ..) : y ∈ x :: xs) with e | m
      · omega
      · exact List.rel_of_pairwise_cons hx m
    have h2 : y ≤ x := by
      rcases List.mem_cons.mp (p.subset (List.mem_cons_self ..) : x ∈ y :: ys) with e | m
      · omega
      · exact List.rel_of_pairwise_cons hy m
    obtain rfl : x = y := by omega
    rw [perm_eq ((List.perm_cons x).mp p) (List.Pairwise.of_cons hx) (List.Pairwise.of_cons hy)]
theorem ints_ok (ns : List Int) : (ns.map V.int).all okV = true := by
  rw [List.all_eq_true]
  intro v m
  obtain ⟨i, _, rfl⟩ := List.mem_map.mp m
  rfl
theorem go_sorted {K : PySem.W.Frag} {H : Hp} {Q : VK} {a : Addr} {ns : List Int} (hS : SqL K H a (ns.map V.int)) (hz : ns.length < 64) (h : ∀ (ns' : List Int) (p : Addr), ns'.Perm ns → ns'.Pairwise (· ≤ ·) → H p = none → Q (.ref p) (upd H p (.lst (ns'.map V.int)))) : rSorted K [.ref a] H Q := ⟨a, ns, rfl, hS, hz, h⟩
end L2.A

namespace L2.A
open PySem PySem.Spec PyProof.Rows
theorem go_mulL {H : Hp} {Q : VK} {l : Addr} {k : Int} {xs : List V} (hp : H l = some (.lst xs)) (h0 : 0 ≤ k ∧ k ≤ 1000) (z : xs.length ≤ 100) (h : NewO (.lst (List.replicate k.toNat xs).flatten) H Q) : rMulX (.ref l) (.int k) H Q :=
  (.inr ∘ .inl) ⟨l, k, xs, rfl, rfl, hp, by omega, by omega, Nat.le_trans (Nat.mul_le_mul z (show k.toNat ≤ 1000 by omega)) (by decide), h⟩
end L2.A

namespace L2.A
open PySem PySem.Spec PyProof.Rows
section
variable {K : PySem.W.Frag} {H : Hp} {Q : VK}
/-! ### methods of texts -/
theorem go_joinL {a : Str} {p : Addr} {ys : List Str} (hp : SqL K H p (ys.map V.str)) (z : (ys.map (·.length)).sum + ys.length * a.length ≤ 16777216) (h : Q (.str (Txt.join a ys)) H) :
    (∃ a' p', ∃ ys' : List Str, V.str a = .str a' ∧ [V.ref p] = [.ref p'] ∧ (SqL K H p' (ys'.map V.str) ∨ SqT K H p' (ys'.map V.str)) ∧ (ys'.map (·.length)).sum + ys'.length * a'.length ≤ 16777216 ∧ Q (.str (Txt.join a' ys')) H) := ⟨a, p, ys, rfl, rfl, .inl hp, z, h⟩
theorem go_split {a b : Str} (h1 : (b.length == 0) = false) (h2 : a.length ≤ 10000) (h : NewO (.lst ((Txt.split a b).map V.str)) H Q) :
    (∃ a' b', V.str a = .str a' ∧ [V.str b] = [.str b'] ∧ (b'.length == 0) = false ∧ a'.length + 2 ≤ sizeLine ∧ rNewStrs (Txt.split a' b') H Q) := ⟨a, b, rfl, rfl, h1, Nat.le_trans (show a.length + 2 ≤ 10002 by omega) (by decide), h⟩
theorem go_starts {a b : Str} (h : Q (.bl (Txt.startswith a b)) H) : (∃ a' b', V.str a = .str a' ∧ [V.str b] = [.str b'] ∧ Q (.bl (Txt.startswith a' b')) H) := ⟨a, b, rfl, rfl, h⟩
theorem go_find {a b : Str} (h : Q (.int (Txt.find a b)) H) : (∃ a' b', V.str a = .str a' ∧ [V.str b] = [.str b'] ∧ Q (.int (Txt.find a' b')) H) := ⟨a, b, rfl, rfl, h⟩
end
end L2.A

namespace L2.A
open PySem PySem.Spec PyProof.Rows
theorem cutS_le {z : Str} {lo hi : Option Int} : (cutS z lo hi).length ≤ z.length := by
  have e : (cutS z lo hi).length = ((z.cps.toList.drop (HT.sIx z.length 0 lo)).take (HT.sIx z.length z.length hi - HT.sIx z.length 0 lo)).length := by
    unfold cutS
    exact List.size_toArray ..
  rw [e, List.length_take, List.length_drop]
  have h : z.length = z.cps.toList.length := (Array.length_toList ..).symm
  omega
end L2.A

namespace L2.A
open PySem PySem.Spec PyProof.Rows
/-- a statement that is never reached -/
def tDead : TS := fun _ _ _ => False
theorem ps_dead {X : Cx} {st : Stmt} : PS X st tDead := ⟨fun _ _ _ _ _ _ h => False.elim h⟩
end L2.A


namespace L2.A
open PySem PySem.Spec PyProof.Rows
/-! ### B.__init__(self, ..), B an own exception class without __init__ -/
def biB (K : PySem.W.Frag) (B : Addr) : Bool :=
  decide (PySem.W.specialIn K (.ref B) "__getattribute__" = some (some (.builtin "type.__getattribute__"))) && (decide (PySem.W.typeIn K (.ref B) = some (.type "type")) && (PySem.W.readsIn K B (.type "type") &&
    (match PySem.W.findCls K (.ref B) (.type "type") "__init__" with
      | some (.val v) => decide (v = .builtin "ValueError.__init__")
      | _ => false)))
section
variable {X : Cx} {o e : Expr} {es : List Expr} {to te : TE} {ta : TA} {f : Str} {p p' p1 p2 pos : Pos} {x : Str} {B : Addr}
theorem pe_binit {pl : Sem Bool} (hg : Gl X x) (hm : X.mg x = some (.ref B)) (bb : biB X.K B = true) (ha : PA X (e :: es) ta) (hdb : (x == ("__debug__" : Str)) = false := by decide)
    (hc : eval (.Call (.Attribute (.Name x p1) "__init__" p2) (e :: es) [] pos) X.env = (do
      let ov ← eval (.Name x p1) X.env
      standAt p2.atName
      let (f, first) ← holding [ov] (getMethod ov "__init__" pl)
      callWith pos f first (backTo pos (starEach (e :: es) X.env)) (backToKw pos (keywordEach [] X.env))) := by rfl)
    (he : starEach (e :: es) X.env = (false, eval e X.env) :: starEach es X.env := by rfl) (hpl : (backTo pos (starEach es X.env)).any (·.1) = false := by rfl) :
    PE X (.Call (.Attribute (.Name x p1) "__init__" p2) (e :: es) [] pos) (tVeI X.K ta) := by
  unfold biB at bb
  rw [Bool.and_eq_true, Bool.and_eq_true, Bool.and_eq_true] at bb
  obtain ⟨b1, b2, b3, b4⟩ := bb
  have b1 := of_decide_eq_true b1
  have b2 := of_decide_eq_true b2
  have b5 : PySem.W.findCls X.K (.ref B) (.type "type") "__init__" = some (.val (.builtin "ValueError.__init__")) := by
    revert b4
    cases PySem.W.findCls X.K (.ref B) (.type "type") "__init__" with
    | none => intro h; cases h
    | some r =>
      cases r with
      | val v => intro h; rw [of_decide_eq_true h]
      | get _ _ _ _ => intro h; cases h
  refine ⟨fun pins s σ H Q I h => ?_⟩
  refine PySem.W.methodCall_KW (ld_glob I hg hm ?_ hdb) hc
  obtain ⟨m, fr⟩ := I.fr
  refine PySem.W.method_of_cls fr I.ok.mod.kin b1 ?_
  refine PySem.W.cls_val fr I.ok.mod.kin b2 b3 b5 (by decide +kernel) ?_
  show wpAny _ _ (callWith pos (Value.builtin "ValueError.__init__") [] (backTo pos (starEach (e :: es) X.env)) []) _ _ _
  refine PyProof.Rows.callWith_method1 (thn (ha.run pos pins _ σ H _ (I.tok _) h) fun us s1 ⟨vs, H1, I1, r1, a, C, ws, ev, hl, T, ea, q⟩ => ?_) he hpl
  subst ev
  cases r1 with
  | @cons _ u0 _ ur ra rw' =>
    obtain rfl : u0 = Value.ref a := ra
    have hlen : ur.length ≤ sizeLine := by
      rw [← Paired.length rw', sizeLine_eq]
      omega
    exact oinit_ok T I1 ea hlen fun s' J => ⟨.non, H1, J, rfl, q⟩
end
/-! ### a head by facts with any more that the fragment decides -/
def frX (n : Nat) (g : Addr → Option Obj) : PySem.W.Frag := He.frG g (cStatics :: He.asD g n)
def obsXG (n : Nat) (fa : List He.Fa) (fn : List He.DefD) (xs : List (PySem.W.Frag → Bool)) (g : Addr → Option Obj) : Bool × He.AlD := (xs.all fun f => f (frX n g), He.obsD fa fn (frX n g))
def hookX (n : Nat) (fa : List He.Fa) (fn : List He.DefD) (xs : List (PySem.W.Frag → Bool)) : PySem.W.Hook where
  α := Bool × He.AlD
  obs := fun s => obsXG n fa fn xs s.heap.get?
  val := fun _ => (true, He.valD fn)
  says := fun _ h => ∃ K : PySem.W.Frag, K.In h ∧ He.SaysD fa fn K ∧ (xs.all fun f => f K) = true
  of := fun _ _ e => ⟨_, He.frG_in, (Prod.ext_iff.mp e).2, (Prod.ext_iff.mp e).1⟩
  keeps := fun _ _ _ ⟨K, hK, c⟩ k => ⟨K, PySem.W.Frag.In.keeps hK k, c⟩
theorem obsXG_eq {n : Nat} {fa : List He.Fa} {fn : List He.DefD} {xs : List (PySem.W.Frag → Bool)} {g : Addr → Option Obj} {s : Shared} (h : ∀ a, g a = s.heap.get? a) : obsXG n fa fn xs g = (hookX n fa fn xs).obs s := by
  have e : g = s.heap.get? := funext h
  rw [e] <;> rfl
theorem more_fact {xs : List (PySem.W.Frag → Bool)} {K : PySem.W.Frag} (c : (xs.all fun f => f K) = true) (i : Nat) {f : PySem.W.Frag → Bool} (h : xs[i]? = some f := by rfl) : f K = true := List.all_eq_true.mp c f (List.mem_of_getElem? h)
end L2.A

namespace L2.A
open PySem PySem.Spec PyProof.Rows
/-- what the fragment must say of an own exception class, as a test -/
def oexB (K : PySem.W.Frag) (C : Addr) : Bool :=
  (match K.lookup C with
    | some ⟨.type "type", _, .cls cd, sl⟩ => (match cd.mro, sl.toList with
      | .ref C' :: bm, [_, _, _, _, some (.builtin n), _] => C' == C && n == "ValueError.__new__" && !cd.hasDel && cd.hasDict && PySem.HandSPX.refsVE bm
      | _, _ => false)
    | _ => false) && (decide (PySem.W.findIn K (.ref C) "__setattr__" = some (some (.builtin "object.__setattr__"))) && (decide (PySem.W.subIn K (.ref C) (.type "BaseException") = some true) && (decide (PySem.W.typeIn K (.ref C) = some (.type "type")) && PySem.W.keepIn K (.ref C))))
theorem oexB_ok {K : PySem.W.Frag} {C : Addr} (h : oexB K C = true) : OexC K C := by
  unfold oexB at h
  rw [Bool.and_eq_true, Bool.and_eq_true, Bool.and_eq_true, Bool.and_eq_true] at h
  obtain ⟨q, b1, b2, b3, b4⟩ := h
  refine ⟨?_, of_decide_eq_true b1, of_decide_eq_true b2, of_decide_eq_true b3, b4⟩
  split at q
  · rename_i dd cd sl ho
    split at q
    · rename_i C' bm k0 k1 k2 k3 n k5 hm hs
      simp only [Bool.and_eq_true, beq_iff_eq, Bool.not_eq_true'] at q
      obtain ⟨⟨⟨⟨rfl, rfl⟩, hdel⟩, hdct⟩, ht⟩ := q
      obtain ⟨nm, bs, mro, ns, qn, hd, sn, sub, ab, col, del⟩ := cd
      dsimp only at hm hdel hdct
      subst hm hdel hdct
      have hsl : sl = #[k0, k1, k2, k3, some (.builtin "ValueError.__new__"), k5] := by
        obtain ⟨l⟩ := sl
        simp only at hs
        rw [hs]
      subst hsl
      exact ⟨nm, qn, ns, bs, bm, sn, sub, ab, col, dd, k0, k1, k2, k3, k5, ho, ht⟩
    · cases q
  · cases q
end L2.A


namespace L2.A
open PySem PySem.Spec PyProof.Rows
/-! ### own classes: methods and instances by name -/
structure MtD (P : Program) (w : World) (K : PySem.W.Frag) (mg : Str → Option Value) (base : Heap) (CX : CXT) (k : Nat) (C : Addr) (m : Str) (ps : List Str) (dvs : List V) (sp : Sp) : Prop where
  ex : ∃ (f : Addr) (fd : FuncData) (ds : List Value), FnOk P w K mg base CX k f fd ps sp ∧ Meth K C m f ∧ Cls K C ∧ Binds K fd ps ds ∧ Vals dvs ds
structure MkD (P : Program) (w : World) (K : PySem.W.Frag) (mg : Str → Option Value) (base : Heap) (CX : CXT) (k : Nat) (C : Addr) (x : Str) (ps : List Str) (dvs : List V) (sp : Sp) : Prop where
  ex : ∃ (f : Addr) (fd : FuncData) (ds : List Value), FnOk P w K mg base CX k f fd ps sp ∧ Mk K C f ∧ mg x = some (.ref C) ∧ Binds K fd ps ds ∧ Vals dvs ds
section
variable {X : Cx} {CX : CXT} {k : Nat} {ps : List Str} {dvs : List V} {sp : Sp} {E : XK} {x m : Str} {p apos pos : Pos} {o e : Expr} {es : List Expr} {t : TA} {ta : TE} {C : Addr}
theorem pe_mth {pl : Sem Bool} (D : MtD X.prog X.w X.K X.mg X.base CX k C m ps dvs sp) (hr : Room k X.A) (hx : Passes CX X E) (he : PE X o ta) (ha : PA X (e :: es) t)
    (hst : starEach (e :: es) X.env = (false, eval e X.env) :: starEach es X.env := by rfl) (hpl : (backTo pos (starEach es X.env)).any (·.1) = false := by rfl)
    (ht : eval (.Call (.Attribute o m apos) (e :: es) [] pos) X.env = (do
      let ov ← eval o X.env
      standAt apos.atName
      let (f, first) ← holding [ov] (getMethod ov m pl)
      callWith pos f first (backTo pos (starEach (e :: es) X.env)) (backToKw pos (keywordEach [] X.env))) := by rfl) : PE X (.Call (.Attribute o m apos) (e :: es) [] pos) (tMeth C m sp dvs E ta t) := by
  obtain ⟨f, fd, ds, F, hm, c, hb, hv⟩ := D.ex
  exact pe_meth he c hm F hr hb hv hx ha hst hpl ht
theorem pe_mth0 {pl : Sem Bool} (D : MtD X.prog X.w X.K X.mg X.base CX k C m ps dvs sp) (hr : Room k X.A) (hx : Passes CX X E) (he : PE X o ta)
    (ht : eval (.Call (.Attribute o m apos) [] [] pos) X.env = (do
      let ov ← eval o X.env
      standAt apos.atName
      let (f, first) ← holding [ov] (getMethod ov m pl)
      callWith pos f first (backTo pos (starEach [] X.env)) (backToKw pos (keywordEach [] X.env))) := by rfl) : PE X (.Call (.Attribute o m apos) [] [] pos) (tMeth C m sp dvs E ta tNil) := by
  obtain ⟨f, fd, ds, F, hm, c, hb, hv⟩ := D.ex
  exact pe_meth0 he c hm F hr hb hv hx ht
theorem pe_mke (D : MkD X.prog X.w X.K X.mg X.base CX k C x ps dvs sp) (hr : Room (k + 1) X.A) (hg : Gl X x) (hx : Passes CX X E) (ha : PA X (e :: es) t) (hdb : (x == ("__debug__" : Str)) = false := by decide)
    (he : starEach (e :: es) X.env = (false, eval e X.env) :: starEach es X.env := by rfl) (hpl : (backTo pos (starEach es X.env)).any (·.1) = false := by rfl) : PE X (.Call (.Name x p) (e :: es) [] pos) (tMake C sp dvs E t) := by
  obtain ⟨f, fd, ds, F, M, hm, hb, hv⟩ := D.ex
  exact pe_make M F hr hg hm hb hv hx ha hdb he hpl
theorem pe_mke0 (D : MkD X.prog X.w X.K X.mg X.base CX k C x ps dvs sp) (hr : Room (k + 1) X.A) (hg : Gl X x) (hx : Passes CX X E) (hdb : (x == ("__debug__" : Str)) = false := by decide) : PE X (.Call (.Name x p) [] [] pos) (tMake C sp dvs E tNil) := by
  obtain ⟨f, fd, ds, F, M, hm, hb, hv⟩ := D.ex
  exact pe_make0 M F hr hg hm hb hv hx hdb
end
section
variable {K : PySem.W.Frag} {σ : St} {H : Hp} {D : Ends} {Q : VK} {ta tv : TE} {t : TA} {f m : Str} {a C dx : Addr} {fs fs' : List (Str × V)} {v y : V} {sp : Sp} {dvs : List V} {E : XK}
def FldW (K : PySem.W.Frag) (f : Str) (x : V) (H1 : Hp) (Q : VK) : Prop := ∃ a C dx fs v, x = .ref a ∧ H1 a = some (.ins C dx fs) ∧ Cls K C ∧ NoAttr K C f ∧ fs.lookup f = some v ∧ Q v H1
theorem go_fld (h : ta σ H fun x H1 => FldW K f x H1 Q) : tFld K ta f σ H Q := h
theorem go_fldW (hp : H a = some (.ins C dx fs)) (c : Cls K C) (n : NoAttr K C f) (l : fs.lookup f = some v) (h : Q v H) : FldW K f (.ref a) H Q := ⟨a, C, dx, fs, v, rfl, hp, c, n, l, h⟩
def SFldW (K : PySem.W.Frag) (f : Str) (y : V) (D : Ends) (σ : St) (x : V) (H2 : Hp) : Prop := ∃ a C dx fs, x = .ref a ∧ H2 a = some (.ins C dx fs) ∧ Cls K C ∧ NoAttr K C f ∧ fs.length < 1000 ∧ D.nx σ (upd H2 a (.ins C dx (putF f y fs)))
theorem go_sfld (h : tv σ H fun y H1 => ta σ H1 fun x H2 => SFldW K f y D σ x H2) : sFld K ta tv f D σ H := h
theorem go_sfldW (hp : H a = some (.ins C dx fs)) (c : Cls K C) (n : NoAttr K C f) (z : Nat.ble fs.length 900 = true) (e : putF f y fs = fs') (h : D.nx σ (upd H a (.ins C dx fs'))) : SFldW K f y D σ (.ref a) H :=
  ⟨a, C, dx, fs, rfl, hp, c, n, Nat.lt_of_le_of_lt (Nat.le_of_ble_eq_true z) (by decide), by rw [e]; exact h⟩
def MethW (C : Addr) (m : Str) (sp : Sp) (dvs : List V) (E : XK) (t : TA) (σ : St) (x : V) (H1 : Hp) (Q : VK) : Prop := ∃ a dx fs, x = .ref a ∧ H1 a = some (.ins C dx fs) ∧ fs.lookup m = none ∧ t σ H1 fun vs H2 => sp (x :: (vs ++ dvs)) H2 Q E
theorem go_meth (h : ta σ H fun x H1 => MethW C m sp dvs E t σ x H1 Q) : tMeth C m sp dvs E ta t σ H Q := h
theorem go_methW (hp : H a = some (.ins C dx fs)) (l : fs.lookup m = none) (h : t σ H fun vs H2 => sp (.ref a :: (vs ++ dvs)) H2 Q E) : MethW C m sp dvs E t σ (.ref a) H Q := ⟨a, dx, fs, rfl, hp, l, h⟩
def MakeW (C : Addr) (sp : Sp) (dvs : List V) (E : XK) (vs : List V) (H1 : Hp) (Q : VK) : Prop := ∀ x dx, H1 x = none → H1 dx = none → dx ≠ x → sp (.ref x :: (vs ++ dvs)) (upd (upd H1 dx (.own x)) x (.ins C dx [])) (fun v H2 => v = .non ∧ Q (.ref x) H2) E
theorem go_make (h : t σ H fun vs H1 => MakeW C sp dvs E vs H1 Q) : tMake C sp dvs E t σ H Q := h
/-- o.f op= e -/
def AFldW (K : PySem.W.Frag) (f : Str) (tv : TE) (rd : V → V → Hp → VK → Prop) (D : Ends) (σ : St) (x : V) (H1 : Hp) : Prop := ∃ a C dx fs v, x = .ref a ∧ H1 a = some (.ins C dx fs) ∧ Cls K C ∧ NoAttr K C f ∧ fs.lookup f = some v ∧ tv σ H1 fun y H2 => rd v y H2 fun z H3 => ∃ dx' fs', H3 a = some (.ins C dx' fs') ∧ fs'.length < 1000 ∧ D.nx σ (upd H3 a (.ins C dx' (putF f z fs')))
end
section
variable {a b c d e g h' : V} {R2' : V → V → Hp → VK → XK → Prop} {H : Hp} {Q : VK} {E : XK}
/-! ### a method's promise: self, then the rest -/
theorem go_ms1 {R} (h : R a H Q E) : Sp1 R (a :: ([] ++ [])) H Q E := ⟨a, rfl, h⟩
theorem go_ms2 {R} (h : R a b H Q E) : Sp2 R (a :: ([b] ++ [])) H Q E := ⟨a, b, rfl, h⟩
theorem go_ms3 {R} (h : R a b c H Q E) : Sp3 R (a :: ([b, c] ++ [])) H Q E := ⟨a, b, c, rfl, h⟩
theorem go_ms4 {R} (h : R a b c d H Q E) : Sp4 R (a :: ([b, c, d] ++ [])) H Q E := ⟨a, b, c, d, rfl, h⟩
theorem go_ms5 {R} (h : R a b c d e H Q E) : Sp5 R (a :: ([b, c, d, e] ++ [])) H Q E := ⟨a, b, c, d, e, rfl, h⟩
end
end L2.A

namespace L2.A
open PySem PySem.Spec PyProof.Rows
section
variable {K : PySem.W.Frag} {σ : St} {H : Hp} {D : Ends} {Q : VK} {ta tv : TE} {f : Str} {a C dx : Addr} {fs fs' : List (Str × V)} {v z : V} {rd : V → V → Hp → VK → Prop}
def AStW (C : Addr) (f : Str) (a : Addr) (D : Ends) (σ : St) (z : V) (H3 : Hp) : Prop := ∃ dx' fs', H3 a = some (.ins C dx' fs') ∧ fs'.length < 1000 ∧ D.nx σ (upd H3 a (.ins C dx' (putF f z fs')))
theorem go_faug (h : ta σ H fun x H1 => AFldW K f tv rd D σ x H1) : sFldAug K ta tv rd f D σ H := h
theorem go_faugW (hp : H a = some (.ins C dx fs)) (c : Cls K C) (n : NoAttr K C f) (l : fs.lookup f = some v) (h : tv σ H fun y H2 => rd v y H2 fun z H3 => AStW C f a D σ z H3) : AFldW K f tv rd D σ (.ref a) H := ⟨a, C, dx, fs, v, rfl, hp, c, n, l, h⟩
theorem go_astW (hp : H a = some (.ins C dx fs)) (s : Nat.ble fs.length 900 = true) (e : putF f z fs = fs') (h : D.nx σ (upd H a (.ins C dx fs'))) : AStW C f a D σ z H := ⟨dx, fs, hp, Nat.lt_of_le_of_lt (Nat.le_of_ble_eq_true s) (by decide), by rw [e]; exact h⟩
theorem go_rAdd {i j : Int} (h : Q (.int (i + j)) H) : rAdd (.int i) (.int j) H Q := ⟨i, j, rfl, rfl, h⟩
theorem go_rSub {i j : Int} (h : Q (.int (i - j)) H) : rSub (.int i) (.int j) H Q := ⟨i, j, rfl, rfl, h⟩
end
end L2.A

namespace L2.A
open PySem PySem.Spec PyProof.Rows
section
variable {X : Cx} {K : PySem.W.Frag} {σ : St} {H : Hp} {f : Str} {o : Expr} {ta : TE} {pos : Pos} {v : V} {QS : St → Hp → Prop} {a C dx : Addr} {fs fs' : List (Str × V)}
/-- o.f as a target -/
def GFldW (K : PySem.W.Frag) (f : Str) (v : V) (σ : St) (x : V) (H1 : Hp) (QS : St → Hp → Prop) : Prop := ∃ a C dx fs, x = .ref a ∧ H1 a = some (.ins C dx fs) ∧ Cls K C ∧ NoAttr K C f ∧ fs.length < 1000 ∧ QS σ (upd H1 a (.ins C dx (putF f v fs)))
def gFld (K : PySem.W.Frag) (ta : TE) (f : Str) : TG := fun v σ H QS => ta σ H fun x H1 => GFldW K f v σ x H1 QS
theorem pg_fld (ho : PE X o ta) : PG X (.Attribute o f pos) (gFld X.K ta f) := by
  refine ⟨fun pins s σ H v u Q I r h => ?_⟩
  rw [assign_Attribute]
  refine wpAny_bind (wpAny_holding (thn (ho.run pins s σ H _ I h) fun ov s1 ⟨x, H1, I1, r1, a, C, dx, fs, ex, ea, c, n, l, q⟩ => ?_))
  subst ex
  obtain rfl : ov = Value.ref a := r1
  refine wpAny_bind (wpAny_standAt ?_)
  refine wpAny_bind (wpAny_holding (setattr_ok I1 ea c n l r fun s2 I2 => ?_))
  exact wpAny_release ⟨σ, _, I2, q⟩
theorem go_gfld (h : ta σ H fun x H1 => GFldW K f v σ x H1 QS) : gFld K ta f v σ H QS := h
theorem go_gfldW (hp : H a = some (.ins C dx fs)) (c : Cls K C) (n : NoAttr K C f) (z : Nat.ble fs.length 900 = true) (e : putF f v fs = fs') (h : QS σ (upd H a (.ins C dx fs'))) : GFldW K f v σ (.ref a) H QS :=
  ⟨a, C, dx, fs, rfl, hp, c, n, Nat.lt_of_le_of_lt (Nat.le_of_ble_eq_true z) (by decide), by rw [e]; exact h⟩
end
end L2.A

namespace L2.A
open PySem PySem.Spec PyProof.Rows
/-- an instance or a dict: what may change -/
def isMut : HO → Prop
  | .ins _ _ _ => True
  | .dK _ => True
  | .lst _ => True
  | _ => False
theorem seqT_kp {K : PySem.W.Frag} {fp : Addr → Prop} {H H' : Hp} {q : Addr} {xs : List V} (h : SqT K H q xs) (k : Kp fp H H') (hn : ∀ a o, H a = some o → fp a → isMut o) : SqT K H' q xs := by
  rcases h with (h | ⟨o, h⟩) | h
  · exact .inl (.inl (k _ _ h fun f => (hn _ _ h f).elim))
  · exact .inl (.inr ⟨o, k _ _ h fun f => (hn _ _ h f).elim⟩)
  · exact .inr h
theorem Kp.imp {fp fp' : Addr → Prop} {H H' : Hp} (k : Kp fp H H') (h : ∀ a, fp a → fp' a) : Kp fp' H H' := fun a o e n => k a o e fun f => n (h a f)
end L2.A

namespace L2.A
open PySem PySem.Spec PyProof.Rows
section
variable {σ : St} {H : Hp} {Q : VK} {td ty tx : TE} {a : Addr} {kvs : List (Key × V)} {z : V} {s : Str}
/-! ### d.get(k, x) -/
def Dg2W (ty tx : TE) (σ : St) (x : V) (H1 : Hp) (Q : VK) : Prop := ∃ a, x = .ref a ∧ IsD H1 a ∧ ty σ H1 fun y H2 => tx σ H2 fun z H3 => ∃ o, DGet H3 a y o ∧ Q (o.getD z) H3
def Dg2K (a : Addr) (y z : V) (H3 : Hp) (Q : VK) : Prop := ∃ o, DGet H3 a y o ∧ Q (o.getD z) H3
theorem go_dget2 (h : td σ H fun x H1 => Dg2W ty tx σ x H1 Q) : tDGet2 td ty tx σ H Q := h
theorem go_dg2W (hp : IsD H a) (h : ty σ H fun y H2 => tx σ H2 fun z H3 => Dg2K a y z H3 Q) : Dg2W ty tx σ (.ref a) H Q := ⟨a, rfl, hp, h⟩
theorem go_dg2S (hp : H a = some (.dK kvs)) (h : Q ((valV kvs (Sum.inr s)).getD z) H) : Dg2K a (.str s) z H Q := ⟨_, DGet.k (k := Sum.inr s) hp, h⟩
end
end L2.A

namespace L2.A
open PySem PySem.Spec PyProof.Rows
theorem pe_fldK {X : Cx} {K : PySem.W.Frag} {e : Expr} {f : Str} {pos : Pos} {ta : TE} (hK : X.K = K) (he : PE X e ta) (hb : attributeBase e f X.env (eval e X.env) = eval e X.env) : PE X (.Attribute e f pos) (tFld K ta f) := hK ▸ pe_fld he hb
end L2.A

namespace L2.A
open PySem PySem.Spec PyProof.Rows
theorem go_dnewK {σ : St} {H : Hp} {Q : VK} (h : NewO (.dK []) H Q) : tDNewK σ H Q := h
end L2.A


namespace L2.A
open PySem PySem.Spec PyProof.Rows
/-! ### calls that may raise: what is raised is wished for at the caller's slots -/
section
variable {X : Cx} {CX : CXT} {k : Nat} {ps : List Str} {dvs : List V} {sp : Sp} {E : St → XK} {x m : Str} {p apos pos : Pos} {o e : Expr} {es : List Expr} {t : TA} {ta : TE} {C : Addr}
def tMethS (C : Addr) (m : Str) (sp : Sp) (dvs : List V) (E : St → XK) (ta : TE) (t : TA) : TE := fun σ H Q => ta σ H fun x H1 => ∃ a dx fs, x = .ref a ∧ H1 a = some (.ins C dx fs) ∧ fs.lookup m = none ∧
  t σ H1 fun vs H2 => sp (x :: (vs ++ dvs)) H2 Q (E σ)
theorem pe_dS (D : Dn X.prog X.w X.K X.mg X.base CX k x ps dvs sp) (hr : Room k X.A) (hg : Gl X x) (hx : ∀ σ, PassesAt CX X σ (E σ)) (ha : PA X (e :: es) t) (hdb : (x == ("__debug__" : Str)) = false := by decide)
    (he : starEach (e :: es) X.env = (false, eval e X.env) :: starEach es X.env := by rfl) (hpl : (backTo pos (starEach es X.env)).any (·.1) = false := by rfl) : PE X (.Call (.Name x p) (e :: es) [] pos) (tCallSD sp dvs E t) := by
  obtain ⟨f, fd, ds, F, hm, hk, hb, hv⟩ := D.ex
  exact pe_callSD F hr hg hm hk hb hv hx ha hdb he hpl
theorem pe_mthS {pl : Sem Bool} (D : MtD X.prog X.w X.K X.mg X.base CX k C m ps dvs sp) (hr : Room k X.A) (hx : ∀ σ, PassesAt CX X σ (E σ)) (he : PE X o ta) (ha : PA X (e :: es) t)
    (hst : starEach (e :: es) X.env = (false, eval e X.env) :: starEach es X.env := by rfl) (hpl : (backTo pos (starEach es X.env)).any (·.1) = false := by rfl)
    (ht : eval (.Call (.Attribute o m apos) (e :: es) [] pos) X.env = (do
      let ov ← eval o X.env
      standAt apos.atName
      let (f, first) ← holding [ov] (getMethod ov m pl)
      callWith pos f first (backTo pos (starEach (e :: es) X.env)) (backToKw pos (keywordEach [] X.env))) := by rfl) : PE X (.Call (.Attribute o m apos) (e :: es) [] pos) (tMethS C m sp dvs E ta t) := by
  obtain ⟨f, fd, ds, F, hm, c, hb, hd⟩ := D.ex
  refine ⟨fun pins s σ H Q I h => ?_⟩
  refine PySem.W.methodCall_KW (pl := pl) (thn (he.run pins s σ H _ I h) fun u s1 ⟨x, H1, I1, rx, a, dx, fs, ex, ea, l, q⟩ => ?_) ht
  subst ex
  obtain rfl : u = Value.ref a := rx
  refine getmeth_ok I1 ea c hm l ?_
  refine PySem.W.callWith_K (first := [.ref a]) (h₀ := X.base) I.ok.mod.kin hm.kp (thn (ha.run pos pins s1 σ H1 _ I1 q) fun us s2 ⟨vs, H2, I2, r, q2⟩ => ⟨I2.kIn, ?_⟩) hst hpl
  exact run_fnSD (us := .ref a :: us) (vs := .ref a :: vs) F hr hb hd (hx σ) I2 (.cons rfl r) q2
end
section
variable {K : PySem.W.Frag} {σ : St} {H : Hp} {Q : VK} {E : St → XK} {sp : Sp} {dvs : List V} {t : TA} {ta : TE} {C a dx : Addr} {m : Str} {fs : List (Str × V)}
theorem go_callS (h : t σ H fun vs H1 => sp (vs ++ dvs) H1 Q (E σ)) : tCallSD sp dvs E t σ H Q := h
def MethSW (C : Addr) (m : Str) (sp : Sp) (dvs : List V) (E : XK) (t : TA) (σ : St) (x : V) (H1 : Hp) (Q : VK) : Prop := ∃ a dx fs, x = .ref a ∧ H1 a = some (.ins C dx fs) ∧ fs.lookup m = none ∧ t σ H1 fun vs H2 => sp (x :: (vs ++ dvs)) H2 Q E
theorem go_methS (h : ta σ H fun x H1 => MethSW C m sp dvs (E σ) t σ x H1 Q) : tMethS C m sp dvs E ta t σ H Q := h
theorem go_methSW {E : XK} (hp : H a = some (.ins C dx fs)) (l : fs.lookup m = none) (h : t σ H fun vs H2 => sp (.ref a :: (vs ++ dvs)) H2 Q E) : MethSW C m sp dvs E t σ (.ref a) H Q := ⟨a, dx, fs, rfl, hp, l, h⟩
end
/-! ### an own exception class with its own __init__ -/
structure XkD (P : Program) (w : World) (K : PySem.W.Frag) (mg : Str → Option Value) (base : Heap) (k : Nat) (C : Addr) (x : Str) (ps : List Str) (dvs : List V) (sp : Sp) : Prop where
  ex : ∃ (fI : Addr) (fd : FuncData) (ds : List Value), FnOk P w K mg base CX0 k fI fd ps sp ∧ OexC K C ∧ PySem.W.findIn K (.ref C) "__init__" = some (some (.ref fI)) ∧ PySem.W.typeIn K (.ref fI) = some (.type "function") ∧ mg x = some (.ref C) ∧ Binds K fd ps ds ∧ Vals dvs ds
section
variable {X : Cx} {k : Nat} {ps : List Str} {dvs : List V} {sp : Sp} {x : Str} {p pos : Pos} {e : Expr} {es : List Expr} {ta : TA} {C : Addr}
theorem pmk_x (D : XkD X.prog X.w X.K X.mg X.base k C x ps dvs sp) (hr : Room (k + 1) X.A) (hg : Gl X x) (ha : PA X (e :: es) ta) (hdb : (x == ("__debug__" : Str)) = false := by decide)
    (he : starEach (e :: es) X.env = (false, eval e X.env) :: starEach es X.env := by rfl) (hpl : (backTo pos (starEach es X.env)).any (·.1) = false := by rfl) : PMk X (.Call (.Name x p) (e :: es) [] pos) (tMkO C sp dvs ta) := by
  obtain ⟨fI, fd, ds, F, T, iC, tI, hm, hb, hv⟩ := D.ex
  exact pmk_oex T iC tI F hr hb hv pass0 hg hm ha hdb he hpl
end
/-- the __init__ of an exception class: it leaves the fields fs -/
def IniW (C : Addr) (fs : List (Str × V)) (a0 : V) (H : Hp) (Q : VK) : Prop := ∃ a, a0 = .ref a ∧ OexA C a H ∧ ∀ d H', H d = none → Kp (fun x => x = a) H H' → H' a = some (exo a C (some d)) → H' d = some (exd d fs) → Q .non H'
where OexA (C a : Addr) (H : Hp) : Prop := H a = some (exo a C none)
section
variable {K : PySem.W.Frag} {σ : St} {H : Hp} {D : Ends} {Q : VK} {t : TA} {ta te to : TE} {C a dx : Addr} {f : Str} {fs : List (Str × V)} {y : V}
def VeIW (K : PySem.W.Frag) (vs : List V) (H1 : Hp) (Q : VK) : Prop := ∃ (a C : Addr) (ws : List V), vs = .ref a :: ws ∧ ws.length ≤ 1000 ∧ OexC K C ∧ H1 a = some (exo a C none) ∧ Q .non H1
theorem go_veI (h : t σ H fun vs H1 => VeIW K vs H1 Q) : tVeI K t σ H Q := h
theorem go_veIW {ws : List V} (T : OexC K C) (ha : H a = some (exo a C none)) (z : Nat.ble ws.length 1000 = true) (h : Q .non H) : VeIW K (.ref a :: ws) H Q := ⟨a, C, ws, rfl, Nat.le_of_ble_eq_true z, T, ha, h⟩
def OstW (K : PySem.W.Frag) (f : Str) (y : V) (D : Ends) (σ : St) (x : V) (H2 : Hp) : Prop := ∃ a C : Addr, x = .ref a ∧ OexC K C ∧ PySem.W.findIn K (.ref C) f = some none ∧
  ((H2 a = some (exo a C none) ∧ ∀ dx, H2 dx = none → dx ≠ a → D.nx σ (upd (upd H2 dx (exd dx [(f, y)])) a (exo a C (some dx)))) ∨
    ∃ (dx : Addr) (fs : List (Str × V)), H2 a = some (exo a C (some dx)) ∧ H2 dx = some (exd dx fs) ∧ fs.length ≤ 900 ∧ D.nx σ (upd H2 dx (exd dx ((f, y) :: fs))))
theorem go_ost (h : te σ H fun y H1 => to σ H1 fun x H2 => OstW K f y D σ x H2) : tOst K f to te D σ H := h
theorem go_ost1 (T : OexC K C) (n : PySem.W.findIn K (.ref C) f = some none) (ha : H a = some (exo a C none))
    (h : ∀ d H', H d = none → Kp (fun x => x = a) H H' → H' a = some (exo a C (some d)) → H' d = some (exd d [(f, y)]) → D.nx σ H') : OstW K f y D σ (.ref a) H :=
  ⟨a, C, rfl, T, n, .inl ⟨ha, fun d hd ne => h d _ hd (fun b o e n => by rw [upd_ne n, upd_ne (ne_of_none e hd)]; exact e) upd_same (by rw [upd_ne ne]; exact upd_same)⟩⟩
theorem go_ost2 (T : OexC K C) (n : PySem.W.findIn K (.ref C) f = some none) (ha : H a = some (exo a C (some dx))) (hd : H dx = some (exd dx fs)) (z : Nat.ble fs.length 900 = true)
    (h : ∀ H', (∀ b o, H b = some o → b ≠ dx → H' b = some o) → H' a = some (exo a C (some dx)) → H' dx = some (exd dx ((f, y) :: fs)) → D.nx σ H') : OstW K f y D σ (.ref a) H := by
  refine ⟨a, C, rfl, T, n, .inr ⟨dx, fs, ha, hd, Nat.le_of_ble_eq_true z, h _ (fun b o e n => by rw [upd_ne n]; exact e) ?_ upd_same⟩⟩
  by_cases e : a = dx
  · subst e
    rw [ha] at hd
    have z := Option.some.inj hd
    unfold exo exd at z
    have z2 := HO.ext.inj z
    have z3 : (fun h : Heap => ∃ t1 : Addr, h.get? a = some ({ cls := .ref C, dict := some a, data := .fields #[.ref t1, .none, .none, .none, .bool false, .none] } : Obj)) = fun h => ∃ mA, h.Ns1 a mA ∧ ∀ f, RelO (fs.lookup f) (mA f) := z2
    rw [upd_same]
    unfold exo exd
    exfalso
    have hp : ∃ h : Heap, ∃ t1 : Addr, h.get? a = some ({ cls := .ref C, dict := some a, data := .fields #[.ref t1, .none, .none, .none, .bool false, .none] } : Obj) := ⟨⟨Array.replicate (a + 1) { cls := .ref C, dict := some a, data := .fields #[.ref 0, .none, .none, .none, .bool false, .none] }, {}⟩, 0, by simp [Heap.get?]⟩
    obtain ⟨h, t1, e1⟩ := hp
    have q : ∃ mA, h.Ns1 a mA ∧ ∀ f, RelO (fs.lookup f) (mA f) := by
      have q := congrFun z3 h
      exact q ▸ ⟨t1, e1⟩
    obtain ⟨mA, ⟨o, es, ep, e2, e3, _⟩, _⟩ := q
    rw [e1] at e2
    have e4 := Option.some.inj e2
    subst e4
    cases e3
  · rw [upd_ne e]; exact ha
end
def MkOW (C : Addr) (sp : Sp) (dvs vs : List V) (H1 : Hp) (Q : XK) : Prop := vs.length ≤ 1000 ∧ ∀ a, H1 a = none → sp (.ref a :: (vs ++ dvs)) (upd H1 a (exo a C none))
  (fun v H2 => v = .non ∧ ∃ (d : Addr) (fs : List (Str × V)), H2 a = some (exo a C (some d)) ∧ H2 d = some (exd d fs) ∧ H1 d = none ∧ Q (.ref C) (some d) (upd (del H2 a) d (.xd fs))) (fun _ _ _ => False)
theorem go_mkO {C : Addr} {sp : Sp} {dvs : List V} {t : TA} {σ : St} {H : Hp} {Q : XK} (h : t σ H fun vs H1 => MkOW C sp dvs vs H1 Q) : tMkO C sp dvs t σ H Q := h
theorem go_mkOW {C : Addr} {sp : Sp} {dvs vs : List V} {H1 : Hp} {Q : XK} (fs : List (Str × V)) (z : Nat.ble vs.length 1000 = true)
    (hsp : ∀ a H Q, IniW C fs (.ref a) H Q → sp (.ref a :: (vs ++ dvs)) H Q (fun _ _ _ => False))
    (h : ∀ d H', H1 d = none → Same H1 H' → H' d = some (.xd fs) → Q (.ref C) (some d) H') : MkOW C sp dvs vs H1 Q := by
  refine ⟨Nat.le_of_ble_eq_true z, fun a ha => hsp a _ _ ⟨a, rfl, upd_same, fun d H' hd k ea ed => ⟨rfl, d, fs, ea, ed, upd_free hd, ?_⟩⟩⟩
  refine h d _ (upd_free hd) (fun b o e => ?_) upd_same
  have nb : b ≠ a := ne_of_none e ha
  rw [upd_ne (ne_of_none e (upd_free hd)), del_ne nb]
  exact k b o (by rw [upd_ne nb]; exact e) nb
/-! ### isinstance of a caught exception -/
structure ExcD (K : PySem.W.Frag) (D : Addr) : Prop where
  cl : (PySem.W.clsIn K D).isSome = true
  hg : PySem.W.findIn K (.ref D) "__getattribute__" = some (some (.builtin "BaseException.__getattribute__"))
  hk : PySem.W.findIn K (.ref D) "__getattr__" = some none
  hs : PySem.W.subIn K (.ref D) (.type "BaseException") = some true
  ha : PySem.W.findIn K (.ref D) "__class__" = some (some (.builtin "object.__class__"))
  hn : PySem.W.specialIn K (.builtin "object.__class__") "__get__" = some (some (.builtin "getset_descriptor.__get__"))
  ht : PySem.W.takesIn K (.builtin "object.__class__") = some true
  hm : PySem.W.mroIn K D (.type "object") = some true
  hd : PySem.W.hasDictIn K D = true
def excDB (K : PySem.W.Frag) (D : Addr) : Bool := (PySem.W.clsIn K D).isSome && (decide (PySem.W.findIn K (.ref D) "__getattribute__" = some (some (.builtin "BaseException.__getattribute__"))) && (decide (PySem.W.findIn K (.ref D) "__getattr__" = some none) && (decide (PySem.W.subIn K (.ref D) (.type "BaseException") = some true) &&
  (decide (PySem.W.findIn K (.ref D) "__class__" = some (some (.builtin "object.__class__"))) && (decide (PySem.W.specialIn K (.builtin "object.__class__") "__get__" = some (some (.builtin "getset_descriptor.__get__"))) && (decide (PySem.W.takesIn K (.builtin "object.__class__") = some true) && (decide (PySem.W.mroIn K D (.type "object") = some true) && PySem.W.hasDictIn K D)))))))
theorem excDB_ok {K : PySem.W.Frag} {D : Addr} (h : excDB K D = true) : ExcD K D := by
  unfold excDB at h
  simp only [Bool.and_eq_true] at h
  obtain ⟨h0, h1, h2, h3, h4, h5, h6, h7, h8⟩ := h
  exact ⟨h0, of_decide_eq_true h1, of_decide_eq_true h2, of_decide_eq_true h3, of_decide_eq_true h4, of_decide_eq_true h5, of_decide_eq_true h6, of_decide_eq_true h7, h8⟩
theorem ExcD.xf {K : PySem.W.Frag} {D : Addr} (h : ExcD K D) : XfC K D := ⟨h.hg, h.hk, h.hs, h.hd⟩
def rIsEX (K : PySem.W.Frag) (a : Addr) (cls : Value) (d : Option Addr) : List V → Hp → VK → Prop := fun xs H Q => ∃ (D dd : Addr) (fs : List (Str × V)), cls = .ref D ∧ d = some dd ∧ ExcD K D ∧ H dd = some (.xd fs) ∧
  ((∃ (c : V) (u : Value) (b : Bool), xs = [.ref a, c] ∧ ClsV c u ∧ PySem.W.kitOne K cls u = some b ∧ Q (.bl b) H) ∨
    ∃ (tp : Addr) (cs : List V) (us : List Value) (b : Bool), xs = [.ref a, .ref tp] ∧ H tp = some (.tup cs) ∧ Paired ClsV cs us ∧ PySem.W.kitAny K cls us = some b ∧ Q (.bl b) H)
theorem call_isEX {X : Cx} {a : Addr} {cls : Value} {d : Option Addr} {oe : Obj} {pn : List (Addr × Obj)} (hz : Zc cls d oe) (hf : ∃ vs, oe.data = .fields vs) : CallR (X.suite a ((a, oe) :: pn)) (.builtin "isinstance") (rIsEX X.K a cls d) := by
  intro pins s σ H xs us Q I r h
  obtain ⟨D, dd, fs, rfl, rfl, C, ed, h⟩ := h
  obtain ⟨hget, _⟩ := I.pin (a, oe) (List.mem_append.mpr (.inl List.mem_cons_self))
  obtain ⟨vs, hv⟩ := hf
  have hx : ObjOk X.prog X.w H s.heap dd (.xd fs) := I.hok dd _ ed
  obtain ⟨mA, hns, hr⟩ := hx
  obtain ⟨od, ho, hl⟩ := lookIn_ns hns
  have J : PySem.W.InstAt s.heap a oe D (some od) := ⟨hget, hz.1, by unfold PySem.W.notCls; rw [hv] <;> rfl, by rw [hz.2]; exact ho⟩
  have Z := PySem.W.kitx_exc (K := X.K) (x := a) (C := D) (ox := oe) (od := some od) C.cl C.hg C.hk C.hs C.ha C.hn C.ht C.hm
  rcases h with ⟨c, u, b, rfl, k, e, q⟩ | ⟨tp, cs, ws, b, rfl, hT, k, e, q⟩
  · obtain ⟨u1, u2, rfl, r1, r2⟩ := vals2 r
    cases (show u1 = Value.ref a from r1)
    have e2 := k.eq r2
    subst e2
    exact PySem.W.kia_one Z I.kIn J e (fun z => nomatch z) fun tk => ⟨.bl b, H, I.tok tk, rfl, q⟩
  · obtain ⟨u1, u2, rfl, r1, r2⟩ := vals2 r
    cases (show u1 = Value.ref a from r1)
    cases (show u2 = Value.ref tp from r2)
    obtain ⟨_, its, rv, o, h1, h2, n, h3⟩ := (show ObjOk X.prog X.w H s.heap tp (.tup cs) from I.hok tp _ hT)
    have e3 := ClsV.all k rv
    subst e3
    obtain ⟨oc, od2, dt, sl⟩ := o
    simp only at h2 h3
    subst h2 h3
    exact PySem.W.kia_tup Z I.kIn J h1 e (fun z => nomatch z) fun tk => ⟨.bl b, H, I.tok tk, rfl, q⟩
theorem call_isEK {X : Cx} {K : PySem.W.Frag} {a : Addr} {cls : Value} {d : Option Addr} {oe : Obj} {pn : List (Addr × Obj)} (hK : X.K = K) (hz : Zc cls d oe) (hf : ∃ vs, oe.data = .fields vs) : CallR (X.suite a ((a, oe) :: pn)) (.builtin "isinstance") (rIsEX K a cls d) := hK ▸ call_isEX hz hf
section
variable {K : PySem.W.Frag} {a D dd tp : Addr} {fs : List (Str × V)} {H : Hp} {Q : VK} {c : V} {cs : List V} {u : Value} {us : List Value} {b : Bool}
theorem go_isE1 (C : ExcD K D) (ed : H dd = some (.xd fs)) (k : ClsV c u) (e : PySem.W.kitOne K (.ref D) u = some b) (h : Q (.bl b) H) : rIsEX K a (.ref D) (some dd) [.ref a, c] H Q := ⟨D, dd, fs, rfl, rfl, C, ed, .inl ⟨c, u, b, rfl, k, e, h⟩⟩
theorem go_isET (C : ExcD K D) (ed : H dd = some (.xd fs)) (hT : H tp = some (.tup cs)) (k : Paired ClsV cs us) (e : PySem.W.kitAny K (.ref D) us = some b) (h : Q (.bl b) H) : rIsEX K a (.ref D) (some dd) [.ref a, .ref tp] H Q := ⟨D, dd, fs, rfl, rfl, C, ed, .inr ⟨tp, cs, us, b, rfl, hT, k, e, h⟩⟩
/-! ### err.f -/
def XfW (a : Addr) (cls : Value) (d : Option Addr) (C : Addr) (f : Str) (x : V) (H1 : Hp) (Q : VK) : Prop := x = .ref a ∧ cls = .ref C ∧ ∃ (dd : Addr) (fs : List (Str × V)) (v : V), d = some dd ∧ H1 dd = some (.xd fs) ∧ fs.lookup f = some v ∧ Q v H1
theorem go_xf {cls : Value} {d : Option Addr} {C : Addr} {f : Str} {te : TE} {σ : St} (h : te σ H fun x H1 => XfW a cls d C f x H1 Q) : tXf a cls d C f te σ H Q := h
theorem go_xfW {f : Str} {v : V} (ed : H dd = some (.xd fs)) (l : fs.lookup f = some v) (h : Q v H) : XfW a (.ref D) (some dd) D f (.ref a) H Q := ⟨rfl, rfl, dd, fs, v, rfl, ed, l, h⟩
/-! ### try -/
def CatchW (K : PySem.W.Frag) (c : Value) (ts : Addr → Value → Option Addr → St → Hp → Prop) (out : Value → Option Addr → St → Hp → Prop) : WX := fun cls d σ H => ∃ b, PySem.W.exmOne K cls c = some b ∧ (b = true → ∀ a, H a = none → ts a cls d σ H) ∧ (b = false → out cls d σ H)
theorem go_caught {cls c : Value} {d : Option Addr} {i : Nat} {ts : Addr → Value → Option Addr → TS} {Wout : WX} {Dd : Ends} {σ : St} (e : PySem.W.exmOne K cls c = some true)
    (h : ∀ a, H a = none → ts a cls d { nx := fun σ' H' => Dd.nx (σ'.set i none) H', rt := Dd.rt, bk := fun σ' H' => Dd.bk (σ'.set i none) H', ct := fun σ' H' => Dd.ct (σ'.set i none) H' } (σ.set i (some (.ref a))) H) : WE (wAs K c i ts Wout Dd) σ cls d H :=
  ⟨true, e, fun _ => h, fun z => by cases z⟩
theorem go_caught1 {cls c : Value} {d : Option Addr} {ts : Addr → Value → Option Addr → TS} {Wout : WX} {Dd : Ends} {σ : St} (e : PySem.W.exmOne K cls c = some true) (h : ∀ a, H a = none → ts a cls d Dd σ H) : WE (wOnly K c ts Wout Dd) σ cls d H :=
  ⟨true, e, fun _ => h, fun z => by cases z⟩
theorem go_passed {cls c : Value} {d : Option Addr} {i : Nat} {ts : Addr → Value → Option Addr → TS} {Wout : WX} {Dd : Ends} {σ : St} (e : PySem.W.exmOne K cls c = some false) (h : Wout cls d σ H) : WE (wAs K c i ts Wout Dd) σ cls d H :=
  ⟨false, e, (fun z => by cases z), fun _ => h⟩
end
end L2.A

namespace L2.A
open PySem PySem.Spec PyProof.Rows
/-! ### err.f of whatever class -/
def tXfG (K : PySem.W.Frag) (a : Addr) (cls : Value) (d : Option Addr) (f : Str) (te : TE) : TE := fun σ H Q => te σ H fun x H1 => x = .ref a ∧ ∃ (C dd : Addr) (fs : List (Str × V)) (v : V), cls = .ref C ∧ XfC K C ∧ PySem.W.findIn K (.ref C) f = some none ∧ d = some dd ∧ H1 dd = some (.xd fs) ∧ fs.lookup f = some v ∧ Q v H1
theorem pe_xfG {X : Cx} {K : PySem.W.Frag} {a : Addr} {oe : Obj} {cls : Value} {d : Option Addr} {pn : List (Addr × Obj)} {e : Expr} {te : TE} {pos : Pos} {n : Str} (hK : X.K = K)
    (hz : Zc cls d oe) (hf : ∃ vs, oe.data = .fields vs) (he : PE (X.suite a ((a, oe) :: pn)) e te) (hb : attributeBase e n X.env (eval e X.env) = eval e X.env := by rfl) :
    PE (X.suite a ((a, oe) :: pn)) (.Attribute e n pos) (tXfG K a cls d n te) := by
  subst hK
  refine ⟨fun pins s σ H Q I h => ?_⟩
  refine attr_of hb (thn (he.run pins s σ H _ I h) fun u s1 hh => ?_)
  obtain ⟨x, H1, I1, rx, ex, C, dd, fs, v, ec, T, hno, ed, ea, l, q⟩ := hh
  subst ex
  obtain rfl : u = Value.ref a := rx
  subst ec
  subst ed
  obtain ⟨ha, _⟩ := I1.pin (a, oe) (List.mem_append_left _ List.mem_cons_self)
  obtain ⟨vs, hd⟩ := hf
  have hx : ObjOk X.prog X.w H1 s1.heap dd (.xd fs) := I1.hok dd _ ea
  obtain ⟨mA, hns, hr⟩ := hx
  obtain ⟨od, ho, hl⟩ := lookIn_ns hns
  obtain ⟨u, hu, ru⟩ := RelO.some_of (v := v) (o := mA n) (by rw [← l]; exact hr n)
  have J : PySem.W.InstAt s1.heap a oe C (some od) := ⟨ha, hz.1, by unfold PySem.W.notCls; rw [hd] <;> rfl, by rw [hz.2]; exact ho⟩
  exact HandSPX.exc_get I1.kIn J T.ga T.gg T.exC (PySem.W.findObj_own T.hdC hno rfl (by rw [hl, hu])) (handed_of ru) ⟨v, H1, I1.tok _, ru, q⟩
section
variable {K : PySem.W.Frag} {a D dd : Addr} {fs : List (Str × V)} {H : Hp} {Q : VK}
def XfGW (K : PySem.W.Frag) (a : Addr) (cls : Value) (d : Option Addr) (f : Str) (x : V) (H1 : Hp) (Q : VK) : Prop := x = .ref a ∧ ∃ (C dd : Addr) (fs : List (Str × V)) (v : V), cls = .ref C ∧ XfC K C ∧ PySem.W.findIn K (.ref C) f = some none ∧ d = some dd ∧ H1 dd = some (.xd fs) ∧ fs.lookup f = some v ∧ Q v H1
theorem go_xfG {cls : Value} {d : Option Addr} {f : Str} {te : TE} {σ : St} (h : te σ H fun x H1 => XfGW K a cls d f x H1 Q) : tXfG K a cls d f te σ H Q := h
theorem go_xfGW {f : Str} {v : V} (T : XfC K D) (n : PySem.W.findIn K (.ref D) f = some none) (ed : H dd = some (.xd fs)) (l : fs.lookup f = some v) (h : Q v H) : XfGW K a (.ref D) (some dd) f (.ref a) H Q := ⟨rfl, D, dd, fs, v, rfl, T, n, rfl, ed, l, h⟩
end
end L2.A

namespace L2.A
open PySem PySem.Spec PyProof.Rows
/-! ### a caught or made exception as an object that is tracked -/
def exq (a : Addr) (cls : Value) (d : Option Addr) : HO := .ext fun h => ∃ oe vs, h.get? a = some oe ∧ Zc cls d oe ∧ oe.data = .fields vs
theorem exq_ok {P : Program} {w : World} {H : Hp} {h : Heap} {a : Addr} {cls : Value} {d : Option Addr} {oe : Obj} {vs : Array Value} (he : h.get? a = some oe) (hz : Zc cls d oe) (hd : oe.data = .fields vs) : ObjOk P w H h a (exq a cls d) :=
  ⟨⟨oe, vs, he, hz, hd⟩, ⟨oe, he⟩, fun h1 h2 z k => by
    obtain ⟨oe, vs, e, z, q⟩ := z
    exact ⟨oe, vs, k _ e, z, q⟩⟩
theorem exq_at {P : Program} {w : World} {H : Hp} {h : Heap} {a : Addr} {cls : Value} {d : Option Addr} (hok : HOk P w H h) (he : H a = some (exq a cls d)) : ∃ oe vs, h.get? a = some oe ∧ Zc cls d oe ∧ oe.data = .fields vs := by
  have x : ObjOk P w H h a (.ext fun h => ∃ oe vs, h.get? a = some oe ∧ Zc cls d oe ∧ oe.data = .fields vs) := hok a _ he
  exact x.1
section
variable {X : Cx} {pins : List (Addr × Obj)} {σ : St} {H : Hp} {sI s s' : Shared} {B : Heap} {a : Addr} {cls : Value} {d : Option Addr} {oe : Obj} {vs : Array Value}
theorem Inv.landedX (I : Inv X pins σ H sI) (nb : ∀ b o, sI.heap.get? b = some o → b ∉ frs X.stack → B.get? b = some o) (st : B.StaysIn s'.heap) (up : sI.heap.UpToSlots s'.heap) (os : s'.os = sI.os) (ag : AllBare s'.gens)
    (hB : B.get? a = none) (nfr : a ∉ frs X.stack) (he : s'.heap.get? a = some oe) (hz : Zc cls d oe) (hd : oe.data = .fields vs) (na : H a = none) : Inv X pins σ (upd H a (exq a cls d)) s' := by
  have nf : ∀ b ∈ frs X.stack, ∀ o, sI.heap.get? b = some o → ∃ sl, s'.heap.get? b = some { o with slots := sl } := fun b hb o e => by
    obtain ⟨_, o', e', hd⟩ := I.stack.mem hb
    rw [e] at e'; cases e'
    exact up b o e hd
  have ne : ∀ b o, sI.heap.get? b = some o → b ≠ a := fun b o e z => by
    subst z
    have q := nb b o e nfr
    rw [hB] at q; cases q
  have hok0 : HOk X.prog X.w H s'.heap := (I.inGround nb).kept st
  have hok : HOk X.prog X.w (upd H a (exq a cls d)) s'.heap := fun b o q => by
    by_cases hb : b = a
    · subst hb
      rw [upd_same] at q
      cases q
      exact exq_ok he hz hd
    · rw [upd_ne hb] at q
      exact (hok0 b o q).stay (fun c u _ r => r) (fun c r => by rw [upd_ne (ne_of_none r na)]; exact r) fun c xs r => by rw [upd_ne (ne_of_none r na)]; exact r
  have J := I.call (ch := []) (h' := s'.heap) (g' := s'.gens) (t' := s'.toks) (d' := s'.drawn) (H' := upd H a (exq a cls d))
    ⟨fun b o e _ hb _ => st b o (nb b o e hb), fun b o e _ hb _ => nf b hb o e, fun b o e n _ => by rw [upd_ne (ne b o e)]; exact n, fun b o e _ => by
      by_cases hb : b ∈ frs X.stack
      · obtain ⟨sl, q⟩ := nf b hb o e
        exact ⟨_, q⟩
      · exact ⟨o, st b o (nb b o e hb)⟩, fun b xs e => by rw [upd_ne (ne_of_none e na)]; exact e, fun b _ _ e => by rw [upd_ne (ne_of_none e na)]; exact e, fun b ps e => ⟨#[], by rw [upd_ne (ne_of_none e na), e]; simp⟩⟩
    hok ag (fun _ z => nomatch z)
  obtain ⟨a1, a2, a3, a4, a5⟩ := s'
  have e5 : a5 = sI.os := os
  subst e5
  exact J
theorem Inv.suiteX (I : Inv X pins σ H s) (a : Addr) : Inv (X.suite a (X.pn ++ pins)) [] σ H s :=
  ⟨I.ok.suite _ _, I.os, I.bare, I.base, I.loc, I.cell, I.free, I.freeC, fun p hp => I.pin p (by rw [List.append_nil] at hp; exact hp), I.hok, I.len⟩
theorem Inv.unsuiteX {a : Addr} {pn' : List (Addr × Obj)} (I : Inv (X.suite a (X.pn ++ pins)) pn' σ H s) (ok : X.Ok) : Inv X pins σ H s :=
  ⟨ok, I.os, I.bare, I.base, I.loc, I.cell, I.free, I.freeC, fun p hp => I.pin p (List.mem_append_left _ hp), I.hok, I.len⟩
end
/-- what the clause wishes: n's slot holds the exception, which is tracked from then on -/
def wAsX (K : PySem.W.Frag) (c : Value) (i : Nat) (ts : Addr → Value → Option Addr → TS) (Wout : WX) (D : Ends) : WX := fun cls d σ H =>
  ∃ b, PySem.W.exmOne K cls c = some b ∧ (b = true → ∀ a, H a = none → ts a cls d { nx := fun σ' H' => D.nx (σ'.set i none) H', rt := D.rt, bk := fun σ' H' => D.bk (σ'.set i none) H', ct := fun σ' H' => D.ct (σ'.set i none) H' } (σ.set i (some (.ref a))) (upd H a (exq a cls d))) ∧
    (b = false → Wout cls d σ H)
section
variable {X : Cx} {x n : Str} {c : Value} {i : Nat} {body suite : List Stmt} {b₀ : Stmt} {np pos pos' : Pos} {tb : WX → TS} {ts : Addr → Value → Option Addr → TS} {Wout : WX}
theorem ps_try_asX (hs : X.stack = X.env :: X.outer) (hf : X.env.frame = some X.env.locals) (hN : X.N.Nodup) (hi : X.N[i]? = some n) (hln : X.env.kindOf n = some .local) (hc : Names X x c) (tk : Takes X Wout)
    (hb : ∀ (W : WX) (pn : List (Addr × Obj)) (xe : Value → Shared → Prop), Takes (X.tr pn xe) W → PassesOwn (model X.prog X.w) X.A X.env xe → PSs (X.tr pn xe) body (tb W))
    (hsu : ∀ (a : Addr) (cls : Value) (d : Option Addr) (pn : List (Addr × Obj)), PSs (X.suite a pn) (b₀ :: suite) (ts a cls d)) :
    PS X (.Try body [.ExceptHandler (some (.Name x np)) (some n) (b₀ :: suite) pos'] [] [] pos) (fun D σ H => tb (wAsX X.K c i ts Wout D) D σ H) := by
  refine ⟨fun pins s σ H D I h => ?_⟩
  have ok := I.ok
  have hfr : X.A.frames = some (X.env :: X.outer) := by rw [ok.frames, hs]
  have hloc : Loc X.env.scope n := .inl hln
  refine wpAny_Try_except ?_
  refine wpAny_mono ((hb (wAsX X.K c i ts Wout D) (X.pn ++ pins) (fun e s₁ => wpAny (model X.prog X.w) X.A (noteFrame e X.env) (fun _ s₂ => wpAny (model X.prog X.w) X.A (setFlight e none) (fun _ s₃ =>
    wpAny (model X.prog X.w) X.A (handleBy e X.env [.ExceptHandler (some (.Name x np)) (some n) (b₀ :: suite) pos']) (SP X pins D) X.xe s₃) X.xe s₂) X.xe s₁) (fun u s' xx => ?_) PassesOwn.looking).run [] s σ H D (I.toTry _) h) (fun f s1 hsp => ?_) (fun e s1 he => he)
  · -- the catch
    obtain ⟨a, B, sI, pins', σ', H', cls, d, rfl, J', nb, up, sky, na, os, ag, b, hb1, hyes, hno⟩ := xx
    have J : Inv X pins σ' H' sI := J'.ofTry ok
    have sky' : Sky B (X.env :: X.outer) a (Zc cls d) X.env.locals s'.heap := by rw [← hs]; exact sky
    show wpAny (model X.prog X.w) X.A (noteFrame (.ref a) X.env) _ _ _
    refine Sky.land Zc.steady hfr hf sky' fun h3 fl3 up3 => ?_
    have J3 : Inv X pins σ' H' { s' with heap := h3 } := J.landed nb fl3.1 (up.trans up3) os ag
    obtain ⟨oe3, vs3, he3, hz3, hd3⟩ := fl3.there
    have notFr : ∀ {h : Heap} {o : Obj} {vs : Array Value}, h.FunFrames B (X.env :: X.outer) → h.get? a = some o → o.data = .fields vs → a ∉ frs (X.env :: X.outer) := fun {h o vs} ff e dd hm => by
      obtain ⟨_, o', e', hnf⟩ := ff.mem hm
      rw [e] at e'; cases e'
      exact hnf _ dd
    have nfr := notFr fl3.2.2.1 he3 hd3
    have nfr' : a ∉ frs X.stack := by rw [hs]; exact nfr
    have nL : a ≠ X.env.locals := fun z => nfr (List.mem_filterMap.mpr ⟨X.env, List.mem_cons_self, by rw [hf, z]⟩)
    have nF : a ∉ X.fs := fun hm => by
      obtain ⟨e, he, q⟩ := List.mem_filterMap.mp hm
      exact nfr (List.mem_filterMap.mpr ⟨e, List.mem_cons_of_mem _ he, q⟩)
    have S3 := J3.suite he3 hd3 na nL nF
    refine wpAny_handleBy_cons (codeAny_handlers_test ?_) (by intro q; cases q)
    have LT : PySem.W.Looks (model X.prog X.w) h3 (typeOf (.ref a)) cls := fun A Q E s k q => wpAny_typeOf_ref (k _ _ he3) (by rw [hz3.1]; exact q)
    have LM := PySem.W.exm_one (M := model X.prog X.w) (J3.kIn) LT hb1
    have test : ∀ {Q : Value → Shared → Prop} {E : Value → Shared → Prop}, Q c { s' with heap := h3 } → wpAny (model X.prog X.w) (X.A.mark (some (.ref a))) (eval (.Name x np) X.env) Q E { s' with heap := h3 } := fun {Q E} q => by
      obtain ⟨hg, hdbg, hm | ⟨hm, hv, hnn⟩⟩ := hc
      · exact ld_glob (X := X.suite a ((a, oe3) :: (X.pn ++ pins))) S3 hg hm q hdbg
      · exact ld_blt (X := X.suite a ((a, oe3) :: (X.pn ++ pins))) S3 hg hm hv q hnn hdbg
    refine test (LM.here ?_)
    cases b with
    | true =>
      refine codeAny_handlers_suite_as ?_
      refine HandSPX.lands_againZ fl3 fun h4 fl4 up4 => ?_
      obtain ⟨oe4, vs4, he4, hz4, hd4⟩ := fl4.there
      have J4 : Inv X pins σ' (upd H' a (exq a cls d)) { s' with heap := h4 } := Inv.landedX J nb fl4.1 ((up.trans up3).trans up4) os ag fl4.2.1 nfr' he4 hz4 hd4 na
      have S4 := Inv.suiteX J4 a
      refine store_ok (X := X.suite a (X.pn ++ pins)) (v := .ref a) S4 hN hi hloc rfl (fun s5 S5 => ?_) (.inr hln)
      refine wpAny_mono ((hsu a cls d (X.pn ++ pins)).run [] s5 _ _ _ S5 (hyes rfl a na)) (fun f s6 hsp => ?_) (fun _ _ z => False.elim z)
      have end_ : ∀ {σ6 : St} {H6 : Hp} {Q : Shared → Prop}, Inv (X.suite a (X.pn ++ pins)) [] σ6 H6 s6 → (∀ s7, Inv X pins (σ6.set i none) H6 s7 → Q s7) →
          wpAny (model X.prog X.w) X.A (do bindName X.env n .none; unbindBehindTheSuite X.env n pos') (fun _ s7 => Q s7) X.xe s6 := fun {σ6 H6 Q} S6 hq => gone_ok (Inv.unsuiteX S6 ok) hN hi hln hq
      cases f with
      | next =>
        obtain ⟨σ6, H6, S6, q6⟩ := hsp
        exact end_ S6 fun s7 J7 => ⟨_, _, J7, q6⟩
      | brk =>
        obtain ⟨σ6, H6, S6, q6⟩ := hsp
        exact end_ S6 fun s7 J7 => ⟨_, _, J7, q6⟩
      | cont =>
        obtain ⟨σ6, H6, S6, q6⟩ := hsp
        exact end_ S6 fun s7 J7 => ⟨_, _, J7, q6⟩
      | ret u =>
        obtain ⟨v6, σ6, H6, S6, r6, q6⟩ := hsp
        exact end_ S6 fun s7 J7 => ⟨_, _, _, J7, r6, q6⟩
    | false =>
      show wpAny _ X.A (handleBy (.ref a) X.env []) _ _ _
      refine wpAny_handleBy_nil ?_
      obtain ⟨k1, k2, k3, oe, vs, T, oT, ts', he, hz, hd, h1, hr⟩ := id fl3
      unfold PySem.passOn
      refine wpAny_bind (wpAny_field he hd h1 ?_)
      rw [if_neg (show ¬ ((Value.ref T == Value.none) = true) from by simp)]
      have fin : wpAny (model X.prog X.w) X.A (setFlight (.ref a) X.env.frame) (fun _ s4 => wpAny (model X.prog X.w) X.A (throw (.ref a) : Sem Flow) (SP X pins D) X.xe s4) X.xe { s' with heap := h3 } := by
        rw [hf]
        refine HandSPX.setFlight_upZ fl3 fun h4 hh4 up4 => wpAny_throw (tk _ _ ?_)
        exact ⟨a, B, sI, pins, σ', H', cls, d, rfl, J, nb, (up.trans up3).trans up4, .inr (.inr (by rw [hs]; exact hh4)), na, os, ag, hno rfl⟩
      first
        | exact wpAny_bind (wpAny_pure (wpAny_bind fin))
        | exact wpAny_bind fin
  · cases f with
    | next =>
      obtain ⟨σ', H', J', q⟩ := hsp
      exact wpAny_execs_nil ⟨σ', H', J'.ofTry ok, q⟩
    | brk =>
      obtain ⟨σ', H', J', q⟩ := hsp
      exact ⟨σ', H', J'.ofTry ok, q⟩
    | cont =>
      obtain ⟨σ', H', J', q⟩ := hsp
      exact ⟨σ', H', J'.ofTry ok, q⟩
    | ret u =>
      obtain ⟨v, σ', H', J', r, q⟩ := hsp
      exact ⟨v, σ', H', J'.ofTry ok, r, q⟩
end
/-! ### isinstance of such, its fields -/
def rIsQ (K : PySem.W.Frag) : List V → Hp → VK → Prop := fun xs H Q => ∃ (a D dd : Addr) (fs : List (Str × V)), H a = some (exq a (.ref D) (some dd)) ∧ ExcD K D ∧ H dd = some (.xd fs) ∧
  ((∃ (c : V) (u : Value) (b : Bool), xs = [.ref a, c] ∧ ClsV c u ∧ PySem.W.kitOne K (.ref D) u = some b ∧ Q (.bl b) H) ∨
    ∃ (tp : Addr) (cs : List V) (us : List Value) (b : Bool), xs = [.ref a, .ref tp] ∧ H tp = some (.tup cs) ∧ Paired ClsV cs us ∧ PySem.W.kitAny K (.ref D) us = some b ∧ Q (.bl b) H)
theorem call_isQ {X : Cx} : CallR X (.builtin "isinstance") (rIsQ X.K) := by
  intro pins s σ H xs us Q I r h
  obtain ⟨a, D, dd, fs, ea, C, ed, h⟩ := h
  obtain ⟨oe, vs, hget, hz, hv⟩ := exq_at I.hok ea
  have hx : ObjOk X.prog X.w H s.heap dd (.xd fs) := I.hok dd _ ed
  obtain ⟨mA, hns, hr⟩ := hx
  obtain ⟨od, ho, hl⟩ := lookIn_ns hns
  have J : PySem.W.InstAt s.heap a oe D (some od) := ⟨hget, hz.1, by unfold PySem.W.notCls; rw [hv] <;> rfl, by rw [hz.2]; exact ho⟩
  have Z := PySem.W.kitx_exc (K := X.K) (x := a) (C := D) (ox := oe) (od := some od) C.cl C.hg C.hk C.hs C.ha C.hn C.ht C.hm
  rcases h with ⟨c, u, b, rfl, k, e, q⟩ | ⟨tp, cs, ws, b, rfl, hT, k, e, q⟩
  · obtain ⟨u1, u2, rfl, r1, r2⟩ := vals2 r
    cases (show u1 = Value.ref a from r1)
    have e2 := k.eq r2
    subst e2
    exact PySem.W.kia_one Z I.kIn J e (fun z => nomatch z) fun tk => ⟨.bl b, H, I.tok tk, rfl, q⟩
  · obtain ⟨u1, u2, rfl, r1, r2⟩ := vals2 r
    cases (show u1 = Value.ref a from r1)
    cases (show u2 = Value.ref tp from r2)
    obtain ⟨_, its, rv, o, h1, h2, n, h3⟩ := (show ObjOk X.prog X.w H s.heap tp (.tup cs) from I.hok tp _ hT)
    have e3 := ClsV.all k rv
    subst e3
    obtain ⟨oc, od2, dt, sl⟩ := o
    simp only at h2 h3
    subst h2 h3
    exact PySem.W.kia_tup Z I.kIn J h1 e (fun z => nomatch z) fun tk => ⟨.bl b, H, I.tok tk, rfl, q⟩
def rIsiY (K : PySem.W.Frag) : List V → Hp → VK → Prop := fun xs H Q => rIsiX K xs H Q ∨ rIsQ K xs H Q
theorem call_isiY {X : Cx} : CallR X (.builtin "isinstance") (rIsiY X.K) := call_isiX.or call_isQ
theorem call_isiYK {X : Cx} {K : PySem.W.Frag} (hK : X.K = K) : CallR X (.builtin "isinstance") (rIsiY K) := hK ▸ call_isiY
section
variable {K : PySem.W.Frag} {a D dd tp : Addr} {fs : List (Str × V)} {H : Hp} {Q : VK} {c x : V} {cs : List V} {u : Value} {us : List Value} {b : Bool}
theorem go_isY {xs : List V} (h : rIsiX K xs H Q) : rIsiY K xs H Q := .inl h
theorem go_isQ (ea : H a = some (exq a (.ref D) (some dd))) (C : ExcD K D) (ed : H dd = some (.xd fs)) (k : ClsV c u) (e : PySem.W.kitOne K (.ref D) u = some b) (h : Q (.bl b) H) : rIsiY K [.ref a, c] H Q := .inr ⟨a, D, dd, fs, ea, C, ed, .inl ⟨c, u, b, rfl, k, e, h⟩⟩
theorem go_isQT (ea : H a = some (exq a (.ref D) (some dd))) (C : ExcD K D) (ed : H dd = some (.xd fs)) (hT : H tp = some (.tup cs)) (k : Paired ClsV cs us) (e : PySem.W.kitAny K (.ref D) us = some b) (h : Q (.bl b) H) : rIsiY K [.ref a, .ref tp] H Q := .inr ⟨a, D, dd, fs, ea, C, ed, .inr ⟨tp, cs, us, b, rfl, hT, k, e, h⟩⟩
def tXq (K : PySem.W.Frag) (f : Str) (te : TE) : TE := fun σ H Q => te σ H fun x H1 => ∃ (a C dd : Addr) (fs : List (Str × V)) (v : V), x = .ref a ∧ H1 a = some (exq a (.ref C) (some dd)) ∧ XfC K C ∧ PySem.W.findIn K (.ref C) f = some none ∧ H1 dd = some (.xd fs) ∧ fs.lookup f = some v ∧ Q v H1
theorem pe_xq {X : Cx} {e : Expr} {te : TE} {pos : Pos} {n : Str} (hK : X.K = K) (he : PE X e te) (hb : attributeBase e n X.env (eval e X.env) = eval e X.env := by rfl) : PE X (.Attribute e n pos) (tXq K n te) := by
  subst hK
  refine ⟨fun pins s σ H Q I h => ?_⟩
  refine attr_of hb (thn (he.run pins s σ H _ I h) fun u s1 hh => ?_)
  obtain ⟨x, H1, I1, rx, a, C, dd, fs, v, ex, ea, T, hno, ed, l, q⟩ := hh
  subst ex
  obtain rfl : u = Value.ref a := rx
  obtain ⟨oe, vs, ha, hz, hd⟩ := exq_at I1.hok ea
  have hx : ObjOk X.prog X.w H1 s1.heap dd (.xd fs) := I1.hok dd _ ed
  obtain ⟨mA, hns, hr⟩ := hx
  obtain ⟨od, ho, hl⟩ := lookIn_ns hns
  obtain ⟨u, hu, ru⟩ := RelO.some_of (v := v) (o := mA n) (by rw [← l]; exact hr n)
  have J : PySem.W.InstAt s1.heap a oe C (some od) := ⟨ha, hz.1, by unfold PySem.W.notCls; rw [hd] <;> rfl, by rw [hz.2]; exact ho⟩
  exact HandSPX.exc_get I1.kIn J T.ga T.gg T.exC (PySem.W.findObj_own T.hdC hno rfl (by rw [hl, hu])) (handed_of ru) ⟨v, H1, I1.tok _, ru, q⟩
def XqW (K : PySem.W.Frag) (f : Str) (x : V) (H1 : Hp) (Q : VK) : Prop := ∃ (a C dd : Addr) (fs : List (Str × V)) (v : V), x = .ref a ∧ H1 a = some (exq a (.ref C) (some dd)) ∧ XfC K C ∧ PySem.W.findIn K (.ref C) f = some none ∧ H1 dd = some (.xd fs) ∧ fs.lookup f = some v ∧ Q v H1
theorem go_xq {f : Str} {te : TE} {σ : St} (h : te σ H fun x H1 => XqW K f x H1 Q) : tXq K f te σ H Q := h
theorem go_xqW {f : Str} {v : V} (ea : H a = some (exq a (.ref D) (some dd))) (T : XfC K D) (n : PySem.W.findIn K (.ref D) f = some none) (ed : H dd = some (.xd fs)) (l : fs.lookup f = some v) (h : Q v H) : XqW K f (.ref a) H Q := ⟨a, D, dd, fs, v, rfl, ea, T, n, ed, l, h⟩
theorem go_caughtX {cls c : Value} {d : Option Addr} {i : Nat} {ts : Addr → Value → Option Addr → TS} {Wout : WX} {Dd : Ends} {σ : St} (e : PySem.W.exmOne K cls c = some true)
    (h : ∀ a, H a = none → ts a cls d { nx := fun σ' H' => Dd.nx (σ'.set i none) H', rt := Dd.rt, bk := fun σ' H' => Dd.bk (σ'.set i none) H', ct := fun σ' H' => Dd.ct (σ'.set i none) H' } (σ.set i (some (.ref a))) (upd H a (exq a cls d))) : WE (wAsX K c i ts Wout Dd) σ cls d H :=
  ⟨true, e, fun _ => h, fun z => by cases z⟩
end
/-- an exception made as a value -/
def tExV (t : St → Hp → XK → Prop) : TE := fun σ H Q => t σ H fun cls d H' => ∀ a, H' a = none → Q (.ref a) (upd H' a (exq a cls d))
theorem pe_exv {X : Cx} {e : Expr} {t : St → Hp → XK → Prop} (he : PMk X e t) : PE X e (tExV t) := by
  refine ⟨fun pins s σ H Q I h => ?_⟩
  refine thn (he pins s σ H _ I h) fun u s1 hu => ?_
  obtain ⟨a, oe, vs, sI, H', cls, d, rfl, J, k, hne, ha, hz, hd, h1, na, os, ag, r, q⟩ := hu
  refine ⟨.ref a, _, Inv.landedX (B := sI.heap) J (fun b o e _ => e) k (Heap.UpToSlots.of_keeps k) os ag hne (fun hm => ?_) ha hz hd na, rfl, q a na⟩
  obtain ⟨_, o', e', _⟩ := J.stack.mem hm
  rw [hne] at e'; cases e'
def ExNew (cls : Value) (d : Option Addr) (H' : Hp) (Q : VK) : Prop := ∀ a, H' a = none → Q (.ref a) (upd H' a (exq a cls d))
theorem go_exv {t : St → Hp → XK → Prop} {σ : St} {H : Hp} {Q : VK} (h : t σ H fun cls d H' => ExNew cls d H' Q) : tExV t σ H Q := h
/-- the new exception and its dict, the heap abstract -/
theorem go_exNew {cls : Value} {d : Option Addr} {H : Hp} {Q : VK} (h : ∀ a H', H a = none → Same H H' → H' a = some (exq a cls d) → Q (.ref a) H') : ExNew cls d H Q := fun a na => h a _ na (same_new na) upd_same
end L2.A


namespace L2.A
open PySem PySem.Spec PyProof.Rows
/-! ### objects that may change, told by their cells -/
abbrev Cells := List (Addr × HO)
/-- kinds of objects that may change -/
def isMutB : HO → Bool
  | .ins _ _ _ | .dK _ | .dT _ | .lst _ | .frz _ _ => true
  | _ => false
structure Lay (L : Cells) (H : Hp) : Prop where
  nd : (L.map Prod.fst).Nodup
  has : ∀ c ∈ L, H c.1 = some c.2
  mt : ∀ c ∈ L, isMutB c.2 = true
/-- from H on: what stood in L stands as L' now, all else as it was, what is more in L' is new -/
structure Ext (L L' : Cells) (H H' : Hp) : Prop where
  kp : ∀ a o, H a = some o → a ∉ L.map Prod.fst → H' a = some o
  lay0 : Lay L H
  lay : Lay L' H'
  new : ∀ a ∈ L'.map Prod.fst, a ∈ L.map Prod.fst ∨ H a = none
  free : ∀ a, H' a = none → H a = none
theorem Lay.nil {H : Hp} : Lay [] H := ⟨List.nodup_nil, fun _ h => (by cases h), fun _ h => (by cases h)⟩
theorem Lay.get {L : Cells} {H : Hp} {p : Addr} {o : HO} (h : Lay L H) (m : (p, o) ∈ L) : H p = some o := h.has _ m
theorem Lay.same {L : Cells} {H H' : Hp} (h : Lay L H) (s : Same H H') : Lay L H' := ⟨h.nd, fun c m => s _ _ (h.has c m), h.mt⟩
theorem Lay.perm {L L' : Cells} {H : Hp} (h : Lay L H) (p : L.Perm L') : Lay L' H := ⟨(p.map Prod.fst).nodup_iff.mp h.nd, fun c m => h.has c (p.mem_iff.mpr m), fun c m => h.mt c (p.mem_iff.mpr m)⟩
theorem Lay.left {L R : Cells} {H : Hp} (h : Lay (L ++ R) H) : Lay L H := ⟨by have := h.nd; rw [List.map_append] at this; exact (List.nodup_append.mp this).1, fun c m => h.has c (List.mem_append_left _ m), fun c m => h.mt c (List.mem_append_left _ m)⟩
theorem Lay.right {L R : Cells} {H : Hp} (h : Lay (L ++ R) H) : Lay R H := ⟨by have := h.nd; rw [List.map_append] at this; exact (List.nodup_append.mp this).2.1, fun c m => h.has c (List.mem_append_right _ m), fun c m => h.mt c (List.mem_append_right _ m)⟩
theorem Lay.pull {L B R : Cells} {H : Hp} (h : Lay L H) (p : L.Perm (B ++ R)) : Lay B H := (h.perm p).left
theorem Lay.tup {L : Cells} {H : Hp} (h : Lay L H) {a : Addr} {xs : List V} (e : H a = some (.tup xs)) : a ∉ L.map Prod.fst := fun m => by
  obtain ⟨c, mc, rfl⟩ := List.mem_map.mp m
  have h1 := h.has c mc
  have h2 := h.mt c mc
  rw [h1] at e
  rw [Option.some.inj e] at h2
  cases h2
theorem Lay.free {L : Cells} {H : Hp} (h : Lay L H) {a : Addr} (e : H a = none) : a ∉ L.map Prod.fst := fun m => by
  obtain ⟨c, mc, rfl⟩ := List.mem_map.mp m
  rw [h.has c mc] at e
  cases e
theorem Lay.cons {L : Cells} {H : Hp} (h : Lay L H) {a : Addr} {o : HO} (n : a ∉ L.map Prod.fst) (e : H a = some o) (m : isMutB o = true) : Lay ((a, o) :: L) H :=
  ⟨List.nodup_cons.mpr ⟨n, h.nd⟩, fun c mc => by
    rcases List.mem_cons.mp mc with rfl | mc
    · exact e
    · exact h.has c mc, fun c mc => by
    rcases List.mem_cons.mp mc with rfl | mc
    · exact m
    · exact h.mt c mc⟩
theorem Ext.refl {L : Cells} {H : Hp} (h : Lay L H) : Ext L L H H := ⟨fun _ _ e _ => e, h, h, fun a m => .inl m, fun _ e => e⟩
theorem Ext.tup {L L' : Cells} {H H' : Hp} (x : Ext L L' H H') {a : Addr} {xs : List V} (e : H a = some (.tup xs)) : H' a = some (.tup xs) := x.kp a _ e (x.lay0.tup e)
theorem Ext.trans {L L' L'' : Cells} {H H' H'' : Hp} (x : Ext L L' H H') (y : Ext L' L'' H' H'') : Ext L L'' H H'' := by
  have back : ∀ a, a ∈ L'.map Prod.fst → ∀ o, H a = some o → a ∈ L.map Prod.fst := fun a m o e => by
    rcases x.new a m with h | h
    · exact h
    · rw [h] at e; cases e
  refine ⟨fun a o e n => y.kp a o (x.kp a o e n) fun m => n (back a m o e), x.lay0, y.lay, fun a m => ?_, fun a e => x.free a (y.free a e)⟩
  rcases y.new a m with h | h
  · exact x.new a h
  · exact .inr (x.free a h)
theorem Ext.same {L L' : Cells} {H H' H'' : Hp} (x : Ext L L' H H') (s : Same H' H'') : Ext L L' H H'' := ⟨fun a o e n => s _ _ (x.kp a o e n), x.lay0, x.lay.same s, x.new, fun a e => x.free a (s.free e)⟩
theorem Ext.of_same {L : Cells} {H H' : Hp} (h : Lay L H) (s : Same H H') : Ext L L H H' := (Ext.refl h).same s
/-- nothing changed but what is new -/
theorem Ext.toSame {L : Cells} {H H' : Hp} (x : Ext [] L H H') : Same H H' := fun a o e => x.kp a o e (fun m => nomatch m)
theorem Ext.toSame' {L L' R : Cells} {H H' : Hp} (x : Ext L L' H H') (p : L'.Perm (L ++ R)) : Same H H' := fun a o e => by
  by_cases m : a ∈ L.map Prod.fst
  · obtain ⟨c, mc, rfl⟩ := List.mem_map.mp m
    have h1 := x.lay0.has c mc
    rw [e] at h1
    rw [Option.some.inj h1]
    exact x.lay.has c (p.mem_iff.mpr (List.mem_append_left _ mc))
  · exact x.kp a o e m
theorem Ext.perm {L L' B : Cells} {H H' : Hp} (x : Ext L L' H H') (p : L'.Perm B) : Ext L B H H' := ⟨x.kp, x.lay0, x.lay.perm p, fun a m => x.new a ((p.map Prod.fst).mem_iff.mpr m), x.free⟩
theorem Ext.drop {L L' B R : Cells} {H H' : Hp} (x : Ext L L' H H') (p : L'.Perm (B ++ R)) : Ext L B H H' := ⟨x.kp, x.lay0, x.lay.pull p, fun a m => x.new a ((p.map Prod.fst).mem_iff.mpr (by rw [List.map_append]; exact List.mem_append_left _ m)), x.free⟩
theorem Ext.perm0 {L L' B : Cells} {H H' : Hp} (x : Ext L L' H H') (p : L.Perm B) : Ext B L' H H' := ⟨fun a o e n => x.kp a o e fun m => n ((p.map Prod.fst).mem_iff.mp m), x.lay0.perm p, x.lay, fun a m => (x.new a m).imp (fun z => (p.map Prod.fst).mem_iff.mp z) id, x.free⟩
/-- what is around stays -/
theorem Ext.frame {B B' R : Cells} {H H' : Hp} (h : Lay (B ++ R) H) (x : Ext B B' H H') : Ext (B ++ R) (B' ++ R) H H' := by
  have nd := h.nd
  rw [List.map_append] at nd
  obtain ⟨n1, n2, n3⟩ := List.nodup_append.mp nd
  have rB : ∀ c ∈ R, c.1 ∉ B.map Prod.fst := fun c mc mb => n3 _ mb _ (List.mem_map_of_mem mc) rfl
  refine ⟨fun a o e n => x.kp a o e fun m => n (by rw [List.map_append]; exact List.mem_append_left _ m), h, ⟨?_, fun c mc => ?_, fun c mc => ?_⟩, fun a m => ?_, x.free⟩
  · rw [List.map_append]
    refine List.nodup_append.mpr ⟨x.lay.nd, n2, fun a ma b mb e => ?_⟩
    subst e
    rcases x.new a ma with z | z
    · exact n3 _ z _ mb rfl
    · obtain ⟨c, mc, rfl⟩ := List.mem_map.mp mb
      rw [h.has c (List.mem_append_right _ mc)] at z; cases z
  · rcases List.mem_append.mp mc with m | m
    · exact x.lay.has c m
    · exact x.kp _ _ (h.has c (List.mem_append_right _ m)) (rB c m)
  · rcases List.mem_append.mp mc with m | m
    · exact x.lay.mt c m
    · exact h.mt c (List.mem_append_right _ m)
  · rw [List.map_append] at m ⊢
    rcases List.mem_append.mp m with m | m
    · exact (x.new a m).imp (fun z => List.mem_append_left _ z) id
    · exact .inl (List.mem_append_right _ m)
/-- a call that changes the block B -/
theorem Ext.call {L0 L B B' R : Cells} {H0 H H' : Hp} (x : Ext L0 L H0 H) (p : L.Perm (B ++ R)) (y : Ext B B' H H') : Ext L0 (B' ++ R) H0 H' := (x.perm p).trans (Ext.frame (x.lay.perm p) y)
/-- one cell anew -/
theorem Ext.put {L0 L R : Cells} {H0 H : Hp} {a : Addr} {o o' : HO} (x : Ext L0 L H0 H) (p : L.Perm ((a, o) :: R)) (m : isMutB o' = true) : Ext L0 ((a, o') :: R) H0 (upd H a o') := by
  have h := x.lay.perm p
  have nd := h.nd
  rw [List.map_cons, List.nodup_cons] at nd
  refine (x.perm p).trans ⟨fun b u e n => by rw [upd_ne (fun z => n (by rw [z]; exact List.mem_cons_self ..))]; exact e, h, ⟨?_, fun c mc => ?_, fun c mc => ?_⟩, fun b mb => .inl mb, fun b e => upd_free e⟩
  · exact List.nodup_cons.mpr nd
  · rcases List.mem_cons.mp mc with rfl | mc
    · exact upd_same
    · rw [upd_ne (fun z => nd.1 (by rw [← z]; exact List.mem_map.mpr ⟨c, mc, rfl⟩))]
      exact h.has c (List.mem_cons_of_mem _ mc)
  · rcases List.mem_cons.mp mc with rfl | mc
    · exact m
    · exact h.mt c (List.mem_cons_of_mem _ mc)
/-- a new cell -/
theorem Ext.add {L0 L : Cells} {H0 H H' : Hp} {a : Addr} {o : HO} (x : Ext L0 L H0 H) (n : H a = none) (s : Same H H') (e : H' a = some o) (m : isMutB o = true) : Ext L0 ((a, o) :: L) H0 H' :=
  ⟨fun b u e n => s _ _ (x.kp b u e n), x.lay0, (x.lay.same s).cons (x.lay.free n) e m, fun b mb => by
    rcases List.mem_cons.mp mb with rfl | mb
    · exact .inr (x.free _ n)
    · exact x.new b mb, fun b e => x.free b (s.free e)⟩
theorem Ext.addU {L0 L : Cells} {H0 H : Hp} {a : Addr} {o : HO} (x : Ext L0 L H0 H) (n : H a = none) (m : isMutB o = true) : Ext L0 ((a, o) :: L) H0 (upd H a o) := x.add n (same_new n) upd_same m
theorem Ext.newU {L0 L : Cells} {H0 H : Hp} {a : Addr} {o : HO} (x : Ext L0 L H0 H) (n : H a = none) : Ext L0 L H0 (upd H a o) := x.same (same_new n)
/-! ### finding a block -/
theorem pm_here {B R : Cells} : (B ++ R).Perm (B ++ R) := .refl _
theorem pm_all {B : Cells} : B.Perm (B ++ []) := by rw [List.append_nil]
theorem pm_app {A B L R : Cells} (h : L.Perm (B ++ R)) : (A ++ L).Perm (B ++ (A ++ R)) := (h.append_left A).trans (by rw [← List.append_assoc, ← List.append_assoc]; exact List.perm_append_comm.append_right R)
theorem pm_cons {c : Addr × HO} {B L R : Cells} (h : L.Perm (B ++ R)) : (c :: L).Perm (B ++ (c :: R)) := (h.cons c).trans List.perm_middle.symm
theorem pm_nil {L : Cells} : L.Perm ([] ++ L) := .refl _
theorem pm_two {B C L R R' : Cells} (h : L.Perm (B ++ R)) (h' : R.Perm (C ++ R')) : L.Perm ((B ++ C) ++ R') := h.trans ((h'.append_left B).trans (by rw [List.append_assoc]))
theorem pc_here {c : Addr × HO} {R : Cells} : (c :: R).Perm (c :: R) := .refl _
theorem pc_cons {c d : Addr × HO} {L R : Cells} (h : L.Perm (d :: R)) : (c :: L).Perm (d :: c :: R) := (h.cons c).trans (.swap ..)
theorem pc_app {d : Addr × HO} {A L R : Cells} (h : L.Perm (d :: R)) : (A ++ L).Perm (d :: (A ++ R)) := (h.append_left A).trans List.perm_middle
end L2.A

namespace L2.A
open PySem PySem.Spec PyProof.Rows
/-! ### dicts of names: names alone, names with numbers -/
def setO (zs : List Str) : HO := .dK (zs.map fun z => (Sum.inr z, V.bl true))
def cntO (ks : List (Str × Int)) : HO := .dK (ks.map fun kv => (Sum.inr kv.1, V.int kv.2))
def addS (zs : List Str) (z : Str) : List Str := if z ∈ zs then zs else zs ++ [z]
def cntV (ks : List (Str × Int)) (z : Str) : Option Int := (ks.find? fun kv => decide (kv.1 = z)).map (·.2)
def cntP (ks : List (Str × Int)) (z : Str) (n : Int) : List (Str × Int) := if (cntV ks z).isSome = true then ks.map (fun kv => if kv.1 = z then (kv.1, n) else kv) else ks ++ [(z, n)]
theorem valV_set {zs : List Str} {z : Str} : valV (zs.map fun z => ((Sum.inr z : Key), V.bl true)) (Sum.inr z) = if z ∈ zs then some (.bl true) else none := by
  induction zs with
  | nil => rfl
  | cons y r ih =>
    rw [List.map_cons]
    by_cases e : y = z
    · subst e
      rw [valV_pos rfl]; simp
    · rw [valV_neg (by simpa using e), ih]
      have : ¬ z = y := fun h => e h.symm
      simp [this]
theorem putK_set {zs : List Str} {z : Str} : putK (zs.map fun z => ((Sum.inr z : Key), V.bl true)) (Sum.inr z) (.bl true) = (addS zs z).map fun z => ((Sum.inr z : Key), V.bl true) := by
  unfold putK addS
  rw [valV_any, valV_set]
  by_cases e : z ∈ zs
  · rw [if_pos e, if_pos (show (some (V.bl true)).isSome = true from rfl), if_pos e, List.map_map]
    refine List.map_congr_left fun y _ => ?_
    show (if (Sum.inr y : Key) = Sum.inr z then ((Sum.inr y : Key), V.bl true) else (Sum.inr y, V.bl true)) = _
    by_cases q : (Sum.inr y : Key) = Sum.inr z
    · rw [if_pos q]
    · rw [if_neg q]
  · rw [if_neg e, if_neg (by decide), if_neg e, List.map_append]; rfl
theorem valV_cnt {ks : List (Str × Int)} {z : Str} : valV (ks.map fun kv => ((Sum.inr kv.1 : Key), V.int kv.2)) (Sum.inr z) = (cntV ks z).map V.int := by
  unfold cntV
  induction ks with
  | nil => rfl
  | cons y r ih =>
    rw [List.map_cons]
    by_cases e : y.1 = z
    · rw [valV_pos (by simp [e]), List.find?_cons, decide_eq_true e]; rfl
    · rw [valV_neg (by simpa using e), ih, List.find?_cons, decide_eq_false e]
theorem putK_cnt {ks : List (Str × Int)} {z : Str} {n : Int} : putK (ks.map fun kv => ((Sum.inr kv.1 : Key), V.int kv.2)) (Sum.inr z) (.int n) = (cntP ks z n).map fun kv => ((Sum.inr kv.1 : Key), V.int kv.2) := by
  unfold putK cntP
  rw [valV_any, valV_cnt]
  by_cases e : (cntV ks z).isSome = true
  · rw [if_pos (by rw [Option.isSome_map]; exact e), if_pos e, List.map_map, List.map_map]
    refine List.map_congr_left fun y _ => ?_
    show (if (Sum.inr y.1 : Key) = Sum.inr z then ((Sum.inr y.1 : Key), V.int n) else (Sum.inr y.1, V.int y.2)) = _
    by_cases q : y.1 = z
    · rw [if_pos (by rw [q])]; simp [q]
    · rw [if_neg (by simpa using q)]; simp [q]
  · rw [if_neg (by rw [Option.isSome_map]; exact e), if_neg e, List.map_append]; rfl
section
variable {K : PySem.W.Frag} {H : Hp} {Q : VK} {p : Addr} {zs : List Str} {ks : List (Str × Int)} {z : Str} {QH : Hp → Prop}
theorem go_inS (hp : H p = some (setO zs)) (h : Q (.bl (decide (z ∈ zs))) H) : rInX K (.str z) (.ref p) H Q := by
  refine .inr (.inr ⟨p, _, rfl, DGet.k (k := Sum.inr z) hp, ?_⟩)
  rw [valV_set]
  by_cases e : z ∈ zs
  · rw [if_pos e]; rwa [decide_eq_true e] at h
  · rw [if_neg e]; rwa [decide_eq_false e] at h
theorem go_inC (hp : H p = some (cntO ks)) (h : Q (.bl (cntV ks z).isSome) H) : rInX K (.str z) (.ref p) H Q := by
  refine .inr (.inr ⟨p, _, rfl, DGet.k (k := Sum.inr z) hp, ?_⟩)
  rw [valV_cnt, Option.isSome_map]; exact h
theorem go_sS (hp : H p = some (setO zs)) (l : zs.length ≤ 10000) (h : QH (upd H p (setO (addS zs z)))) : rSetX (.ref p) (.str z) (.bl true) H QH := by
  refine go_sKs hp (by rw [List.length_map]; exact szl (by omega)) ?_
  rw [putK_set]; exact h
theorem go_sC {n : Int} (hp : H p = some (cntO ks)) (l : ks.length ≤ 10000) (h : QH (upd H p (cntO (cntP ks z n)))) : rSetX (.ref p) (.str z) (.int n) H QH := by
  refine go_sKs hp (by rw [List.length_map]; exact szl (by omega)) ?_
  rw [putK_cnt]; exact h
theorem go_xC {n : Int} (hp : H p = some (cntO ks)) (e : cntV ks z = some n) (h : Q (.int n) H) : rIxX K (.ref p) (.str z) H Q := go_xKs hp (by rw [valV_cnt, e]; rfl) h
theorem go_getC {n : Int} (hp : H p = some (cntO ks)) (h : Q (.int ((cntV ks z).getD n)) H) : Dg2K p (.str z) (.int n) H Q := by
  refine go_dg2S hp ?_
  rw [valV_cnt]
  cases e : cntV ks z with
  | none => rw [e] at h; exact h
  | some v => rw [e] at h; exact h
end
theorem addS_len {zs : List Str} {z : Str} : (addS zs z).length ≤ zs.length + 1 := by
  unfold addS
  split <;> simp
theorem cntP_len {ks : List (Str × Int)} {z : Str} {n : Int} : (cntP ks z n).length ≤ ks.length + 1 := by
  unfold cntP
  split <;> simp
end L2.A


namespace L2.A
open PySem PySem.Spec PyProof.Rows
/-! ### stores by cells -/
/-- tuples stay -/
def TupKeep (H H' : Hp) : Prop := ∀ a xs, H a = some (.tup xs) → H' a = some (.tup xs)
theorem TupKeep.at {H H' : Hp} {a : Addr} {xs : List V} (t : TupKeep H H') (h : H a = some (.tup xs)) : H' a = some (.tup xs) := t a xs h
theorem TupKeep.of_same {H H' : Hp} (s : Same H H') : TupKeep H H' := fun a xs h => s _ _ h
theorem Ext.tk {L L' : Cells} {H H' : Hp} (x : Ext L L' H H') : TupKeep H H' := fun a xs h => x.tup h
theorem pc_inl {d : Addr × HO} {A A' L : Cells} (h : A.Perm (d :: A')) : (A ++ L).Perm (d :: (A' ++ L)) := h.append_right L
theorem pl_nil {L : Cells} : L.Perm ([] ++ L) := .refl _
theorem pl_cons {c : Addr × HO} {B L L1 R : Cells} (h : L.Perm (c :: L1)) (h' : L1.Perm (B ++ R)) : L.Perm ((c :: B) ++ R) := h.trans (h'.cons c)
theorem pl_app {B C L L1 R : Cells} (h : L.Perm (B ++ L1)) (h' : L1.Perm (C ++ R)) : L.Perm ((B ++ C) ++ R) := pm_two h h'
theorem tk_put {L R : Cells} {H : Hp} {a : Addr} {o o' : HO} (h : Lay L H) (p : L.Perm ((a, o) :: R)) : TupKeep H (upd H a o') := fun b xs e => by
  have n := (h.perm p).tup e
  rw [upd_ne (fun z => n (by rw [z]; exact List.mem_cons_self ..))]
  exact e
section
variable {K : PySem.W.Frag} {f : Str} {y z v : V} {D : Ends} {σ : St} {Q : VK} {QS : St → Hp → Prop} {QH : Hp → Prop} {a C dx l : Addr} {fs fs' : List (Str × V)} {L0 L R : Cells} {H0 H : Hp} {xs : List V}
theorem go_sfldX (x : Ext L0 L H0 H) (p : L.Perm ((a, .ins C dx fs) :: R)) (c : Cls K C) (n : NoAttr K C f) (s : Nat.ble fs.length 900 = true) (e : putF f y fs = fs')
    (h : ∀ H', Ext L0 ((a, .ins C dx fs') :: R) H0 H' → TupKeep H H' → D.nx σ H') : SFldW K f y D σ (.ref a) H :=
  go_sfldW ((x.lay.perm p).get (.head _)) c n s e (h _ (x.put p rfl) (tk_put x.lay p))
theorem go_gfldX (x : Ext L0 L H0 H) (p : L.Perm ((a, .ins C dx fs) :: R)) (c : Cls K C) (n : NoAttr K C f) (s : Nat.ble fs.length 900 = true) (e : putF f v fs = fs')
    (h : ∀ H', Ext L0 ((a, .ins C dx fs') :: R) H0 H' → TupKeep H H' → QS σ H') : GFldW K f v σ (.ref a) H QS :=
  go_gfldW ((x.lay.perm p).get (.head _)) c n s e (h _ (x.put p rfl) (tk_put x.lay p))
theorem go_astX (x : Ext L0 L H0 H) (p : L.Perm ((a, .ins C dx fs) :: R)) (s : Nat.ble fs.length 900 = true) (e : putF f z fs = fs')
    (h : ∀ H', Ext L0 ((a, .ins C dx fs') :: R) H0 H' → TupKeep H H' → D.nx σ H') : AStW C f a D σ z H :=
  go_astW ((x.lay.perm p).get (.head _)) s e (h _ (x.put p rfl) (tk_put x.lay p))
theorem go_sLX {j : Int} {n : Nat} (x : Ext L0 L H0 H) (p : L.Perm ((l, .lst xs) :: R)) (hj : ixN xs.length j = some n) (h : ∀ H', Ext L0 ((l, .lst (xs.set n v)) :: R) H0 H' → TupKeep H H' → QH H') : rSetX (.ref l) (.int j) v H QH :=
  go_sL ((x.lay.perm p).get (.head _)) hj (h _ (x.put p rfl) (tk_put x.lay p))
theorem go_appendX (x : Ext L0 L H0 H) (p : L.Perm ((l, .lst xs) :: R)) (s : xs.length < 100000) (h : ∀ H', Ext L0 ((l, .lst (xs ++ [y])) :: R) H0 H' → TupKeep H H' → Q .non H') : rAppend (.ref l) [y] H Q :=
  go_append ((x.lay.perm p).get (.head _)) s (h _ (x.put p rfl) (tk_put x.lay p))
theorem go_sSX {zs : List Str} {k : Str} (x : Ext L0 L H0 H) (p : L.Perm ((l, setO zs) :: R)) (s : zs.length ≤ 10000) (h : ∀ H', Ext L0 ((l, setO (addS zs k)) :: R) H0 H' → TupKeep H H' → QH H') : rSetX (.ref l) (.str k) (.bl true) H QH :=
  go_sS ((x.lay.perm p).get (.head _)) s (h _ (x.put p rfl) (tk_put x.lay p))
theorem go_sCX {ks : List (Str × Int)} {k : Str} {n : Int} (x : Ext L0 L H0 H) (p : L.Perm ((l, cntO ks) :: R)) (s : ks.length ≤ 10000) (h : ∀ H', Ext L0 ((l, cntO (cntP ks k n)) :: R) H0 H' → TupKeep H H' → QH H') : rSetX (.ref l) (.str k) (.int n) H QH :=
  go_sC ((x.lay.perm p).get (.head _)) s (h _ (x.put p rfl) (tk_put x.lay p))
theorem go_sKX {kvs kvs' : List (Key × V)} {k : Str} (x : Ext L0 L H0 H) (p : L.Perm ((l, .dK kvs) :: R)) (s : Nat.ble kvs.length 1000 = true) (e : putK kvs (Sum.inr k) v = kvs') (h : ∀ H', Ext L0 ((l, .dK kvs') :: R) H0 H' → TupKeep H H' → QH H') : rSetX (.ref l) (.str k) v H QH :=
  go_sKs ((x.lay.perm p).get (.head _)) (Nat.lt_of_le_of_lt (Nat.le_of_ble_eq_true s) (by decide)) (by rw [e]; exact h _ (x.put p rfl) (tk_put x.lay p))
/-- new objects -/
theorem go_newM {o : HO} (x : Ext L0 L H0 H) (m : isMutB o = true) (h : ∀ p H', H p = none → Ext L0 ((p, o) :: L) H0 H' → TupKeep H H' → Q (.ref p) H') : NewO o H Q := fun p hp => h p _ hp (x.addU hp m) (.of_same (same_new hp))
theorem go_newTp (x : Ext L0 L H0 H) (h : ∀ p H', H p = none → Ext L0 L H0 H' → TupKeep H H' → H' p = some (.tup xs) → Q (.ref p) H') : NewO (.tup xs) H Q := fun p hp => h p _ hp (x.newU hp) (.of_same (same_new hp)) upd_same
theorem Ext.callS {L0 L : Cells} {H0 H H' : Hp} (x : Ext L0 L H0 H) (s : Same H H') : Ext L0 L H0 H' := x.same s
end
/-- parts of written tuples -/
inductive DropR : Nat → List V → List V → Prop
  | zero {xs : List V} : DropR 0 xs xs
  | succ {n : Nat} {x : V} {xs ys : List V} : DropR n xs ys → DropR (n + 1) (x :: xs) ys
inductive TakeR : Nat → List V → List V → Prop
  | zero {xs : List V} : TakeR 0 xs []
  | succ {n : Nat} {x : V} {xs ys : List V} : TakeR n xs ys → TakeR (n + 1) (x :: xs) (x :: ys)
theorem DropR.eq {n : Nat} {xs ys : List V} (h : DropR n xs ys) : xs.drop n = ys ∧ n ≤ xs.length := by
  induction h with
  | zero => exact ⟨rfl, Nat.zero_le _⟩
  | succ _ ih => exact ⟨ih.1, Nat.succ_le_succ ih.2⟩
theorem TakeR.eq {n : Nat} {xs ys : List V} (h : TakeR n xs ys) : xs.take n = ys ∧ n ≤ xs.length := by
  induction h with
  | zero => exact ⟨rfl, Nat.zero_le _⟩
  | succ _ ih => exact ⟨by rw [List.take_succ_cons, ih.1], Nat.succ_le_succ ih.2⟩
theorem cut_mid {xs : List V} {j k : Nat} (h : j ≤ k) (h2 : k ≤ xs.length) : cutV xs (some (j : Int)) (some (k : Int)) = (xs.drop j).take (k - j) := by
  unfold cutV
  rw [HT.sIx_nat, HT.sIx_nat, Nat.min_eq_left h2, Nat.min_eq_left (Nat.le_trans h h2)]
section
variable {K : PySem.W.Frag} {H : Hp} {Q : VK} {p : Addr} {xs ys zs : List V} {i j : Int}
theorem sIx_of {k n : Nat} : HT.sIx n 0 (some (k : Int)) = min k n := HT.sIx_nat ..
theorem go_slTD (k : Nat) (hp : SqT K H p xs) (hi : i = ((k + 1 : Nat) : Int)) (hk : DropR (k + 1) xs ys) (h : NewO (.tup ys) H Q) : rSlX K (.ref p) (some i) none H Q := by
  subst hi
  obtain ⟨e, l⟩ := hk.eq
  refine go_slT (lo := some ((k + 1 : Nat) : Int)) (hi := none) hp (by rw [cut_drop l]; exact e) ?_ h
  rw [HT.sIx_nat, Nat.min_eq_left l]
  rfl
theorem go_slTT (k : Nat) (hp : SqT K H p xs) (hi : i = (k : Int)) (hk : TakeR k xs ys) (hn : Nat.beq k xs.length = false) (h : NewO (.tup ys) H Q) : rSlX K (.ref p) none (some i) H Q := by
  subst hi
  obtain ⟨e, l⟩ := hk.eq
  refine go_slT (lo := none) (hi := some (k : Int)) hp (by rw [cut_take l]; exact e) ?_ h
  rw [HT.sIx_nat, Nat.min_eq_left l, hn, Bool.and_false]
theorem go_slTM (k m : Nat) (hp : SqT K H p xs) (hi : i = ((k + 1 : Nat) : Int)) (hj : j = ((k + 1 + m : Nat) : Int)) (hk : DropR (k + 1) xs ys) (hm : TakeR m ys zs) (h : NewO (.tup zs) H Q) : rSlX K (.ref p) (some i) (some j) H Q := by
  subst hi hj
  obtain ⟨e, l⟩ := hk.eq
  obtain ⟨e2, l2⟩ := hm.eq
  have l3 : ys.length = xs.length - (k + 1) := by rw [← e, List.length_drop]
  refine go_slT (lo := some ((k + 1 : Nat) : Int)) (hi := some ((k + 1 + m : Nat) : Int)) hp (by rw [cut_mid (by omega) (by omega), e, show k + 1 + m - (k + 1) = m by omega]; exact e2) ?_ h
  rw [HT.sIx_nat, Nat.min_eq_left l]
  rfl
theorem go_slLD (k : Nat) (hp : SqL K H p xs) (hi : i = (k : Int)) (hk : DropR k xs ys) (h : NewO (.lst ys) H Q) : rSlX K (.ref p) (some i) none H Q := by
  subst hi
  obtain ⟨e, l⟩ := hk.eq
  exact go_slL (lo := some (k : Int)) (hi := none) hp (by rw [cut_drop l]; exact e) h
end
end L2.A


namespace L2.A
open PySem PySem.Spec PyProof.Rows
/-! ### enumerate from any count, over lists and tuples -/
def Itk (Sq : Hp → Addr → List V → Prop) (k0 : Int) (a : Addr) : It :=
  ⟨fun i H => ∃ (xs : List V) (x : V), Sq H a xs ∧ xs[i]? = some x, fun i H v H' => ∃ T x, v = .ref T ∧ H T = none ∧ H' = upd H T (.tup [.int (k0 + (i : Nat)), x]) ∧ ∀ zs, Sq H a zs → zs[i]? = some x, fun i H => ∃ xs : List V, Sq H a xs ∧ xs.length = i⟩
abbrev EnTn (k0 : Int) (a e it : Addr) (Li : Heap → Addr → Addr → Nat → Prop) (i : Nat) (h : Heap) : Prop :=
  (∃ old, IsEnum h e it (k0 + ((i : Nat) : Int)) old) ∧ Li h it a i ∧ e ≠ it ∧ a ≠ it ∧ e ≠ a
theorem turn_enK {P : Program} {w : World} {K : PySem.W.Frag} {elts : List Expr} {kk : Nat} {tpos : Pos} (k0 : Int) (a e it : Addr) {Li : Heap → Addr → Addr → Nat → Prop} {Is : Heap → Addr → Array Value → Prop} {Sq : Hp → Addr → List V → Prop}
    (hob : ∀ h i, Li h it a i → ∃ o, h.get? it = some o ∧ ∀ v, o.data ≠ .cell v)
    (hkp : ∀ h h' i, Li h it a i → (∀ o, h.get? it = some o → h'.get? it = some o) → Li h' it a i)
    (hdr : ∀ (A : Around), A.handled = none → a ≠ it → ∀ its : Array Value, Draws P w A it [it, a] its.size (fun i v => its[i]? = some v) (fun i h => Li h it a i ∧ Is h a its))
    (hsq : ∀ (X : Cx) (pins : List (Addr × Obj)) (s : Shared) (σ : St) (H : Hp) (xs : List V), X.K = K → Inv X pins σ H s → Sq H a xs → ∃ its : List Value, Vals xs its ∧ Is s.heap a its.toArray)
    (hin : ∀ (X : Cx) (pins : List (Addr × Obj)) (s : Shared) (σ : St) (H : Hp) (xs ys : List V), X.K = K → Inv X pins σ H s → Sq H a xs → Sq H a ys → xs = ys) :
    Turn P w K (.Tuple elts kk tpos) (Itk Sq k0 a) [e, it] e (EnTn k0 a e it Li) where
  mem := List.mem_cons_self
  obj := fun i h ⟨⟨old, he⟩, hl, _⟩ b hb => by
    rcases List.mem_cons.mp hb with z | z
    · subst z; exact ⟨_, he, fun v q => nomatch q⟩
    · rw [List.mem_singleton.mp z]; exact hob h i hl
  keep := fun i h h' ⟨⟨old, he⟩, hl, r⟩ k => ⟨⟨old, k e List.mem_cons_self _ he⟩, hkp h h' i hl (k it (by simp)), r⟩
  item := by
    intro X hP hw hK hc i pins s σ H E I hf ⟨⟨old, he⟩, hl, h1, h2, h3⟩ ⟨xs, x, hq, hx⟩
    subst hP hw
    obtain ⟨its, rv, p⟩ := hsq X pins s σ H xs hK I hq
    obtain ⟨u, hu, ru⟩ := rv.get hx
    have hu' : its.toArray[i]? = some u := by simpa using hu
    have hlt : i < its.toArray.size := by
      rcases Nat.lt_or_ge i its.toArray.size with q | q
      · exact q
      · rw [Array.getElem?_eq_none q] at hu'; cases hu'
    have el : e < s.heap.objs.size := Heap.lt_size he
    have il : it < s.heap.objs.size := by obtain ⟨o, q, _⟩ := hob _ _ hl; exact Heap.lt_size q
    refine wpAny_pyNext_enum_itemC (hdr X.A.in1 (I.ok.hd hc) h2 its.toArray) he ⟨hl, p⟩ hlt h1 (by simp [h1, h3]) fun u2 h' tk eu ho hl2 hT hsz hk => ?_
    obtain rfl : u2 = u := Option.some.inj (eu.symm.trans hu')
    refine ⟨_, rfl, wpAny_letOwnedTupleGo_enum (s := { s with heap := h', toks := tk + 1 }) ho fun h2' he' sb => ?_⟩
    have hT2 : h2'.get? s.heap.objs.size = some { cls := .type "tuple", data := .seq #[.int (k0 + (i : Int)) tk, u2] } := (sb.2 _ (Nat.ne_of_gt el)).trans hT
    have nw : ObjOk X.prog X.w (upd H s.heap.objs.size (.tup [.int (k0 + (i : Nat)), x])) h2' s.heap.objs.size (.tup [.int (k0 + (i : Nat)), x]) :=
      ⟨show 2 ≤ sizeLine by decide, [.int (k0 + (i : Int)) tk, u2], .cons ⟨tk, rfl⟩ (.cons ru .nil), ⟨_, hT2, rfl, _, rfl⟩⟩
    have I1 : Inv X pins σ (upd H s.heap.objs.size (.tup [.int (k0 + (i : Nat)), x])) { s with heap := h2', toks := tk + 1 } :=
      I.turnedNew (ch := [e, it]) (fun b ob hb q => (sb.2 b fun z => hb (by simp [z])).trans (hk b ob (fun z => hb (by simp [z])) (fun z => hb (by simp [z])) q)) hf (Nat.le_refl _) nw
    refine ⟨.ref s.heap.objs.size, _, I1, rfl, ⟨_, x, rfl, I.hok.fresh (Nat.le_refl _), rfl, fun ys hy => by rw [hin X pins s σ H _ _ hK I hy hq]; exact hx⟩, ⟨⟨u2, ?_⟩, hkp h' h2' _ hl2.1 fun o q => (sb.2 it (Ne.symm h1)).trans q, h1, h2, h3⟩, fun b hb => ?_⟩
    · rw [show k0 + ((i + 1 : Nat) : Int) = k0 + (i : Int) + 1 by omega]; exact he'
    · have hb' : b < s.heap.objs.size := by
        rcases List.mem_cons.mp hb with z | z
        · rw [z]; exact el
        · rw [List.mem_singleton.mp z]; exact il
      rw [upd_ne (Nat.ne_of_lt hb')]
      exact (hf b hb).1
  done := by
    intro X hP hw hK hc i pins s σ H E I hf ⟨⟨old, he⟩, hl, h1, h2, h3⟩ ⟨xs, hq, hx⟩
    subst hP hw
    obtain ⟨its, rv, p⟩ := hsq X pins s σ H xs hK I hq
    obtain ⟨f0, f1, f2, f3, f4, f5⟩ := hf it (by simp)
    obtain rfl : its.toArray.size = i := by rw [← hx, List.size_toArray]; exact rv.length.symm
    exact wpAny_pyNext_enum_endD (hdr X.A.in1 (I.ok.hd hc) h2 its.toArray) he ⟨hl, p⟩ fun h' eb => ⟨rfl, I.turned (t' := s.toks) (fun b o hb q => eb b o hb q) f0 f1 f3 f4 f5⟩
  self := fun A i s Q E ⟨⟨_, he⟩, _⟩ h => wpAny_pyIter_enum he h
theorem turn_enL {P : Program} {w : World} {K : PySem.W.Frag} {elts : List Expr} {kk : Nat} {tpos : Pos} (k0 : Int) (a e it : Addr) :
    Turn P w K (.Tuple elts kk tpos) (Itk (SqL K) k0 a) [e, it] e (EnTn k0 a e it fun h it a i => h.IsListIter it a i) :=
  turn_enK k0 a e it (Is := fun h a its => h.IsList a its) (fun h i ⟨o, h1, _, h3⟩ => ⟨o, h1, fun v q => by rw [h3] at q; cases q⟩) (fun h h' i hl k => hl.at k)
    (fun A hh hne its => Draws.list hh it a hne its) (fun X pins s σ H xs hK I hq => by subst hK; obtain ⟨its, rv, p, _⟩ := I.list hq; exact ⟨its, rv, p.isList⟩)
    (fun X pins s σ H xs ys hK I h1 h2 => by subst hK; exact I.list_inj h1 h2)
theorem turn_enT {P : Program} {w : World} {K : PySem.W.Frag} {elts : List Expr} {kk : Nat} {tpos : Pos} (k0 : Int) (a e it : Addr) :
    Turn P w K (.Tuple elts kk tpos) (Itk (SqT K) k0 a) [e, it] e (EnTn k0 a e it fun h it a i => h.IsTupleIter it a i) :=
  turn_enK k0 a e it (Is := fun h a its => h.IsTuple a its) (fun h i ⟨o, h1, _, h3⟩ => ⟨o, h1, fun v q => by rw [h3] at q; cases q⟩) (fun h h' i hl k => hl.at k)
    (fun A hh hne its => Draws.tuple hh it a hne its) (fun X pins s σ H xs hK I hq => by subst hK; obtain ⟨its, rv, p, _⟩ := I.tuple hq; exact ⟨its, rv, p⟩)
    (fun X pins s σ H xs ys hK I h1 h2 => by subst hK; exact I.tuple_inj h1 h2)
section
variable {M : Model} {A : Around} {E : Value → Shared → Prop} {s : Shared} {env : Env}
theorem callWith_tyK {pos : Pos} {T : String} {e : Expr} {kws : List Keyword} {Q : Value → Shared → Prop}
    (h : wpAny M A (spliced (backTo pos (starEach [e] env))) (fun vs s1 => wpAny M A (evalAll ((backToKw pos (keywordEach kws env)).map (·.2)))
      (fun kvs s2 => wpAny M A (call (.type T) vs (((backToKw pos (keywordEach kws env)).filterMap (·.1)).zip kvs)) Q E s2) E s1) E s)
    (he : backTo pos (starEach [e] env) = [(false, eval e env)] := by rfl)
    (hall : (backToKw pos (keywordEach kws env)).all (·.1.isSome) = true := by rfl) (hkw : (backToKw pos (keywordEach kws env)).any (·.1.isNone) = false := by rfl) :
    wpAny M A (callWith pos (.type T) [] (backTo pos (starEach [e] env)) (backToKw pos (keywordEach kws env))) Q E s := by
  rw [he] at h ⊢
  have h2 := evalArgs_kwB (f := .type T) (Q := fun a s1 => wpAny M A (call (.type T) ([] ++ a.pos) a.kw) Q E s1) hall h
  unfold callWith
  refine wpAny_bind (wpAny_holding (wpAny_mono h2 (fun a s1 h3 => wpAny_bind (wpAny_standAt ?_)) fun _ _ x => x))
  have hz : ([(false, eval e env)] : List (Bool × Sem Value)).any (·.1) = false := rfl
  simp only [hz, hkw, Bool.or_false]
  refine wpAny_bind (wpAny_pure ?_)
  exact wpAny_bind (wpAny_mono h3 (fun r s3 hr => wpAny_bind (wpAny_holding (wpAny_point (wpAny_pure hr)))) fun _ _ x => x)
end
def EnO (K : PySem.W.Frag) (k0 : Int) (a : Addr) (R : It → Hp → Prop) (H1 : Hp) : Prop := ∃ xs, (SqL K H1 a xs ∧ R (Itk (SqL K) k0 a) H1) ∨ (SqT K H1 a xs ∧ R (Itk (SqT K) k0 a) H1)
def EnS (K : PySem.W.Frag) (vs : List V) (R : It → Hp → Prop) (zs : List V) (H2 : Hp) : Prop := ∃ a k0, vs = [.ref a] ∧ zs = [.int k0] ∧ (-(2 ^ 63) ≤ k0 ∧ k0 < 2 ^ 63) ∧ EnO K k0 a R H2
def iEnS (K : PySem.W.Frag) (ta tk : TA) : TI := fun σ H R => ta σ H fun vs H1 => tk σ H1 fun zs H2 => EnS K vs R zs H2
def EnX (K : PySem.W.Frag) (vs : List V) (R : It → Hp → Prop) (H2 : Hp) : Prop := ∃ a, vs = [.ref a] ∧ EnO K 0 a R H2
def iEnX (K : PySem.W.Frag) (ta : TA) : TI := fun σ H R => ta σ H fun vs H1 => EnX K vs R H1
section
variable {X : Cx} {e : Expr} {kws : List Keyword} {ta tk : TA} {p pos tpos : Pos} {elts : List Expr} {kk : Nat}
theorem en_go {tg : Expr} {pins : List (Addr × Obj)} {σ : St} {H1 : Hp} {R : It → Hp → Prop} {s1 : Shared} {k0 : Int} {a : Addr} {o : Obj} {Li : Heap → Addr → Addr → Nat → Prop} {Sq : Hp → Addr → List V → Prop} (I1 : Inv X pins σ H1 s1) (hq : R (Itk Sq k0 a) H1) (ha : a < s1.heap.objs.size)
    (ht : Turn X.prog X.w X.K tg (Itk Sq k0 a) [s1.heap.objs.size + 1, s1.heap.objs.size] (s1.heap.objs.size + 1) (EnTn k0 a (s1.heap.objs.size + 1) s1.heap.objs.size Li))
    (hl : ∀ h' : Heap, h'.get? s1.heap.objs.size = some o → Li h' s1.heap.objs.size a 0)
    (h' : Heap) (he : IsEnum h' (s1.heap.objs.size + 1) s1.heap.objs.size k0 .none) (hg : h'.get? s1.heap.objs.size = some o) (hk : ∀ b o, s1.heap.get? b = some o → h'.get? b = some o) :
    wpAny (model X.prog X.w) X.A (pyIter (.ref (s1.heap.objs.size + 1))) (PIE X pins σ tg R) X.xe { s1 with heap := h' } := by
  have I2 : Inv X pins σ H1 { s1 with heap := h' } := I1.kept (t' := s1.toks) hk
  refine wpAny_pyIter_enum he ⟨s1.heap.objs.size + 1, [s1.heap.objs.size + 1, s1.heap.objs.size], _, _, H1, rfl, I2, ht, ⟨⟨.none, ?_⟩, hl h' hg, Nat.succ_ne_self _, Nat.ne_of_lt ha, Nat.ne_of_gt (Nat.lt_succ_of_lt ha)⟩, fun b hb => ?_, hq⟩
  · rw [show k0 + ((0 : Nat) : Int) = k0 by omega]; exact he
  · have hle : s1.heap.objs.size ≤ b := by
      rcases List.mem_cons.mp hb with z | z
      · rw [z]; exact Nat.le_succ _
      · rw [List.mem_singleton.mp z]; exact Nat.le_refl _
    exact I1.fpOk hle (I1.hok.fresh hle)
/-- enumerate(xs, start=k) -/
theorem pi_enumS (hg : Gl X "enumerate") (hm : X.mg "enumerate" = none) (ha : PA X [e] ta) (hk : PK X kws tk) (hb : backTo pos (starEach [e] X.env) = [(false, eval e X.env)] := by rfl)
    (hall : (backToKw pos (keywordEach kws X.env)).all (·.1.isSome) = true := by rfl) (hno : (backToKw pos (keywordEach kws X.env)).any (·.1.isNone) = false := by rfl) (hks : (backToKw pos (keywordEach kws X.env)).filterMap (·.1) = [Str.ofString "start"] := by rfl) :
    PI X (.Tuple elts kk tpos) (.Call (.Name "enumerate" p) [e] kws pos) (iEnS X.K ta tk) := by
  refine ⟨fun pins s σ H R I h => ?_⟩
  refine wpAny_Call_Name_kw (ld_blt I hg hm boot_enumerate ?_)
  refine callWith_tyK (thn (ha.run pos pins s σ H _ I h) fun us s1 ⟨vs, H1, I1, r1, q1⟩ => thn (hk.run pos pins s1 σ H1 _ I1 q1) fun ws s2 ⟨zs, H2, I2, r2, a, k0, ea, ek, hk0, xs, q2⟩ => ?_) hb hall hno
  subst ea ek
  obtain rfl := Vals.ref1 r1
  obtain ⟨w1, rfl, t, rfl⟩ := vals1 r2
  rw [hks]
  rcases q2 with ⟨hq, q⟩ | ⟨hq, q⟩
  · obtain ⟨its, rv, p', _⟩ := I2.list hq
    exact enum_begins_start (begins_list a its.toArray) p'.isList hk0.1 hk0.2 fun h' he hg' _ hk' => en_go I2 q p'.lt (turn_enL k0 a _ _) (fun h' e' => ⟨_, e', rfl, rfl⟩) h' he hg' hk'
  · obtain ⟨its, rv, p', _⟩ := I2.tuple hq
    obtain ⟨o1, ho1, _⟩ := id p'
    exact enum_begins_start (begins_tuple a its.toArray) p' hk0.1 hk0.2 fun h' he hg' _ hk' => en_go I2 q (Heap.lt_size ho1) (turn_enT k0 a _ _) (fun h' e' => ⟨_, e', rfl, rfl⟩) h' he hg' hk'
set_option maxHeartbeats 1000000 in
theorem meets_en1 {v : Value} {o : Obj} {H : Heap → Prop} (B : Begins v o H) :
    Meets (Builtin.«enumerate.__new__» ⟨[.type "enumerate", v], []⟩) (fun _ R s => H s.heap ∧
      R (.ok (.ret (.ref (s.heap.push o).objs.size))) { s with heap := (s.heap.push o).push { cls := .type "enumerate", data := .fields #[.none, .bool false, .ref s.heap.objs.size, rawInt 0, .none, .none] } }) :=
  .of_wp fun prog w A R s ⟨h1, h⟩ => by
    obtain ⟨hp, g, d, tk, os⟩ := s
    have su := sub_enumerate
    have q1 : ∀ {A' : Around} {E' : Value → Shared → Prop} {Q' : Value → Shared → Prop}, Q' (.ref hp.objs.size) ⟨hp.push o, g, d, tk, os⟩ → wpAny (model prog w) A' (pyIter v) Q' E' ⟨hp, g, d, tk, os⟩ :=
      fun q => B.iter prog w _ _ ⟨hp, g, d, tk, os⟩ _ h1 q
    wp_walk using q1
    refine wpAny_stack_any fun st => wpAny_pure ?_
    split
    · rename_i c _ _ _ _ _
      cases (c == Value.type "enumerate") <;> (wp_walk using q1; exact ⟨_, rfl, h⟩)
    · wp_walk using q1
      exact ⟨_, rfl, h⟩
theorem enum_begins1 {prog : Program} {w : World} {A : Around} {E : Value → Shared → Prop} {s : Shared} {v : Value} {o : Obj} {H : Heap → Prop} {Q : Value → Shared → Prop} (B : Begins v o H) (h1 : H s.heap)
    (h : ∀ h', IsEnum h' (s.heap.objs.size + 1) s.heap.objs.size 0 .none → h'.get? s.heap.objs.size = some o → (∀ b o, s.heap.get? b = some o → h'.get? b = some o) → Q (.ref (s.heap.objs.size + 1)) { s with heap := h' }) :
    wpAny (model prog w) A (call (.type "enumerate") [v]) Q E s := by
  refine callType_new F.called_enumerate (by decide) (F.typeCall_enumerate_1 _) (F.newCall_enumerate_1 _) (fun obj => F.args_object_init_2 obj _) F.entry_enumerate_new (meets_en1 B) ⟨h1, ?_⟩
  have hz : (s.heap.push o).objs.size = s.heap.objs.size + 1 := Heap.size_push ..
  have he := Heap.get?_push_size (s.heap.push o) (o := { cls := .type "enumerate", data := .fields #[.none, .bool false, .ref s.heap.objs.size, rawInt 0, .none, .none] }) rfl
  show _ ∧ _
  rw [hz] at he ⊢
  exact ⟨⟨_, he, rfl⟩, h _ he (Heap.get?_push_of_some _ (Heap.get?_push_size _ B.free)) fun b o x => Heap.get?_push_of_some _ (Heap.get?_push_of_some _ x)⟩
/-- enumerate(xs) of a list or a tuple -/
theorem pi_enumX (hg : Gl X "enumerate") (hm : X.mg "enumerate" = none) (ha : PA X [e] ta) (hs : starEach [e] X.env = [(false, eval e X.env)] := by rfl) :
    PI X (.Tuple elts kk tpos) (.Call (.Name "enumerate" p) [e] [] pos) (iEnX X.K ta) := by
  refine ⟨fun pins s σ H R I h => ?_⟩
  refine Call_ (ld_blt I hg hm boot_enumerate (PyProof.Rows.callWith_type1 (thn (ha.run pos pins s σ H _ I h) fun us s2 ⟨vs, H2, I2, r1, a, ea, xs, q2⟩ => ?_) hs rfl))
  subst ea
  obtain rfl := Vals.ref1 r1
  rcases q2 with ⟨hq, q⟩ | ⟨hq, q⟩
  · obtain ⟨its, rv, p', _⟩ := I2.list hq
    exact enum_begins1 (begins_list a its.toArray) p'.isList fun h' he hg' hk' => en_go I2 q p'.lt (turn_enL 0 a _ _) (fun h' e' => ⟨_, e', rfl, rfl⟩) h' he hg' hk'
  · obtain ⟨its, rv, p', _⟩ := I2.tuple hq
    obtain ⟨o1, ho1, _⟩ := id p'
    exact enum_begins1 (begins_tuple a its.toArray) p' fun h' he hg' hk' => en_go I2 q (Heap.lt_size ho1) (turn_enT 0 a _ _) (fun h' e' => ⟨_, e', rfl, rfl⟩) h' he hg' hk'
/-! ### the walk -/
theorem go_enumS {σ : St} {H : Hp} {R : It → Hp → Prop} {K : PySem.W.Frag} (h : ta σ H fun vs H1 => tk σ H1 fun zs H2 => EnS K vs R zs H2) : iEnS K ta tk σ H R := h
theorem go_enumX {σ : St} {H : Hp} {R : It → Hp → Prop} {K : PySem.W.Frag} (h : ta σ H fun vs H1 => EnX K vs R H1) : iEnX K ta σ H R := h
theorem go_enSL {H : Hp} {R : It → Hp → Prop} {K : PySem.W.Frag} {a : Addr} {k0 : Int} {xs : List V} (hs : SqL K H a xs) (hk : -100000 ≤ k0 ∧ k0 ≤ 100000) (h : R (Itk (SqL K) k0 a) H) : EnS K [.ref a] R [.int k0] H := ⟨a, k0, rfl, rfl, ⟨by omega, by omega⟩, xs, .inl ⟨hs, h⟩⟩
theorem go_enXL {H : Hp} {R : It → Hp → Prop} {K : PySem.W.Frag} {a : Addr} {xs : List V} (hs : SqL K H a xs) (h : R (Itk (SqL K) 0 a) H) : EnX K [.ref a] R H := ⟨a, rfl, xs, .inl ⟨hs, h⟩⟩
theorem go_enXT {H : Hp} {R : It → Hp → Prop} {K : PySem.W.Frag} {a : Addr} {xs : List V} (hs : SqT K H a xs) (h : R (Itk (SqT K) 0 a) H) : EnX K [.ref a] R H := ⟨a, rfl, xs, .inr ⟨hs, h⟩⟩
theorem walk_en {Sq : Hp → Addr → List V → Prop} {k0 : Int} {a : Addr} {xs : List V} : Walk (Itk Sq k0 a) xs.length (fun H => Sq H a xs) (YPair (fun i => some (.int (k0 + (i : Nat)))) (fun i => xs[i]?)) :=
  ⟨fun i _ hi q => ⟨xs, xs[i], q, List.getElem?_eq_getElem hi⟩, fun _ q => ⟨xs, q, rfl⟩, fun i H v H' _ q ⟨T, x, h1, h2, h3, h4⟩ => ⟨T, .int (k0 + (i : Nat)), x, h1, h2, h3, rfl, h4 xs q⟩⟩
end
end L2.A


namespace L2.A
open PySem PySem.Spec PyProof.Rows
open TL (tl)
/-! ### words of rows, rows of texts -/
def wl (l : List Nat) : List (List Nat) := (TL.spl [32] 0 [] l).filter (fun w => !w.isEmpty)
theorem spl_app {r : List Nat} : ∀ {l acc : List Nat}, TL.spl [32] 0 acc (l ++ 32 :: r) = TL.spl [32] 0 acc l ++ TL.spl [32] 0 [] r
  | [], acc => by
    show TL.spl [32] 0 acc (32 :: r) = _
    rw [TL.spl_hit (by rfl), TL.spl_nil]; rfl
  | c :: l, acc => by
    show TL.spl [32] 0 acc (c :: (l ++ 32 :: r)) = _
    by_cases h : c = 32
    · subst h
      rw [TL.spl_hit (by rfl), TL.spl_hit (by rfl)]
      show acc :: TL.spl [32] 0 [] (l ++ 32 :: r) = acc :: TL.spl [32] 0 [] l ++ _
      rw [spl_app]; rfl
    · rw [TL.spl_miss (TL.pre_of_head _ _ h), TL.spl_miss (TL.pre_of_head _ _ h), spl_app]
theorem wl_app {l r : List Nat} : wl (l ++ 32 :: r) = wl l ++ wl r := by unfold wl; rw [spl_app, List.filter_append]
theorem wl_nil : wl [] = [] := rfl
theorem wl_one {w : List Nat} (f : 32 ∉ w) : wl w = if w = [] then [] else [w] := by
  unfold wl
  rw [TL.spl_last1 f]
  cases w <;> rfl
theorem wl_sp {l : List Nat} : wl (l ++ [32]) = wl l := by rw [wl_app, wl_nil, List.append_nil]
theorem wl_rep {l : List Nat} : ∀ n, wl (l ++ List.replicate n 32) = wl l
  | 0 => by rw [List.replicate_zero, List.append_nil]
  | n + 1 => by rw [List.replicate_succ', ← List.append_assoc, wl_sp, wl_rep n]
/-- nothing, or a blank at the end -/
def EndB (l : List Nat) : Prop := l = [] ∨ ∃ m, l = m ++ [32]
theorem EndB.rep {l : List Nat} (h : EndB l) (n : Nat) : EndB (l ++ List.replicate n 32) := by
  cases n with
  | zero => rw [List.replicate_zero, List.append_nil]; exact h
  | succ n => rw [List.replicate_succ', ← List.append_assoc]; exact .inr ⟨_, rfl⟩
theorem EndB.rep1 {l : List Nat} {n : Nat} (h : 1 ≤ n) : EndB (l ++ List.replicate n 32) := by
  obtain ⟨m, rfl⟩ : ∃ m, n = m + 1 := ⟨n - 1, by omega⟩
  rw [List.replicate_succ', ← List.append_assoc]
  exact .inr ⟨_, rfl⟩
theorem wl_snoc {l w : List Nat} (h : EndB l) (f : 32 ∉ w) : wl (l ++ w) = wl l ++ if w = [] then [] else [w] := by
  rcases h with rfl | ⟨m, rfl⟩
  · rw [List.nil_append, wl_nil, List.nil_append, wl_one f]
  · rw [List.append_assoc]
    show wl (m ++ 32 :: w) = _
    rw [wl_app, wl_sp, wl_one f]
def rwds (r : Str) : List Str := (wl (tl r)).map fun l => ⟨l.toArray⟩
theorem str_ne {w : Str} : decide (w = "") = (tl w).isEmpty := by
  have e : (Str.ofString "") = ⟨#[]⟩ := by decide +kernel
  cases h : tl w with
  | nil => exact decide_eq_true (by rw [e]; exact TL.ext_tl (by rw [h]))
  | cons c l => exact decide_eq_false (by rw [e]; intro z; rw [z] at h; cases h)
theorem split_blank (r : Str) : Txt.split r " " = (TL.spl [32] 0 [] (tl r)).map fun l => (⟨l.toArray⟩ : Str) := by
  apply TL.map_tl_inj
  have e : tl (" " : Str) = [32] := by decide +kernel
  rw [TL.split_spl r " " (by rw [e]; simp) (TL.kind_ok (by decide +kernel)), e, List.map_map]
  exact (List.map_id' _).symm
theorem split_words (r : Str) : (Txt.split r " ").filter (fun w : Str => !decide (w = ("" : Str))) = rwds r := by
  rw [split_blank, List.filter_map]
  unfold rwds wl
  congr 1
  apply List.filter_congr
  intro l _
  show (!decide ((⟨l.toArray⟩ : Str) = "")) = _
  rw [str_ne]
theorem words_nz {r w : Str} (h : w ∈ rwds r) : w ≠ ("" : Str) := by
  rw [← split_words] at h
  have := (List.mem_filter.mp h).2
  simpa using this
/-- what a text has put in: words are parts of it -/
theorem tl_blanks (n : Int) : tl (Txt.mul " " n) = List.replicate n.toNat 32 := by
  have e : (Str.ofString " ") = ⟨#[32]⟩ := by decide +kernel
  show tl (Txt.mul (Str.ofString " ") n) = _
  rw [e]
  exact mul_one_list 32 n
theorem blanks_ok {n : Int} (h0 : 0 ≤ n) (h : n ≤ 100) : MulOk " " n := by
  have l : (" " : Str).length = 1 := by decide +kernel
  refine ⟨?_, fun h1 _ => ?_, fun h1 _ => ?_⟩
  · rw [decide_eq_false (by omega), decide_eq_false (by omega)]; rfl
  · rw [l]
    have : 1 ≤ (2 ^ 63 - 1) / n := Int.le_ediv_of_mul_le (by omega) (by omega)
    omega
  · rw [l]
    unfold PySem.Builtin.Str.tooLong
    exact decide_eq_false (by unfold sizeLine; omega)
/-- rows with words, each with its number -/
def wr : Nat → List Str → List (Nat × List Str)
  | _, [] => []
  | k, r :: rs => if rwds r = [] then wr (k + 1) rs else (k, rwds r) :: wr (k + 1) rs
theorem wr_app {ys : List Str} : ∀ {k : Nat} {xs : List Str}, wr k (xs ++ ys) = wr k xs ++ wr (k + xs.length) ys
  | k, [] => rfl
  | k, x :: xs => by
    show (if rwds x = [] then wr (k + 1) (xs ++ ys) else (k, rwds x) :: wr (k + 1) (xs ++ ys)) = (if rwds x = [] then wr (k + 1) xs else (k, rwds x) :: wr (k + 1) xs) ++ _
    rw [wr_app, List.length_cons, show k + (xs.length + 1) = k + 1 + xs.length by omega]
    split <;> rfl
theorem wr_snoc {k : Nat} {xs : List Str} {r : Str} : wr k (xs ++ [r]) = wr k xs ++ if rwds r = [] then [] else [(k + xs.length, rwds r)] := by
  rw [wr_app]
  rfl
theorem wr_len {k : Nat} : ∀ {xs : List Str}, (wr k xs).length ≤ xs.length
  | [] => Nat.le_refl _
  | x :: xs => by
    show (if rwds x = [] then wr (k + 1) xs else (k, rwds x) :: wr (k + 1) xs).length ≤ xs.length + 1
    have := wr_len (k := k + 1) (xs := xs)
    split
    · omega
    · rw [List.length_cons]; omega
theorem tl_nl : tl ("\n" : Str) = [10] := by decide +kernel
theorem words_empty : rwds "" = [] := by decide +kernel
/-- a text's rows -/
theorem rows_join {rows : List Str} (h : ∀ r ∈ rows, 10 ∉ tl r) : Txt.split (Txt.join "\n" rows) "\n" = if rows = [] then [("" : Str)] else rows := by
  cases rows with
  | nil => decide +kernel
  | cons r rs => rw [if_neg (by simp)]; exact TL.split_join tl_nl (by decide +kernel) (by simp) h
theorem wr_join {rows : List Str} (h : ∀ r ∈ rows, 10 ∉ tl r) : wr 1 (Txt.split (Txt.join "\n" rows) "\n") = wr 1 rows := by
  rw [rows_join h]
  split
  · subst rows; show (if rwds "" = [] then _ else _) = _; rw [if_pos words_empty]; rfl
  · rfl
theorem join_len : ∀ {rows : List Str} {L : Nat}, (∀ r ∈ rows, r.length ≤ L) → (rows.map (·.length)).sum ≤ rows.length * L
  | [], _, _ => Nat.zero_le _
  | r :: rs, L, h => by
    rw [List.map_cons, List.sum_cons, List.length_cons, Nat.succ_mul]
    have h1 := h r (List.mem_cons_self ..)
    have h2 := join_len fun x m => h x (List.mem_cons_of_mem _ m)
    omega
theorem text_len {rows : List Str} {L : Nat} (h : ∀ r ∈ rows, r.length ≤ L) : (Txt.join "\n" rows).length ≤ rows.length * (L + 1) := by
  rw [TL.join_eq, TL.len_tl, TL.tl_join, tl_nl]
  induction rows with
  | nil => exact Nat.zero_le _
  | cons r rs ih =>
    have h1 := h r (List.mem_cons_self ..)
    have h2 := ih fun x m => h x (List.mem_cons_of_mem _ m)
    rw [TL.len_tl] at h1
    cases rs with
    | nil => show (tl r).length ≤ _; rw [List.length_cons, List.length_nil]; omega
    | cons q rs =>
      show (tl r ++ ([10] ++ TL.joinL [10] ((q :: rs).map tl))).length ≤ _
      rw [List.length_append, List.length_append, List.length_cons (a := r), Nat.succ_mul]
      show _ + (1 + _) ≤ _
      omega

/-! ### constants that are tuples -/
def tdB (K : PySem.W.Frag) (a : Addr) : Bool := match K.lookup a with
  | some o => decide (o.cls = .type "tuple") && o.dict.isNone
  | none => false
theorem tdB_ok {K : PySem.W.Frag} {a : Addr} (h : tdB K a = true) : ∃ o, K.lookup a = some o ∧ o.cls = .type "tuple" ∧ o.dict = none := by
  unfold tdB at h
  cases q : K.lookup a with
  | none => rw [q] at h; cases h
  | some o =>
    rw [q] at h
    have h2 : decide (o.cls = .type "tuple") = true ∧ o.dict.isNone = true := by simpa using h
    exact ⟨o, rfl, of_decide_eq_true h2.1, Option.isNone_iff_eq_none.mp h2.2⟩
theorem tyV_tK {K : PySem.W.Frag} {H : Hp} {p : Addr} (h : ∃ o, K.lookup p = some o ∧ o.cls = .type "tuple" ∧ o.dict = none) : tyV K "tuple" (.ref p) H := .inr (.inl ⟨rfl, h⟩)
theorem go_tix {K : PySem.W.Frag} {H : Hp} {Q : VK} {p : Addr} {ys : List Str} {z : Str} {j : Nat} (hp : SqT K H p (ys.map V.str)) (e : ys[j]? = some z) (n : ∀ m, m < j → ys[m]? ≠ some z) (h : Q (.int (j : Nat)) H) :
    ∃ p', ∃ ys' : List Str, ∃ z' j', V.ref p = .ref p' ∧ [V.str z] = [.str z'] ∧ SqT K H p' (ys'.map V.str) ∧ ys'[j']? = some z' ∧ (∀ m, m < j' → ys'[m]? ≠ some z') ∧ Q (.int (j' : Nat)) H := ⟨p, ys, z, j, rfl, rfl, hp, e, n, h⟩
theorem go_ins {H : Hp} {Q : VK} {l : Addr} {xs : List V} {i : Int} {y : V} (hl : H l = some (.lst xs)) (z : xs.length < 100000) (h0 : 0 ≤ i ∧ i < 100000) (h : Q .non (upd H l (.lst (xs.take i.toNat ++ [y] ++ xs.drop i.toNat)))) :
    ∃ (l' : Addr) (xs' : List V) (i' : Int) (y' : V), V.ref l = .ref l' ∧ [V.int i, y] = [.int i', y'] ∧ H l' = some (.lst xs') ∧ xs'.length < sizeLine ∧ 0 ≤ i' ∧ i' < 2 ^ 63 ∧ Q .non (upd H l' (.lst (xs'.take i'.toNat ++ [y'] ++ xs'.drop i'.toNat))) :=
  ⟨l, xs, i, y, rfl, rfl, hl, Nat.lt_of_lt_of_le z (by decide), h0.1, by omega, h⟩
theorem go_split2 {H : Hp} {Q : VK} {a b : Str} (h1 : (b.length == 0) = false) (h2 : a.length ≤ 1000000) (h : NewO (.lst ((Txt.split a b).map V.str)) H Q) :
    (∃ a' b', V.str a = .str a' ∧ [V.str b] = [.str b'] ∧ (b'.length == 0) = false ∧ a'.length + 2 ≤ sizeLine ∧ rNewStrs (Txt.split a' b') H Q) := ⟨a, b, rfl, rfl, h1, Nat.le_trans (show a.length + 2 ≤ 1000002 by omega) (by decide), h⟩
/-! ### zip of two lists, or of two tuples -/
def ZpA (K : PySem.W.Frag) (vs : List V) (H1 : Hp) (R : It → Hp → Prop) : Prop := ∃ a b xs ys, vs = [.ref a, .ref b] ∧ ((SqL K H1 a xs ∧ SqL K H1 b ys ∧ R (Itz K a b) H1) ∨ (SqT K H1 a xs ∧ SqT K H1 b ys ∧ R (RZ.ItzT K a b) H1))
theorem go_zipA {K : PySem.W.Frag} {σ : St} {H : Hp} {ta : TA} {R : It → Hp → Prop} (h : ta σ H fun vs H1 => ZpA K vs H1 R) : RZ.iZipA K ta σ H R := h
theorem go_zAL {K : PySem.W.Frag} {H : Hp} {a b : Addr} {xs ys : List V} {R : It → Hp → Prop} (hS : SqL K H a xs) (hT : SqL K H b ys) (h : R (Itz K a b) H) : ZpA K [.ref a, .ref b] H R := ⟨a, b, xs, ys, rfl, .inl ⟨hS, hT, h⟩⟩
theorem go_zAT {K : PySem.W.Frag} {H : Hp} {a b : Addr} {xs ys : List V} {R : It → Hp → Prop} (hS : SqT K H a xs) (hT : SqT K H b ys) (h : R (RZ.ItzT K a b) H) : ZpA K [.ref a, .ref b] H R := ⟨a, b, xs, ys, rfl, .inr ⟨hS, hT, h⟩⟩
theorem walk_zipT {K : PySem.W.Frag} {a b : Addr} {xs ys : List V} (hn : xs.length = ys.length) : Walk (RZ.ItzT K a b) xs.length (fun H => SqT K H a xs ∧ SqT K H b ys) (YPair (fun i => xs[i]?) (fun i => ys[i]?)) := by
  refine ⟨fun i _ hi q => ⟨xs, ys, xs[i], ys[i]'(by omega), q.1, q.2, List.getElem?_eq_getElem hi, List.getElem?_eq_getElem (by omega)⟩, fun _ q => ⟨xs, ys, q.1, q.2, .inl (Nat.le_refl _)⟩, fun i H v H' _ q y => ?_⟩
  obtain ⟨T, x, z, h1, h2, h3, h4, h5⟩ := y
  exact ⟨T, x, z, h1, h2, h3, h4 xs q.1, h5 ys q.2⟩
/-! ### two lists item by item -/
inductive All2 {α β : Type} (R : α → β → Prop) : List α → List β → Prop
  | nil : All2 R [] []
  | cons {a b as bs} : R a b → All2 R as bs → All2 R (a :: as) (b :: bs)
theorem All2.mono {α β : Type} {R S : α → β → Prop} (h : ∀ a b, R a b → S a b) : ∀ {as : List α} {bs : List β}, All2 R as bs → All2 S as bs
  | _, _, .nil => .nil
  | _, _, .cons x y => .cons (h _ _ x) (y.mono h)
theorem All2.snoc {α β : Type} {R : α → β → Prop} {a : α} {b : β} : ∀ {as : List α} {bs : List β}, All2 R as bs → R a b → All2 R (as ++ [a]) (bs ++ [b])
  | _, _, .nil, h => .cons h .nil
  | _, _, .cons x y, h => .cons x (y.snoc h)
theorem All2.len {α β : Type} {R : α → β → Prop} : ∀ {as : List α} {bs : List β}, All2 R as bs → as.length = bs.length
  | _, _, .nil => rfl
  | _, _, .cons _ y => by rw [List.length_cons, List.length_cons, y.len]
theorem All2.at {α β : Type} {R : α → β → Prop} {a : α} : ∀ {as : List α} {bs : List β} {i : Nat}, All2 R as bs → as[i]? = some a → ∃ b, bs[i]? = some b ∧ R a b
  | _, _, 0, .cons x _, h => by cases h; exact ⟨_, rfl, x⟩
  | _, _, i + 1, .cons _ y, h => y.at (i := i) h
theorem kit_nl : kitB "NoneType" "list" = some false := by decide +kernel
theorem kit_il : kitB "int" "list" = some false := by decide +kernel
theorem kit_it : kitB "int" "tuple" = some false := by decide +kernel
theorem kit_sl : kitB "str" "list" = some false := by decide +kernel
theorem kit_st : kitB "str" "tuple" = some false := by decide +kernel
end L2.A


namespace L2.A
open PySem PySem.Spec PyProof.Rows
/-! ### a list taken apart -/
section
variable {prog : Program} {w : World} {A : Around} {E : Value → Shared → Prop} {s : Shared}
theorem draw_list {it t : Addr} {items : Array Value} (hne : t ≠ it) : ∀ (n i : Nat) (s : Shared) (Q : List Value → Shared → Prop), s.heap.IsListIter it t i → s.heap.IsList t items → i + n ≤ items.size →
    (∀ h', h'.IsListIter it t (i + n) → Heap.SameBut it s.heap h' → Q ((items.toList.drop i).take n) { s with heap := h' }) → wpAny (model prog w) A (draw (.ref it) n) Q E s
  | 0, i, s, Q, hit, _, _, hQ => by
    show wpAny _ _ (pure []) Q E s
    exact wpAny_pure (by simpa using hQ s.heap hit (Heap.SameBut.refl ..))
  | n + 1, i, s, Q, hit, ht, hle, hQ => by
    have hlt : i < items.size := by omega
    show wpAny _ _ (pyNext (.ref it) >>= _) Q E s
    refine wpAny_bind (wpAny_pyNext_list_item hit ht (x := items[i]) (by simp [hlt]) fun h₁ hit₁ hs₁ => ?_)
    refine wpAny_bind (wpAny_holding (draw_list hne n (i + 1) _ _ hit₁ (ht.extBut hs₁.extBut hne) (by omega) fun h₂ hit₂ hs₂ => wpAny_pure ?_))
    have hd : items.toList.drop i = items[i] :: items.toList.drop (i + 1) := by simp [List.drop_eq_getElem_cons, hlt]
    have := hQ h₂ (by rw [show i + (n + 1) = i + 1 + n by omega]; exact hit₂) (hs₁.trans hs₂)
    rw [hd, List.take_succ_cons] at this
    exact this
theorem unpackItems_list {t : Addr} {items : Array Value} {Q : List Value → Shared → Prop} (hh : A.handled = none) (ht : s.heap.IsList t items)
    (hQ : ∀ h', Heap.ExtBut s.heap.objs.size s.heap h' → Q items.toList { s with heap := h' }) : wpAny (model prog w) A (unpackItems (.ref t) items.size none) Q E s := by
  have hlt : t ≠ s.heap.objs.size := by obtain ⟨o, ho, _⟩ := ht; exact Nat.ne_of_lt (Heap.lt_size ho)
  unfold unpackItems
  refine wpAny_bind ?_
  · unfold notIterableAtAll
    refine wpAny_bind (wpAny_specialOf ht.typeIs slot_list_iter.lookup ?_)
    refine wpAny_pure ?_
    simp only [Bool.false_eq_true, if_false]
    refine wpAny_bind (wpAny_holding (wpAny_pyIter_list ht ?_))
    refine wpAny_bind (wpAny_holding (draw_list hlt items.size 0 _ _ ⟨_, Heap.get?_push_size _ rfl, rfl, rfl⟩ (ht.push _) (by omega) fun h₁ hit₁ hs₁ => ?_))
    have hall : List.take items.size (List.drop 0 items.toList) = items.toList := by
      rw [List.drop_zero]; exact List.take_of_length_le (by simp)
    rw [hall]
    rw [if_neg (by simp)]
    have ht₁ : h₁.IsList t items := (ht.push _).extBut hs₁.extBut hlt
    refine wpAny_bind (wpAny_holding (wpAny_pyNext_list_end hh hit₁ ht₁ (by simp) fun h₂ he₂ => ?_))
    simp only [Option.isSome_none, Bool.false_eq_true, if_false]
    refine wpAny_pure (hQ h₂ fun b o hb e => he₂ b o hb (hs₁.extBut b o hb (Heap.get?_push_of_some _ e)))
theorem unpack_list {t : Addr} {items : Array Value} {targets : List (Bool × (Value → Sem Unit))} {Q : Unit → Shared → Prop} (hh : A.handled = none) (ht : s.heap.IsList t items)
    (hn : targets.length = items.size) (hstar : targets.findIdx? (·.1) = none)
    (h : ∀ h', Heap.ExtBut s.heap.objs.size s.heap h' → wpAny (model prog w) A (assignInOrder (targets.map (·.2)) items.toList) Q E { s with heap := h' }) :
    wpAny (model prog w) A (unpack (.ref t) targets) Q E s := by
  unfold unpack
  rw [hn, hstar]
  exact wpAny_bind (wpAny_holding (unpackItems_list hh ht h))
theorem assign_Tuple_list {env : Env} {elts : List Expr} {x1} {pos : Pos} {t : Addr} {items : Array Value} {Q : Unit → Shared → Prop} (hh : A.handled = none) (ht : s.heap.IsList t items)
    (hn : (assignEach elts env).length = items.size) (hstar : (assignEach elts env).findIdx? (·.1) = none)
    (h : ∀ h', Heap.ExtBut s.heap.objs.size s.heap h' → wpAny (model prog w) A (assignInOrder ((assignEach elts env).map (·.2)) items.toList) Q E { s with heap := h' }) :
    wpAny (model prog w) A (assign (.Tuple elts x1 pos) env (.ref t)) Q E s := by
  rw [assign_Tuple]
  exact wpAny_bind (wpAny_standAt (unpack_list hh ht hn hstar h))
end
section
variable {X : Cx} {pos : Pos}
def gTupA (K : PySem.W.Frag) (n : Nat) (t : TGs) : TG := fun v σ H Q => ∃ a xs, v = .ref a ∧ (SqT K H a xs ∨ SqL K H a xs) ∧ xs.length = n ∧ t xs σ H Q
theorem pg_tupA {es : List Expr} {k : Nat} {t : TGs} {n : Nat} (hc : X.calm = true) (h : PGs X es t)
    (hn : (assignEach es X.env).length = n := by rfl) (hst : (assignEach es X.env).findIdx? (·.1) = none := by rfl) : PG X (.Tuple es k pos) (gTupA X.K n t) := by
  refine ⟨fun pins s σ H v u Q I r hw => ?_⟩
  obtain ⟨a, xs, e1, hq, hl, hw⟩ := hw
  subst e1
  cases r
  rcases hq with hq | hq
  · obtain ⟨its, rv, ht, hz⟩ := I.tuple hq
    refine assign_Tuple_tuple (I.ok.hd hc) ht (by simp [hn, ← hl, rv.length]) hst fun h' hx => ?_
    have I1 : Inv X pins σ H { s with heap := h' } := I.kept (t' := s.toks) fun b o e => hx b o (Nat.ne_of_lt (Heap.lt_size e)) e
    exact h.run pins _ σ H xs _ Q I1 (by simpa using rv) hw
  · obtain ⟨its, rv, ht, hz⟩ := I.list hq
    refine assign_Tuple_list (I.ok.hd hc) ht.isList (by simp [hn, ← hl, rv.length]) hst fun h' hx => ?_
    have I1 : Inv X pins σ H { s with heap := h' } := I.kept (t' := s.toks) fun b o e => hx b o (Nat.ne_of_lt (Heap.lt_size e)) e
    exact h.run pins _ σ H xs _ Q I1 (by simpa using rv) hw
theorem pg_tupAK {K : PySem.W.Frag} (hK : X.K = K) {es : List Expr} {k : Nat} {t : TGs} {n : Nat} (hc : X.calm = true) (h : PGs X es t)
    (hn : (assignEach es X.env).length = n := by rfl) (hst : (assignEach es X.env).findIdx? (·.1) = none := by rfl) : PG X (.Tuple es k pos) (gTupA K n t) := hK ▸ pg_tupA hc h hn hst
end
/-! ### methods within a comprehension, a try: the rules that name the fragment -/
section
variable {X : Cx} {K : PySem.W.Frag} {o e : Expr} {es : List Expr} {to : TE} {t : TA} {name : Str} {apos cpos : Pos} {T id : String} {r : V → List V → Hp → VK → Prop}
theorem pe_bm0K (hK : X.K = K) (pa : PlainAttrs T) (slot : Slot T name id) (hty : typeOf (.builtin id) = pure (.type "method_descriptor")) (hm : MtR X id r) (ho : PE X o to)
    (hbase : attributeBase o name X.env (eval o X.env) = eval o X.env := by rfl) (hline : (apos.endLine == cpos.line) = true := by rfl) : PE X (.Call (.Attribute o name apos) [] [] cpos) (tBM0 K T r to) := hK ▸ pe_bm0 pa slot hty hm ho hbase hline
theorem pe_bmK (hK : X.K = K) (pa : PlainAttrs T) (slot : Slot T name id) (hty : typeOf (.builtin id) = pure (.type "method_descriptor")) (hm : MtR X id r) (ho : PE X o to) (ha : PA X (e :: es) t)
    (hbase : attributeBase o name X.env (eval o X.env) = eval o X.env := by rfl)
    (hfew : ((backTo cpos (starEach (e :: es) X.env)).all (fun x => !x.1) && (backToKw cpos (keywordEach [] X.env)).all (fun x => x.1.isSome)
      && decide ((e :: es).length + ([] : List Keyword).length + (if ([] : List Keyword).isEmpty then 0 else 1) < 30)) = true := by rfl)
    (hline : (apos.endLine == cpos.line) = true := by rfl) (hs : starEach (e :: es) X.env = (false, eval e X.env) :: starEach es X.env := by rfl) (hplain : (backTo cpos (starEach es X.env)).any (·.1) = false := by rfl) :
    PE X (.Call (.Attribute o name apos) (e :: es) [] cpos) (tBM K T r to t) := hK ▸ pe_bm pa slot hty hm ho ha hbase hfew hline hs hplain
theorem mt_joinK (hK : X.K = K) : MtR X "str.join" (fun x xs H Q => ∃ a p, ∃ ys : List Str, x = .str a ∧ xs = [.ref p] ∧ (SqL K H p (ys.map V.str) ∨ SqT K H p (ys.map V.str)) ∧
    (ys.map (·.length)).sum + ys.length * a.length ≤ 16777216 ∧ Q (.str (Txt.join a ys)) H) := hK ▸ mt_join
theorem mt_tup_indexK (hK : X.K = K) : MtR X "tuple.index" (fun x xs H Q => ∃ p, ∃ ys : List Str, ∃ z j, x = .ref p ∧ xs = [.str z] ∧ SqT K H p (ys.map V.str) ∧ ys[j]? = some z ∧ (∀ m, m < j → ys[m]? ≠ some z) ∧ Q (.int (j : Nat)) H) := hK ▸ mt_tup_index
theorem mt_indexK (hK : X.K = K) : MtR X "list.index" (rIndex K) := hK ▸ mt_index
end
theorem go_gtupT {K : PySem.W.Frag} {H : Hp} {σ : St} {QS : St → Hp → Prop} {n : Nat} {tg : TGs} {a : Addr} {xs : List V} (hs : SqT K H a xs) (hl : xs.length = n) (h : tg xs σ H QS) : gTupA K n tg (.ref a) σ H QS := ⟨a, xs, rfl, .inl hs, hl, h⟩
theorem go_gtupL {K : PySem.W.Frag} {H : Hp} {σ : St} {QS : St → Hp → Prop} {n : Nat} {tg : TGs} {a : Addr} {xs : List V} (hs : SqL K H a xs) (hl : xs.length = n) (h : tg xs σ H QS) : gTupA K n tg (.ref a) σ H QS := ⟨a, xs, rfl, .inr hs, hl, h⟩
end L2.A


namespace L2.A
open PySem PySem.Spec PyProof.Rows
/-! ### what stands still (F), what is alive (L) -/
structure Sta (F : Hp) (L : Cells) (H : Hp) : Prop where
  fz : Same F H
  lay : Lay L H
  off : ∀ a ∈ L.map Prod.fst, F a = none
section
variable {F F' : Hp} {L L' B B' R : Cells} {H H' : Hp} {a p : Addr} {o o' : HO} {xs : List V}
theorem Sta.of (st : Sta F L H) (e : F p = some o) : H p = some o := st.fz _ _ e
theorem Sta.get (st : Sta F L H) (m : (p, o) ∈ L) : H p = some o := st.lay.get m
theorem Sta.nil : Sta H [] H := ⟨.refl _, .nil, fun _ m => nomatch m⟩
theorem Sta.same (st : Sta F L H) (s : Same H H') : Sta F L H' := ⟨st.fz.trans s, st.lay.same s, st.off⟩
theorem Sta.perm (st : Sta F L H) (p : L.Perm L') : Sta F L' H := ⟨st.fz, st.lay.perm p, fun a m => st.off a ((p.map Prod.fst).mem_iff.mpr m)⟩
theorem Sta.left (st : Sta F (B ++ R) H) : Sta F B H := ⟨st.fz, st.lay.left, fun a m => st.off a (by rw [List.map_append]; exact List.mem_append_left _ m)⟩
theorem Sta.pull (st : Sta F L H) (p : L.Perm (B ++ R)) : Sta F B H := (st.perm p).left
theorem Sta.free (st : Sta F L H) (n : H p = none) : F p = none := st.fz.free n
theorem Sta.newF (st : Sta F L H) (n : H p = none) (s : Same H H') (e : H' p = some o) : ∃ F', Same F F' ∧ F' p = some o ∧ Sta F' L H' := by
  refine ⟨upd F p o, same_new (st.free n), upd_same, fun b u q => ?_, st.lay.same s, fun b m => ?_⟩
  · by_cases z : b = p
    · subst z; rw [upd_same] at q; cases q; exact e
    · rw [upd_ne z] at q; exact s _ _ (st.fz _ _ q)
  · rw [upd_ne (fun z => st.lay.free n (by rw [← z]; exact m))]; exact st.off b m
theorem Sta.newL (st : Sta F L H) (n : H p = none) (s : Same H H') (e : H' p = some o) (m : isMutB o = true) : Sta F ((p, o) :: L) H' :=
  ⟨st.fz.trans s, (st.lay.same s).cons (st.lay.free n) e m, fun b q => by
    rcases List.mem_cons.mp q with rfl | q
    · exact st.free n
    · exact st.off b q⟩
theorem Sta.put (st : Sta F L H) (p : L.Perm ((a, o) :: R)) (m : isMutB o' = true) : Sta F ((a, o') :: R) (upd H a o') := by
  have x := Ext.put (Ext.refl st.lay) p m
  have st' := st.perm p
  refine ⟨fun b u q => ?_, x.lay, fun b q => st'.off b q⟩
  rw [upd_ne (fun z => by rw [z, st'.off a (List.mem_cons_self ..)] at q; cases q)]
  exact st.fz _ _ q
theorem Sta.freeze (st : Sta F L H) (p : L.Perm ((a, o) :: R)) : ∃ F', Same F F' ∧ F' a = some o ∧ Sta F' R H := by
  have st' := st.perm p
  have fa := st'.off a (List.mem_cons_self ..)
  have nd := st'.lay.nd
  rw [List.map_cons, List.nodup_cons] at nd
  refine ⟨upd F a o, same_new fa, upd_same, fun b u q => ?_, ⟨nd.2, fun c m => st'.lay.has c (List.mem_cons_of_mem _ m), fun c m => st'.lay.mt c (List.mem_cons_of_mem _ m)⟩, fun b m => ?_⟩
  · by_cases z : b = a
    · subst z; rw [upd_same] at q; cases q; exact st'.lay.has _ (List.mem_cons_self ..)
    · rw [upd_ne z] at q; exact st.fz _ _ q
  · rw [upd_ne (fun z => nd.1 (by rw [← z]; exact m))]; exact st'.off b (List.mem_cons_of_mem _ m)
theorem Sta.ext (st : Sta F (B ++ R) H) (x : Ext B B' H H') : Sta F (B' ++ R) H' := by
  have y := Ext.frame st.lay x
  refine ⟨fun b u q => y.kp b u (st.fz _ _ q) (fun m => by rw [st.off b m] at q; cases q), y.lay, fun b m => ?_⟩
  rcases y.new b m with z | z
  · exact st.off b z
  · exact st.free z
theorem Sta.call (st : Sta F L H) (p : L.Perm (B ++ R)) (x : Ext B B' H H') : Sta F (B' ++ R) H' := (st.perm p).ext x
/-- what may change under the name p alone -/
theorem Sta.kp1 (st : Sta F ((a, o) :: R) H) (k : Kp (fun b => b = a) H H') (e : H' a = some o') (m : isMutB o' = true) : Sta F ((a, o') :: R) H' := by
  have nd := st.lay.nd
  rw [List.map_cons, List.nodup_cons] at nd
  have fa := st.off a (List.mem_cons_self ..)
  refine ⟨fun b u q => k _ _ (st.fz _ _ q) (fun z => by rw [z, fa] at q; cases q), ⟨st.lay.nd, fun c q => ?_, fun c q => ?_⟩, fun b q => st.off b q⟩
  · rcases List.mem_cons.mp q with rfl | q
    · exact e
    · exact k _ _ (st.lay.has c (List.mem_cons_of_mem _ q)) (fun z => nd.1 (by have z2 : c.1 = a := z; rw [show (a, o).fst = c.1 from z2.symm]; exact List.mem_map_of_mem q))
  · rcases List.mem_cons.mp q with rfl | q
    · exact m
    · exact st.lay.mt c (List.mem_cons_of_mem _ q)
theorem Sta.seqL {K : PySem.W.Frag} (st : Sta F L H) (h : SqL K F a xs) : SqL K H a xs := seqL_same h st.fz
theorem Sta.seqT {K : PySem.W.Frag} (st : Sta F L H) (h : SqT K F a xs) : SqT K H a xs := seqT_same h st.fz
theorem Sta.dp {K : PySem.W.Frag} {v : V} {d : PyData} (st : Sta F L H) (h : Dp K F v d) : Dp K H v d := Dp.same st.fz d v h
theorem Sta.nof (st : Sta F L H) (e : F p = some o) : p ∉ L.map Prod.fst := fun m => by rw [st.off p m] at e; cases e
end
section
variable {K : PySem.W.Frag} {f : Str} {y z v : V} {D : Ends} {σ : St} {Q : VK} {QS : St → Hp → Prop} {QH : Hp → Prop} {a C dx l : Addr} {fs fs' : List (Str × V)} {F : Hp} {L R : Cells} {H : Hp} {xs ys : List V} {o : HO}
/-! #### steps: new objects, stores -/
theorem go_newF (st : Sta F L H) (h : ∀ p F' H', Same F F' → F' p = some o → Sta F' L H' → Q (.ref p) H') : NewO o H Q := fun p hp => by
  obtain ⟨F', s, e, st'⟩ := st.newF hp (same_new hp) upd_same
  exact h p F' _ s e st'
theorem go_newLv (st : Sta F L H) (m : isMutB o = true) (h : ∀ p H', Sta F ((p, o) :: L) H' → Q (.ref p) H') : NewO o H Q := fun p hp => h p _ (st.newL hp (same_new hp) upd_same m)
theorem go_sfldS (st : Sta F L H) (p : L.Perm ((a, .ins C dx fs) :: R)) (c : Cls K C) (n : NoAttr K C f) (s : Nat.ble fs.length 900 = true) (e : putF f y fs = fs')
    (h : ∀ H', Sta F ((a, .ins C dx fs') :: R) H' → D.nx σ H') : SFldW K f y D σ (.ref a) H :=
  go_sfldW ((st.perm p).get (.head _)) c n s e (h _ (st.put p rfl))
theorem go_gfldS (st : Sta F L H) (p : L.Perm ((a, .ins C dx fs) :: R)) (c : Cls K C) (n : NoAttr K C f) (s : Nat.ble fs.length 900 = true) (e : putF f v fs = fs')
    (h : ∀ H', Sta F ((a, .ins C dx fs') :: R) H' → QS σ H') : GFldW K f v σ (.ref a) H QS :=
  go_gfldW ((st.perm p).get (.head _)) c n s e (h _ (st.put p rfl))
theorem go_astS (st : Sta F L H) (p : L.Perm ((a, .ins C dx fs) :: R)) (s : Nat.ble fs.length 900 = true) (e : putF f z fs = fs')
    (h : ∀ H', Sta F ((a, .ins C dx fs') :: R) H' → D.nx σ H') : AStW C f a D σ z H :=
  go_astW ((st.perm p).get (.head _)) s e (h _ (st.put p rfl))
theorem go_sLS {j : Int} {n : Nat} (st : Sta F L H) (p : L.Perm ((l, .lst xs) :: R)) (hj : ixN xs.length j = some n) (h : ∀ H', Sta F ((l, .lst (xs.set n v)) :: R) H' → QH H') : rSetX (.ref l) (.int j) v H QH :=
  go_sL ((st.perm p).get (.head _)) hj (h _ (st.put p rfl))
theorem go_appendS (st : Sta F L H) (p : L.Perm ((l, .lst xs) :: R)) (s : xs.length < 100000) (h : ∀ H', Sta F ((l, .lst (xs ++ [y])) :: R) H' → Q .non H') : rAppend (.ref l) [y] H Q :=
  go_append ((st.perm p).get (.head _)) s (h _ (st.put p rfl))
theorem go_extendS {q : Addr} (st : Sta F L H) (p : L.Perm ((l, .lst xs) :: R)) (e : H q = some (.lst ys)) (s : xs.length + ys.length < 100000) (h : ∀ H', Sta F ((l, .lst (xs ++ ys)) :: R) H' → Q .non H') : rExtend (.ref l) [.ref q] H Q :=
  ⟨l, q, xs, ys, rfl, rfl, (st.perm p).get (.head _), e, Nat.le_of_lt (Nat.lt_of_lt_of_le s (by decide)), h _ (st.put p rfl)⟩
theorem go_sSS {zs : List Str} {k : Str} (st : Sta F L H) (p : L.Perm ((l, setO zs) :: R)) (s : zs.length ≤ 10000) (h : ∀ H', Sta F ((l, setO (addS zs k)) :: R) H' → QH H') : rSetX (.ref l) (.str k) (.bl true) H QH :=
  go_sS ((st.perm p).get (.head _)) s (h _ (st.put p rfl))
theorem go_sCS {ks : List (Str × Int)} {k : Str} {n : Int} (st : Sta F L H) (p : L.Perm ((l, cntO ks) :: R)) (s : ks.length ≤ 10000) (h : ∀ H', Sta F ((l, cntO (cntP ks k n)) :: R) H' → QH H') : rSetX (.ref l) (.str k) (.int n) H QH :=
  go_sC ((st.perm p).get (.head _)) s (h _ (st.put p rfl))
theorem go_sKS {kvs kvs' : List (Key × V)} {k : Str} (st : Sta F L H) (p : L.Perm ((l, .dK kvs) :: R)) (s : Nat.ble kvs.length 1000 = true) (e : putK kvs (Sum.inr k) v = kvs') (h : ∀ H', Sta F ((l, .dK kvs') :: R) H' → QH H') : rSetX (.ref l) (.str k) v H QH :=
  go_sKs ((st.perm p).get (.head _)) (Nat.lt_of_le_of_lt (Nat.le_of_ble_eq_true s) (by decide)) (by rw [e]; exact h _ (st.put p rfl))
end
/-! #### comprehensions, loops -/
section
variable {K : PySem.W.Frag} {σ : St} {H : Hp} {D : Ends} {Q : VK} {J : It} {n : Nat} {G : Hp → Prop} {Y : Nat → Hp → V → Hp → Prop} {F : Hp} {L : Cells}
/-- a comprehension: R i ys F L what holds of the items made so far -/
theorem LcW.sta (w : Walk J n G Y) {g : TG} {tt : TT} {te : TE} {vs : List Nat} (R : Nat → List V → Hp → Cells → Prop) (hz : n ≤ 100000) (st : Sta F L H) (h0 : R 0 [] F L)
    (hG : ∀ i ys F L H, i ≤ n → Sta F L H → R i ys F L → G H)
    (hs : ∀ (A : Addr) i x ys F L H H', i < n → ys.length ≤ i → Sta F ((A, .lst ys) :: L) H → R i ys F L → Y i H x H' → ∀ (yes : V → Hp → Prop) (no : Hp → Prop),
      (∀ y F' L' H'', Sta F' ((A, .lst ys) :: L') H'' → R (i + 1) (ys ++ [y]) F' L' → yes y H'') → (∀ F' L' H'', Sta F' ((A, .lst ys) :: L') H'' → R (i + 1) ys F' L' → no H'') →
      g x (wipe σ vs) H' fun σ2 H2 => wipe σ2 vs = wipe σ vs ∧ tt σ2 H2 fun b H3 => if b = true then te σ2 H3 yes else no H3)
    (hd : ∀ (A : Addr) ys F L H', Sta F ((A, .lst ys) :: L) H' → ys.length ≤ n → R n ys F L → Q (.ref A) H') : LcW J g tt te vs σ H Q := by
  refine LcW.it w (fun A i ys H' => ∃ F L, Sta F ((A, .lst ys) :: L) H' ∧ R i ys F L) hz (fun A hA => ⟨F, L, st.newL hA (same_new hA) upd_same rfl, h0⟩) (fun A i ys H' _ hi _ ⟨F, L, st, r⟩ => hG i ys F L H' hi ⟨st.fz, st.lay.right (L := [(A, .lst ys)]), fun b m => st.off b (List.mem_cons_of_mem _ m)⟩ r) ?_ ?_
  · rintro A i x ys H1 H2 hA hi hl e ⟨F, L, st, r⟩ y yes no hy hn
    refine hs A i x ys F L H1 H2 hi hl st r y yes no (fun z F' L' H'' st' r' => hy z H'' (st'.get (.head _)) ⟨F', L', st'.put .rfl rfl, r'⟩) fun F' L' H'' st' r' => hn H'' (st'.get (.head _)) ⟨F', L', st', r'⟩
  · rintro A ys H' hA e hl ⟨F, L, st, r⟩
    exact hd A ys F L H' st hl r
theorem Sta.tail {c : Addr × HO} (st : Sta F (c :: L) H) : Sta F L H := ⟨st.fz, st.lay.right (L := [c]), fun b m => st.off b (List.mem_cons_of_mem _ m)⟩
end
end L2.A

namespace L2.A
open PySem PySem.Spec PyProof.Rows
theorem inv2 {k a b : Str} : inV (.str k) [.str a, .str b] = (decide (k = a) || decide (k = b)) := by
  simp [inV, eqV, Bool.beq_eq_decide_eq, eq_comm]
theorem inv3 {k a b c : Str} : inV (.str k) [.str a, .str b, .str c] = (decide (k = a) || (decide (k = b) || decide (k = c))) := by
  simp [inV, eqV, Bool.beq_eq_decide_eq, eq_comm]
theorem inv_ss {a : Str} {zs : List Str} : inV (.str a) (zs.map V.str) = decide (a ∈ zs) := by
  unfold inV
  rw [List.any_map]
  by_cases h : a ∈ zs
  · rw [decide_eq_true h, List.any_eq_true]
    exact ⟨a, h, by simp [eqV]⟩
  · rw [decide_eq_false h, List.any_eq_false]
    intro z m
    have : z ≠ a := fun e => h (e ▸ m)
    simpa [eqV, Bool.beq_eq_decide_eq] using this
/-- everything but what is alive stands still -/
theorem Sta.full {F : Hp} {L : Cells} {H : Hp} (st : Sta F L H) : ∃ G, Same F G ∧ Sta G L H ∧ ∀ a o, H a = some o → a ∉ L.map Prod.fst → G a = some o := by
  classical
  refine ⟨fun a => if a ∈ L.map Prod.fst then none else H a, fun a o e => ?_, ⟨fun a o e => ?_, st.lay, fun a m => ?_⟩, fun a o e m => ?_⟩
  · show (if a ∈ L.map Prod.fst then none else H a) = _
    rw [if_neg (st.nof e)]; exact st.fz _ _ e
  · have e : (if a ∈ L.map Prod.fst then none else H a) = some o := e
    split at e
    · cases e
    · exact e
  · show (if a ∈ L.map Prod.fst then none else H a) = _
    rw [if_pos m]
  · show (if a ∈ L.map Prod.fst then none else H a) = _
    rw [if_neg m]; exact e
/-- what a call lays anew beside what is alive -/
theorem Sta.merge {F G : Hp} {R B : Cells} {H H' : Hp} (st : Sta F R H) (s : Same H G) (sb : Sta G B H') : ∃ F', Same F F' ∧ Sta F' (B ++ R) H' ∧ ∀ a o, G a = some o → (isMutB o = false ∨ H a = none) → F' a = some o := by
  classical
  have inR : ∀ a o, G a = some o → a ∈ R.map Prod.fst → isMutB o = true ∧ H a = some o := fun a o e m => by
    obtain ⟨c, mc, rfl⟩ := List.mem_map.mp m
    have h1 := st.lay.has c mc
    have h2 := s _ _ h1
    rw [e] at h2
    cases h2
    exact ⟨st.lay.mt c mc, h1⟩
  have dis : ∀ a, a ∈ B.map Prod.fst → a ∉ R.map Prod.fst := fun a mb mr => by
    have h0 := sb.off a mb
    obtain ⟨c, mc, rfl⟩ := List.mem_map.mp mr
    rw [s _ _ (st.lay.has c mc)] at h0
    cases h0
  refine ⟨fun a => if a ∈ R.map Prod.fst then none else G a, fun a o e => ?_, ⟨fun a o e => ?_, ⟨?_, fun c m => ?_, fun c m => ?_⟩, fun a m => ?_⟩, fun a o e h => ?_⟩
  · show (if a ∈ R.map Prod.fst then none else G a) = _
    rw [if_neg (st.nof e)]; exact s _ _ (st.fz _ _ e)
  · have e : (if a ∈ R.map Prod.fst then none else G a) = some o := e
    split at e
    · cases e
    · exact sb.fz _ _ e
  · rw [List.map_append, List.nodup_append]
    exact ⟨sb.lay.nd, st.lay.nd, fun a ma b mb e => dis a ma (e ▸ mb)⟩
  · rcases List.mem_append.mp m with m | m
    · exact sb.lay.has c m
    · exact sb.fz _ _ (s _ _ (st.lay.has c m))
  · rcases List.mem_append.mp m with m | m
    · exact sb.lay.mt c m
    · exact st.lay.mt c m
  · show (if a ∈ R.map Prod.fst then none else G a) = _
    rw [List.map_append] at m
    split
    · rfl
    · rcases List.mem_append.mp m with m | m
      · exact sb.off a m
      · rename_i h; exact absurd m h
  · show (if a ∈ R.map Prod.fst then none else G a) = _
    rw [if_neg fun m => ?_]
    · exact e
    · obtain ⟨h1, h2⟩ := inR a o e m
      rcases h with h | h
      · rw [h1] at h; cases h
      · rw [h2] at h; cases h
end L2.A

namespace L2.A
open PySem PySem.Spec PyProof.Rows
section
variable {K : PySem.W.Frag} {σ : St} {H : Hp} {D : Ends} {Q : VK} {J : It} {G : Hp → Prop} {Y : Nat → Hp → V → Hp → Prop} {F : Hp} {L : Cells} {α : Type}
/-- a comprehension whose items follow from the things walked: acc of those behind it -/
theorem LcW.acc (xs : List α) (acc : List α → List V) (Yv : α → V → Hp → Prop) (w : Walk J xs.length G Y) (hY : ∀ i H x H', i < xs.length → Y i H x H' → Same H H' ∧ ∀ a, xs[i]? = some a → Yv a x H')
    {g : TG} {tt : TT} {te : TE} {vs : List Nat} (hz : xs.length ≤ 100000) (st : Sta F L H) (hG : ∀ F' H', Same F F' → Sta F' L H' → G H') (h0 : acc [] = [])
    (hs : ∀ (A : Addr) pre a x F' H', a ∈ xs → Same F F' → Sta F' ((A, .lst (acc pre)) :: L) H' → Yv a x H' → ∀ (yes : V → Hp → Prop) (no : Hp → Prop),
      (∀ y F'' H'', acc (pre ++ [a]) = acc pre ++ [y] → Same F' F'' → Sta F'' ((A, .lst (acc pre)) :: L) H'' → yes y H'') → (∀ F'' H'', acc (pre ++ [a]) = acc pre → Same F' F'' → Sta F'' ((A, .lst (acc pre)) :: L) H'' → no H'') →
      g x (wipe σ vs) H' fun σ2 H2 => wipe σ2 vs = wipe σ vs ∧ tt σ2 H2 fun b H3 => if b = true then te σ2 H3 yes else no H3)
    (hd : ∀ (A : Addr) F' H', Same F F' → Sta F' ((A, .lst (acc xs)) :: L) H' → Q (.ref A) H') : LcW J g tt te vs σ H Q := by
  refine LcW.sta w (fun i ys F' L' => ys = acc (xs.take i) ∧ Same F F' ∧ L' = L) hz st ⟨by rw [List.take_zero]; exact h0.symm, .refl _, rfl⟩ (fun i ys F' L' H' _ st' ⟨_, s, e⟩ => by subst e; exact hG F' H' s st') ?_ ?_
  · rintro A i x ys F' L' H1 H2 hi hl st' ⟨rfl, s, rfl⟩ y yes no hy hn
    obtain ⟨s2, ya⟩ := hY i H1 x H2 hi y
    have ea : xs[i]? = some xs[i] := List.getElem?_eq_getElem hi
    have et : xs.take (i + 1) = xs.take i ++ [xs[i]] := by rw [List.take_add_one, ea]; rfl
    refine hs A (xs.take i) xs[i] x F' H2 (List.getElem_mem hi) s (st'.same s2) (ya _ ea) yes no (fun y F'' H'' e s3 st3 => hy y F'' L' H'' st3 ⟨by rw [et, e], s.trans s3, rfl⟩) fun F'' H'' e s3 st3 => hn F'' L' H'' st3 ⟨by rw [et, e], s.trans s3, rfl⟩
  · rintro A ys F' L' H' st' _ ⟨rfl, s, rfl⟩
    rw [List.take_length] at st'
    exact hd A F' H' s st'
theorem LcW.accL {a : Addr} (xs : List α) (emb : α → V) (acc : List α → List V) {g : TG} {tt : TT} {te : TE} {vs : List Nat} (hz : xs.length ≤ 100000) (st : Sta F L H) (hG : ∀ F' H', Same F F' → Sta F' L H' → SqL K H' a (xs.map emb)) (h0 : acc [] = [])
    (hs : ∀ (A : Addr) pre x F' H', x ∈ xs → Same F F' → Sta F' ((A, .lst (acc pre)) :: L) H' → ∀ (yes : V → Hp → Prop) (no : Hp → Prop),
      (∀ y F'' H'', acc (pre ++ [x]) = acc pre ++ [y] → Same F' F'' → Sta F'' ((A, .lst (acc pre)) :: L) H'' → yes y H'') → (∀ F'' H'', acc (pre ++ [x]) = acc pre → Same F' F'' → Sta F'' ((A, .lst (acc pre)) :: L) H'' → no H'') →
      g (emb x) (wipe σ vs) H' fun σ2 H2 => wipe σ2 vs = wipe σ vs ∧ tt σ2 H2 fun b H3 => if b = true then te σ2 H3 yes else no H3)
    (hd : ∀ (A : Addr) F' H', Same F F' → Sta F' ((A, .lst (acc xs)) :: L) H' → Q (.ref A) H') : LcW (Itl K a) g tt te vs σ H Q := by
  have w : Walk (Itl K a) xs.length (fun H => SqL K H a (xs.map emb)) (YAt (xs.map emb)) := by have := walk_list (K := K) (a := a) (xs := xs.map emb); rwa [List.length_map] at this
  refine LcW.acc xs acc (fun a x _ => x = emb a) w (fun i H x H' hi y => ?_) hz st hG h0 (fun A pre b x F' H' hb s st' e yes no hy hn => ?_) hd
  · obtain ⟨rfl, y⟩ := y
    refine ⟨.refl _, fun b hb => ?_⟩
    rw [List.getElem?_map, hb] at y
    exact (Option.some.inj y).symm
  · subst e
    exact hs A pre b F' H' hb s st' yes no hy hn
theorem LcW.accT {a : Addr} (xs : List α) (emb : α → V) (acc : List α → List V) {g : TG} {tt : TT} {te : TE} {vs : List Nat} (hz : xs.length ≤ 100000) (st : Sta F L H) (hG : ∀ F' H', Same F F' → Sta F' L H' → SqT K H' a (xs.map emb)) (h0 : acc [] = [])
    (hs : ∀ (A : Addr) pre x F' H', x ∈ xs → Same F F' → Sta F' ((A, .lst (acc pre)) :: L) H' → ∀ (yes : V → Hp → Prop) (no : Hp → Prop),
      (∀ y F'' H'', acc (pre ++ [x]) = acc pre ++ [y] → Same F' F'' → Sta F'' ((A, .lst (acc pre)) :: L) H'' → yes y H'') → (∀ F'' H'', acc (pre ++ [x]) = acc pre → Same F' F'' → Sta F'' ((A, .lst (acc pre)) :: L) H'' → no H'') →
      g (emb x) (wipe σ vs) H' fun σ2 H2 => wipe σ2 vs = wipe σ vs ∧ tt σ2 H2 fun b H3 => if b = true then te σ2 H3 yes else no H3)
    (hd : ∀ (A : Addr) F' H', Same F F' → Sta F' ((A, .lst (acc xs)) :: L) H' → Q (.ref A) H') : LcW (Itt K a) g tt te vs σ H Q := by
  have w : Walk (Itt K a) xs.length (fun H => SqT K H a (xs.map emb)) (YAt (xs.map emb)) := by have := walk_tup (K := K) (a := a) (xs := xs.map emb); rwa [List.length_map] at this
  refine LcW.acc xs acc (fun a x _ => x = emb a) w (fun i H x H' hi y => ?_) hz st hG h0 (fun A pre b x F' H' hb s st' e yes no hy hn => ?_) hd
  · obtain ⟨rfl, y⟩ := y
    refine ⟨.refl _, fun b hb => ?_⟩
    rw [List.getElem?_map, hb] at y
    exact (Option.some.inj y).symm
  · subst e
    exact hs A pre b F' H' hb s st' yes no hy hn
/-- a loop: I of the things behind it -/
theorem ForW.acc (xs : List α) (Yv : α → V → Hp → Prop) (w : Walk J xs.length G Y) (hY : ∀ i H x H', i < xs.length → Y i H x H' → Same H H' ∧ ∀ a, xs[i]? = some a → Yv a x H') {g : TG} {tb : TS} (I : List α → St → Hp → Prop) (h0 : I [] σ H) (hG : ∀ pre σ H, I pre σ H → G H)
    (hs : ∀ pre a x σ H H', a ∈ xs → (∃ post, xs = pre ++ a :: post) → I pre σ H → Same H H' → Yv a x H' → g x σ H' fun σ2 H2 => tb { D with nx := I (pre ++ [a]), ct := I (pre ++ [a]), bk := D.nx } σ2 H2) (hd : ∀ σ H, I xs σ H → D.nx σ H) : ForW J g tb D σ H := by
  refine ForW.it w (fun i σ H => I (xs.take i) σ H) h0 (fun i σ H _ h => hG _ σ H h) (fun i x σ H H' hi h y => ?_) (fun σ H h => hd σ H (by rwa [List.take_length] at h))
  obtain ⟨s2, ya⟩ := hY i H x H' hi y
  have ea : xs[i]? = some xs[i] := List.getElem?_eq_getElem hi
  have et : xs.take (i + 1) = xs.take i ++ [xs[i]] := by rw [List.take_add_one, ea]; rfl
  have := hs (xs.take i) xs[i] x σ H H' (List.getElem_mem hi) ⟨xs.drop (i + 1), by rw [← List.drop_eq_getElem_cons hi, List.take_append_drop]⟩ h s2 (ya _ ea)
  rw [← et] at this
  exact this
theorem ForW.accL {a : Addr} (xs : List α) (emb : α → V) {g : TG} {tb : TS} (I : List α → St → Hp → Prop) (h0 : I [] σ H) (hG : ∀ pre σ H, I pre σ H → SqL K H a (xs.map emb))
    (hs : ∀ pre x σ H, x ∈ xs → (∃ post, xs = pre ++ x :: post) → I pre σ H → g (emb x) σ H fun σ2 H2 => tb { D with nx := I (pre ++ [x]), ct := I (pre ++ [x]), bk := D.nx } σ2 H2) (hd : ∀ σ H, I xs σ H → D.nx σ H) : ForW (Itl K a) g tb D σ H := by
  have w : Walk (Itl K a) xs.length (fun H => SqL K H a (xs.map emb)) (YAt (xs.map emb)) := by have := walk_list (K := K) (a := a) (xs := xs.map emb); rwa [List.length_map] at this
  refine ForW.it w (fun i σ H => I (xs.take i) σ H) h0 (fun i σ H _ h => hG _ σ H h) (fun i x σ H H' hi h y => ?_) (fun σ H h => hd σ H (by rwa [List.take_length] at h))
  obtain ⟨rfl, y⟩ := y
  have ea : xs[i]? = some xs[i] := List.getElem?_eq_getElem hi
  rw [List.getElem?_map, ea] at y
  cases y
  have et : xs.take (i + 1) = xs.take i ++ [xs[i]] := by rw [List.take_add_one, ea]; rfl
  have := hs (xs.take i) xs[i] σ H' (List.getElem_mem hi) ⟨xs.drop (i + 1), by rw [← List.drop_eq_getElem_cons hi, List.take_append_drop]⟩ h
  rw [← et] at this
  exact this
end
end L2.A

namespace L2.A
open PySem PySem.Spec PyProof.Rows
theorem Sta.skip2 {F : Hp} {L : Cells} {H : Hp} {x y : Addr × HO} (st : Sta F (x :: y :: L) H) : Sta F (x :: L) H := (st.perm (.swap ..)).tail
theorem walk_emb {K : PySem.W.Frag} {a : Addr} {α : Type} {xs : List α} {emb : α → V} : Walk (Itl K a) xs.length (fun H => SqL K H a (xs.map emb)) (YAt (xs.map emb)) := by
  have := walk_list (K := K) (a := a) (xs := xs.map emb)
  rwa [List.length_map] at this
theorem walk_embT {K : PySem.W.Frag} {a : Addr} {α : Type} {xs : List α} {emb : α → V} : Walk (Itt K a) xs.length (fun H => SqT K H a (xs.map emb)) (YAt (xs.map emb)) := by
  have := walk_tup (K := K) (a := a) (xs := xs.map emb)
  rwa [List.length_map] at this
end L2.A

namespace L2.A
open PySem PySem.Spec PyProof.Rows
theorem go_revS {F : Hp} {L R : Cells} {H : Hp} {l : Addr} {xs : List V} {Q : VK} (st : Sta F L H) (p : L.Perm ((l, .lst xs) :: R)) (h : ∀ H', Sta F ((l, .lst xs.reverse) :: R) H' → Q .non H') : rReverse (.ref l) [] H Q :=
  ⟨l, xs, rfl, rfl, (st.perm p).get (.head _), h _ (st.put p rfl)⟩
end L2.A

namespace L2.A
/-- a block behind others -/
theorem pm_app2 {B R : Cells} : (R ++ B).Perm (B ++ R) := List.perm_append_comm
end L2.A

namespace L2.A
open PySem PySem.Spec PyProof.Rows
theorem All2.cut {α β : Type} {R : α → β → Prop} : ∀ {as : List α} {bs : List β} (m k : Nat), All2 R as bs → All2 R ((as.drop m).take k) ((bs.drop m).take k) := by
  have tk : ∀ {as : List α} {bs : List β} (k : Nat), All2 R as bs → All2 R (as.take k) (bs.take k) := by
    intro as bs k h
    induction h generalizing k with
    | nil => simp only [List.take_nil]; exact .nil
    | cons x _ ih =>
      cases k with
      | zero => exact .nil
      | succ k => exact .cons x (ih k)
  intro as bs m k h
  induction h generalizing m with
  | nil => simp only [List.drop_nil, List.take_nil]; exact .nil
  | cons x y ih =>
    cases m with
    | zero => exact tk k (.cons x y)
    | succ m => exact ih m
theorem All2.append {α β : Type} {R : α → β → Prop} {cs : List α} {ds : List β} : ∀ {as : List α} {bs : List β}, All2 R as bs → All2 R cs ds → All2 R (as ++ cs) (bs ++ ds)
  | _, _, .nil, y => y
  | _, _, .cons x z, y => .cons x (All2.append z y)
theorem All2.atI {R : V → α → Prop} : ∀ {as : List V} {bs : List α} {j : Int}, All2 R as bs → -(as.length : Int) ≤ j → j < as.length → ∃ a b, L2.atI as j = some a ∧ b ∈ bs ∧ R a b := by
  intro as bs j h h0 h1
  obtain ⟨n, hn, e⟩ : ∃ n, n < as.length ∧ ixN as.length j = some n := by
    by_cases c : 0 ≤ j
    · exact ⟨j.toNat, by omega, by unfold ixN; rw [if_pos c, if_pos h1]⟩
    · refine ⟨(j + as.length).toNat, by omega, ?_⟩
      unfold ixN
      rw [if_neg (by omega), if_pos (by omega)]
  obtain ⟨b, eb, r⟩ := h.at (List.getElem?_eq_getElem hn)
  refine ⟨_, b, ?_, List.mem_of_getElem? eb, r⟩
  unfold L2.atI
  rw [e]
  exact List.getElem?_eq_getElem hn
end L2.A

namespace L2.A
open PySem PySem.Spec PyProof.Rows
/-- a tuple that is laid stands still -/
theorem Sta.tupF {F : Hp} {L : Cells} {H : Hp} {t : Addr} {xs : List V} (st : Sta F L H) (e : H t = some (.tup xs)) : ∃ F', Same F F' ∧ F' t = some (.tup xs) ∧ Sta F' L H := by
  have nL := st.lay.tup e
  refine ⟨upd F t (.tup xs), fun a o q => ?_, upd_same, fun b u q => ?_, st.lay, fun b m => ?_⟩
  · by_cases z : a = t
    · subst z
      have := st.fz _ _ q
      rw [e] at this
      cases this
      exact upd_same
    · rw [upd_ne z]; exact q
  · by_cases z : b = t
    · subst z; rw [upd_same] at q; cases q; exact e
    · rw [upd_ne z] at q; exact st.fz _ _ q
  · rw [upd_ne (fun z => nL (by rw [← z]; exact m))]; exact st.off b m
end L2.A

namespace L2.A
open PySem PySem.Spec PyProof.Rows
section
variable {α : Type} {x y z w : α} {xs : List α}
theorem at0 : L2.atI (x :: xs) 0 = some x := by
  have h : ixN (x :: xs).length 0 = some 0 := by unfold ixN; rw [if_pos (by decide), if_pos (by rw [List.length_cons]; omega)]; rfl
  unfold L2.atI; rw [h]; rfl
theorem at1 : L2.atI (x :: y :: xs) 1 = some y := by
  have h : ixN (x :: y :: xs).length 1 = some 1 := by unfold ixN; rw [if_pos (by decide), if_pos (by rw [List.length_cons, List.length_cons]; omega)]; rfl
  unfold L2.atI; rw [h]; rfl
theorem at2 : L2.atI (x :: y :: z :: xs) 2 = some z := by
  have h : ixN (x :: y :: z :: xs).length 2 = some 2 := by unfold ixN; rw [if_pos (by decide), if_pos (by rw [List.length_cons, List.length_cons, List.length_cons]; omega)]; rfl
  unfold L2.atI; rw [h]; rfl
theorem at3 : L2.atI (x :: y :: z :: w :: xs) 3 = some w := by
  have h : ixN (x :: y :: z :: w :: xs).length 3 = some 3 := by unfold ixN; rw [if_pos (by decide), if_pos (by rw [List.length_cons, List.length_cons, List.length_cons, List.length_cons]; omega)]; rfl
  unfold L2.atI; rw [h]; rfl
end
end L2.A

namespace L2.A
theorem nd_true {p : Prop} [Decidable p] (h : (!decide p) = false) : p := by simpa using h
theorem nd_false {p : Prop} [Decidable p] (h : (!decide p) = true) : ¬ p := by simpa using h
end L2.A

namespace L2.A
open PySem PySem.Spec PyProof.Rows
section
variable {F : Hp} {L R : Cells} {H : Hp} {l : Addr} {xs : List V} {y : V} {Q : VK}
theorem go_insS {i : Int} (st : Sta F L H) (p : L.Perm ((l, .lst xs) :: R)) (z : xs.length < 100000) (h0 : 0 ≤ i ∧ i < 100000) (h : ∀ H', Sta F ((l, .lst (xs.take i.toNat ++ [y] ++ xs.drop i.toNat)) :: R) H' → Q .non H') :
    ∃ (l' : Addr) (xs' : List V) (i' : Int) (y' : V), V.ref l = .ref l' ∧ [V.int i, y] = [.int i', y'] ∧ H l' = some (.lst xs') ∧ xs'.length < sizeLine ∧ 0 ≤ i' ∧ i' < 2 ^ 63 ∧ Q .non (upd H l' (.lst (xs'.take i'.toNat ++ [y'] ++ xs'.drop i'.toNat))) :=
  go_ins ((st.perm p).get (.head _)) z h0 (h _ (st.put p rfl))
theorem go_popS {k : Nat} (st : Sta F L H) (p : L.Perm ((l, .lst xs) :: R)) (hk : k < xs.length) (hs : k < 100000) (h : ∀ H', Sta F ((l, .lst (xs.eraseIdx k)) :: R) H' → Q xs[k] H') : rPopAt (.ref l) [.int (k : Int)] H Q :=
  ⟨l, xs, (k : Int), k, xs[k], rfl, rfl, (st.perm p).get (.head _), by omega, by omega, by unfold seqIndex?; simp; omega, List.getElem?_eq_getElem hk, h _ (st.put p rfl)⟩
/-- a dict that is written -/
theorem Sta.disp {o : HO} {p : Addr} {o' : HO} (st : Sta F L H) (n : H p = none) : ∃ F', Same F F' ∧ F' p = some o ∧ Sta F' L (upd (upd H p o') p o) := by
  rw [upd_upd]
  exact st.newF n (same_new n) upd_same
end
end L2.A

namespace L2.A
theorem All2.set {α β : Type} {R : α → β → Prop} {a : α} {b : β} : ∀ {as : List α} {bs : List β} {k : Nat}, All2 R as bs → R a b → All2 R (as.set k a) (bs.set k b)
  | _, _, _, .nil, _ => .nil
  | _, _, 0, .cons _ y, h => .cons h y
  | _, _, _ + 1, .cons x y, h => .cons x (y.set h)
end L2.A

namespace L2.A
open PySem PySem.Spec PyProof.Rows
theorem relabel_vis {sc : Scope} {env : Env} {x : Str} (h : sc.names.lookup x = some .cell ∨ sc.names.lookup x = some .free) : (relabel sc env).names.lookup x = some .cell ∨ (relabel sc env).names.lookup x = some .free := by
  show (sc.names.map fun (n, k) => if (k == NameKind.free && env.scope.kind == .function && env.kindOf n == some .cell) then (n, NameKind.cell) else (n, k)).lookup x = _ ∨ (sc.names.map fun (n, k) => if (k == NameKind.free && env.scope.kind == .function && env.kindOf n == some .cell) then (n, NameKind.cell) else (n, k)).lookup x = _
  generalize sc.names = l at h ⊢
  induction l with
  | nil => rcases h with h | h <;> cases h
  | cons p r ih =>
    obtain ⟨n, k⟩ := p
    rw [List.map_cons]
    cases hx : x == n with
    | true =>
      simp only [List.lookup_cons, hx] at h
      by_cases hc : (k == NameKind.free && env.scope.kind == .function && env.kindOf n == some .cell) = true
      · simp [hc, List.lookup_cons, hx]
      · simp only [if_neg hc, List.lookup_cons, hx]; exact h
    | false =>
      simp only [List.lookup_cons, hx] at h
      by_cases hc : (k == NameKind.free && env.scope.kind == .function && env.kindOf n == some .cell) = true
      · simp only [hc, if_true, List.lookup_cons, hx]; exact ih h
      · simp only [if_neg hc, List.lookup_cons, hx]; exact ih h
/-- a comprehension within another's element -/
theorem blkOk_in {N : List Str} {sc scope : Scope} {own : List (Str × Nat)} {cl : List (Str × Addr)} {C : Addr} {env : Env} (h : blkC N sc scope own = true) : BlkOk N (compEnvC sc cl C env).scope scope own :=
  have B := blkOk_by h
  ⟨B.kind, B.uniq, B.ix, fun y m e => relabel_vis (B.free y m e), B.own⟩
end L2.A


namespace L2.A
open PySem PySem.Spec PyProof.Rows
/-! ### l.count(x) of flat items -/
section
variable {X : Cx} {K : PySem.W.Frag}
def rCntF (K : PySem.W.Frag) : V → List V → Hp → VK → Prop := fun x xs H Q => ∃ (a : Addr) (ys : List V) (y : V), x = V.ref a ∧ xs = [y] ∧ SqL K H a ys ∧ flatV y = true ∧ ys.all flatV = true ∧ Q (.int (ys.countP fun z => eqV z y : Nat)) H
theorem countP_eqU {y : V} {u : Value} (ry : RelV y u) : ∀ {ys : List V} {us : List Value}, Vals ys us → ys.all flatV = true → us.countP (eqU y) = ys.countP fun z => eqV z y
  | _, _, .nil, _ => rfl
  | _, _, .cons r1 r2, h => by
    rw [List.all_cons, Bool.and_eq_true] at h
    rw [List.countP_cons, List.countP_cons, countP_eqU ry r2 h.2, eqU_of r1 h.1]
theorem mt_cntF : MtR X "list.count" (rCntF X.K) := by
  intro pins s σ H x xs v us Q I rx rxs h
  obtain ⟨a, ys, y, rfl, rfl, hs, fy, fys, q⟩ := h
  cases rx
  cases rxs with
  | cons ry rt =>
    rename_i uy ut
    cases rt
    obtain ⟨its, rv, ⟨⟨cls, dd, data, sl⟩, n, ho, hc, hdn, hd⟩, hlen⟩ := I.list hs
    simp only at hc hd
    subst hc hd
    refine call_meets PySem.F.slot_list_count ⟨_, ho, rfl⟩ PySem.F.entry_list_count (PySem.F.args_list_count_2 _ _)
      (SeqAt.list_countAt a its.toArray n dd sl uy (eqU y)) ⟨ho, fun u' hu' => mem_eqAt ry fy rv fys u' (by simpa using hu'), ?_⟩
    refine ⟨.int (ys.countP fun z => eqV z y : Nat), H, I.tok _, ⟨s.toks, ?_⟩, q⟩
    show Value.int ((its.toArray.toList.countP (eqU y) : Nat) : Int) s.toks = _
    rw [show its.toArray.toList = its from rfl, countP_eqU ry rv fys]
theorem mt_cntK (hK : X.K = K) : MtR X "list.count" (rCntF K) := hK ▸ mt_cntF
variable {H : Hp} {Q : VK}
theorem go_cnt {a : Addr} {ys : List V} {y : V} (hs : SqL K H a ys) (fy : flatV y = true) (f : ys.all flatV = true) (h : Q (.int (ys.countP fun z => eqV z y : Nat)) H) : rCntF K (.ref a) [y] H Q := ⟨a, ys, y, rfl, rfl, hs, fy, f, h⟩
theorem go_index {a : Addr} {ys : List V} {y z : V} {j : Nat} (hs : SqL K H a ys) (fy : flatV y = true) (f : ys.all flatV = true) (e : ys[j]? = some z) (t : eqV z y = true) (n : ∀ (m : Nat) (z' : V), m < j → ys[m]? = some z' → eqV z' y = false) (h : Q (.int (j : Nat)) H) : rIndex K (.ref a) [y] H Q :=
  ⟨a, ys, y, j, z, rfl, rfl, hs, fy, f, e, t, n, h⟩
end
end L2.A

namespace L2.A
open PySem PySem.Spec PyProof.Rows
/-! ### d.update(e) -/
def rUpdD : V → List V → Hp → VK → Prop := fun x vs H Q => ∃ (a b : Addr) (kvs more : List (Key × V)), x = .ref a ∧ vs = [.ref b] ∧ a ≠ b ∧ H a = some (.dK kvs) ∧ H b = some (.dK more) ∧ kvs.length + more.length ≤ sizeLine ∧ Q .non (upd H a (.dK (mergeK kvs more)))
theorem mt_update {X : Cx} : MtR X "dict.update" rUpdD := by
  intro pins s σ H x vs v us Q I rx rv h
  obtain ⟨a, b, kvs, more, rfl, rfl, ne, e, e2, z3, q⟩ := h
  cases rx
  obtain ⟨u, rfl, ru⟩ := rv.one
  cases ru
  obtain ⟨z, hd, ws, rel, dd⟩ := dk_of I.hok e
  obtain ⟨z2, hd2, ws2, rel2, dd2⟩ := dk_of I.hok e2
  refine call_meetsIn PySem.F.slot_dict_update dd.typeIs PySem.F.entry_dict_update (PySem.F.args_dict_update_2 _ _) (meets_dict_update (mixKind X.prog X.w) a b ne hd2) ⟨ws, ws2, dd, dd2, by rw [← rel.length, ← rel2.length]; exact z3, fun h' dd' _ hs => ?_⟩
  have he : ∃ q, h'.get? a = some q := let ⟨q, _, _, hq, _⟩ := dd'; ⟨q, hq⟩
  exact ⟨.non, _, d_write (t' := s.toks) I (by rw [e]; exact True.intro) hs he (dk_new (Nat.le_trans (length_mergeK more kvs) z3) hd (rel2.merge rel) dd'), rfl, q⟩
theorem go_updS {F : Hp} {L R : Cells} {H : Hp} {a b : Addr} {kvs more out : List (Key × V)} {Q : VK} (st : Sta F L H) (p : L.Perm ((a, .dK kvs) :: R)) (e : F b = some (.dK more)) (z : Nat.ble (kvs.length + more.length) 1000 = true) (m : mergeK kvs more = out)
    (h : ∀ H', Sta F ((a, .dK out) :: R) H' → Q .non H') : rUpdD (.ref a) [.ref b] H Q := by
  have st' := st.perm p
  refine ⟨a, b, kvs, more, rfl, rfl, fun z => ?_, st'.get (.head _), st.of e, szl (Nat.le_trans (Nat.le_of_ble_eq_true z) (by decide)), by rw [m]; exact h _ (st.put p rfl)⟩
  have := st'.off a (List.mem_cons_self ..)
  rw [z, e] at this; cases this
end L2.A

namespace L2.A
open PySem PySem.Spec PyProof.Rows
/-- dec_int, dec_str under names that are no one else's -/
theorem decI {i j : Int} : decide (V.int i = V.int j) = decide (i = j) := by simp
theorem decS {i j : Str} : decide (V.str i = V.str j) = decide (i = j) := by simp
theorem decB {i j : Bool} : decide (V.bl i = V.bl j) = decide (i = j) := by simp
end L2.A

namespace L2.A
open PySem PySem.Spec PyProof.Rows
/-- is None, told of a value that shows it -/
theorem ifN_ref {a : Addr} {A B : Prop} (h : B) : if decide (V.ref a = V.non) = true then A else B := by rw [if_neg (by simp)]; exact h
theorem ifM_ref {a : Addr} {A B : Prop} (h : A) : if (!decide (V.ref a = V.non)) = true then A else B := by rw [if_pos (by simp)]; exact h
theorem ifN_int {a : Int} {A B : Prop} (h : B) : if decide (V.int a = V.non) = true then A else B := by rw [if_neg (by simp)]; exact h
theorem ifM_int {a : Int} {A B : Prop} (h : A) : if (!decide (V.int a = V.non)) = true then A else B := by rw [if_pos (by simp)]; exact h
theorem ifN_str {a : Str} {A B : Prop} (h : B) : if decide (V.str a = V.non) = true then A else B := by rw [if_neg (by simp)]; exact h
theorem ifM_str {a : Str} {A B : Prop} (h : A) : if (!decide (V.str a = V.non)) = true then A else B := by rw [if_pos (by simp)]; exact h
theorem ifN_bl {a : Bool} {A B : Prop} (h : B) : if decide (V.bl a = V.non) = true then A else B := by rw [if_neg (by simp)]; exact h
theorem ifM_bl {a : Bool} {A B : Prop} (h : A) : if (!decide (V.bl a = V.non)) = true then A else B := by rw [if_pos (by simp)]; exact h
theorem ifN_non {A B : Prop} (h : A) : if decide (V.non = V.non) = true then A else B := by rw [if_pos (by simp)]; exact h
theorem ifM_non {A B : Prop} (h : B) : if (!decide (V.non = V.non)) = true then A else B := by rw [if_neg (by simp)]; exact h
end L2.A

namespace L2.A
theorem ifo_t {b : Bool} {A B : Prop} (h : A) : if (true || b) = true then A else B := h
theorem ifo_f {b : Bool} {A B : Prop} (h : if b = true then A else B) : if (false || b) = true then A else B := h
theorem ifa_t {b : Bool} {A B : Prop} (h : if b = true then A else B) : if (true && b) = true then A else B := h
theorem ifa_f {b : Bool} {A B : Prop} (h : B) : if (false && b) = true then A else B := h
end L2.A

namespace L2.A
open PySem PySem.Spec PyProof.Rows
/-! ### a test, an expression, with a word behind it -/
def tTestC (tt : TT) : TT := fun σ H Q => ∃ Mid : Bool → Hp → Prop, tt σ H Mid ∧ ∀ b H', Mid b H' → Q b H'
def tEC (te : TE) : TE := fun σ H Q => ∃ Mid : VK, te σ H Mid ∧ ∀ v H', Mid v H' → Q v H'
theorem pt_cut {X : Cx} {e : Expr} {tt : TT} (h : PT X e tt) : PT X e (tTestC tt) :=
  ⟨fun pins s σ H Q I ⟨_, hm, hq⟩ => thn (h.run pins s σ H _ I hm) fun _ _ ⟨H1, I1, q1⟩ => ⟨H1, I1, hq _ _ q1⟩⟩
theorem pe_cut {X : Cx} {e : Expr} {te : TE} (h : PE X e te) : PE X e (tEC te) :=
  ⟨fun pins s σ H Q I ⟨_, hm, hq⟩ => thn (h.run pins s σ H _ I hm) fun _ _ ⟨v, H1, I1, r1, q1⟩ => ⟨v, H1, I1, r1, hq _ _ q1⟩⟩
section
variable {tt : TT} {te : TE} {σ : St} {H : Hp} {QB : Bool → Hp → Prop} {Q : VK} {F : Hp} {L : Cells}
theorem go_tcut (Mid : Bool → Hp → Prop) (h1 : tt σ H Mid) (h2 : ∀ b H', Mid b H' → QB b H') : tTestC tt σ H QB := ⟨Mid, h1, h2⟩
/-- the test tells B -/
theorem go_tcutB (B : Bool) (_st : Sta F L H) (h1 : tt σ H fun b H' => b = B ∧ ∃ F', Same F F' ∧ Sta F' L H') (h2 : ∀ F' H', Same F F' → Sta F' L H' → QB B H') : tTestC tt σ H QB :=
  ⟨_, h1, fun _ H' ⟨e, F', s, st⟩ => by rw [e]; exact h2 F' H' s st⟩
theorem go_tcutS (B : Bool) (h1 : tt σ H fun b H' => b = B ∧ Same H H') (h2 : ∀ H', Same H H' → QB B H') : tTestC tt σ H QB :=
  ⟨_, h1, fun _ H' ⟨e, s⟩ => by rw [e]; exact h2 H' s⟩
theorem go_ecut (Mid : VK) (h1 : te σ H Mid) (h2 : ∀ v H', Mid v H' → Q v H') : tEC te σ H Q := ⟨Mid, h1, h2⟩
theorem go_ecutB (v : V) (_st : Sta F L H) (h1 : te σ H fun x H' => x = v ∧ ∃ F', Same F F' ∧ Sta F' L H') (h2 : ∀ F' H', Same F F' → Sta F' L H' → Q v H') : tEC te σ H Q :=
  ⟨_, h1, fun _ H' ⟨e, F', s, st⟩ => by rw [e]; exact h2 F' H' s st⟩
theorem go_ecutS (v : V) (h1 : te σ H fun x H' => x = v ∧ Same H H') (h2 : ∀ H', Same H H' → Q v H') : tEC te σ H Q :=
  ⟨_, h1, fun _ H' ⟨e, s⟩ => by rw [e]; exact h2 H' s⟩
end
end L2.A

namespace L2.A
open PySem PySem.Spec PyProof.Rows
/-- a dict that is written, laid alive -/
theorem go_dispS {F : Hp} {L R : Cells} {H : Hp} {d : Addr} {ps : List (V × V)} {out : List (Key × V)} {Q : VK} (st : Sta F L H) (pm : L.Perm ((d, .dK []) :: R)) (e : ps = (ps.map kvOf).map (fun kv => (kV kv.1, kv.2))) (hl : Nat.ble (ps.map kvOf).length 15 = true) (m : mergeK [] (ps.map kvOf) = out)
    (h : ∀ H', Sta F ((d, .dK out) :: R) H' → Q (.ref d) H') : DispK d ps H Q :=
  go_dispK ((st.perm pm).get (.head _)) e hl (by rw [m]; exact h _ (st.put pm rfl))
/-- ahead of its items -/
theorem go_dispN {F : Hp} {L : Cells} {H : Hp} {trs : List (TE × TE)} {σ : St} {Q : VK} (st : Sta F L H) (h : ∀ d H', Sta F ((d, .dK []) :: L) H' → tPairs trs σ H' fun ps H2 => DispK d ps H2 Q) : DispN trs σ H Q :=
  fun d hd => h d _ (st.newL hd (same_new hd) upd_same rfl)
end L2.A

namespace L2.A
open PySem PySem.Spec PyProof.Rows
theorem go_ninS {K : PySem.W.Frag} {H : Hp} {Q : VK} {p : Addr} {zs : List Str} {z : Str} (hp : H p = some (setO zs)) (h : Q (.bl (!decide (z ∈ zs))) H) : rNotInX K (.str z) (.ref p) H Q := by
  refine .inr (.inr ⟨p, _, rfl, DGet.k (k := Sum.inr z) hp, ?_⟩)
  rw [valV_set]
  by_cases e : z ∈ zs
  · rw [if_pos e]; rwa [decide_eq_true e] at h
  · rw [if_neg e]; rwa [decide_eq_false e] at h
end L2.A


namespace L2.A
open PySem PySem.Spec PyProof.Rows
/-! ### steps found by their head: one instance a construct (the search by instances is indexed, and leaves nothing in the info tree) -/
class Go (G : Prop) (N : outParam Prop) : Prop where
  go : N → G
/-- what a slot holds -/
class At (σ : L2.St) (i : Nat) (v : outParam V) : Prop where
  at_ : σ[i]? = some (some v)
instance {v : V} {r : L2.St} : At (some v :: r) 0 v := ⟨rfl⟩
instance {x : Option V} {r : L2.St} {i : Nat} {v : V} [h : At r i v] : At (x :: r) (i + 1) v := ⟨by rw [List.getElem?_cons_succ]; exact h.at_⟩
class SetAt (σ : L2.St) (i : Nat) (x : Option V) (τ : outParam L2.St) : Prop where
  set_ : σ.set i x = τ
instance {x y : Option V} {r : L2.St} : SetAt (y :: r) 0 x (x :: r) := ⟨rfl⟩
instance {x y : Option V} {r τ : L2.St} {i : Nat} [h : SetAt r i x τ] : SetAt (y :: r) (i + 1) x (y :: τ) := ⟨by rw [List.set_cons_succ, h.set_]⟩
instance {i : Nat} {σ : L2.St} {H : Hp} {Q : VK} {v : V} [h : At σ i v] : Go (tVar i σ H Q) (Q v H) := ⟨go_var h.at_⟩
instance {i : Nat} {σ τ : L2.St} {H : Hp} {QS : L2.St → Hp → Prop} {v : V} [h : SetAt σ i (some v) τ] : Go (gName i v σ H QS) (QS τ H) := ⟨go_name h.set_⟩
instance {K : W.Frag} {a b : Str} {H : Hp} {Q : VK} : Go (rEqX K (.str a) (.str b) H Q) (Q (.bl (decide (V.str a = V.str b))) H) := ⟨go_eqS rfl⟩
instance {K : W.Frag} {a b : Int} {H : Hp} {Q : VK} : Go (rEqX K (.int a) (.int b) H Q) (Q (.bl (decide (V.int a = V.int b))) H) := ⟨go_eqS rfl⟩
instance {K : W.Frag} {a b : Str} {H : Hp} {Q : VK} : Go (rNeX K (.str a) (.str b) H Q) (Q (.bl (!decide (V.str a = V.str b))) H) := ⟨go_neS rfl⟩
instance {K : W.Frag} {a b : Int} {H : Hp} {Q : VK} : Go (rNeX K (.int a) (.int b) H Q) (Q (.bl (!decide (V.int a = V.int b))) H) := ⟨go_neS rfl⟩
instance {A B : Prop} : Go (if false = true then A else B) (B) := ⟨iteF⟩
instance {A B : Prop} : Go (if (!false) = true then A else B) (A) := ⟨iteNF⟩
instance {A B : Prop} : Go (if (!true) = true then A else B) (B) := ⟨iteNT⟩
instance {A B : Prop} : Go (if true = true then A else B) (A) := ⟨iteT⟩
instance {D : Ends} {σ : L2.St} {H : Hp} : Go (tCont D σ H) (Ends.ct D σ H) := ⟨go_ct⟩
instance {D : Ends} {σ : L2.St} {H : Hp} : Go (tBreak D σ H) (Ends.bk D σ H) := ⟨go_brk⟩
instance {K : W.Frag} {H : Hp} {Q : VK} {σ : L2.St} {T : String} {rc : V → List V → Hp → VK → Prop} {te : TE} : Go (tBM0 K T rc te σ H Q) ((te σ H fun (x : V) (H1 : Hp) => BmW0 K T rc x H1 Q)) := ⟨go_bm0⟩
instance {K : W.Frag} {H : Hp} {Q : VK} {σ : L2.St} {T : String} {rc : V → List V → Hp → VK → Prop} {te : TE} {ta : TA} : Go (tBM K T rc te ta σ H Q) ((te σ H fun (x : V) (H1 : Hp) => BmW K T rc ta σ x H1 Q)) := ⟨go_bm⟩
instance {σ : L2.St} {H : Hp} {D : Ends} {i j l : Nat} {ta : TA} : Go (tPar3 i j l ta D σ H) ((ta σ H fun (vs : List V) (H1 : Hp) => P3 i j l σ D vs H1)) := ⟨go_par3⟩
instance {σ : L2.St} {H : Hp} {D : Ends} {i j : Nat} {ta : TA} : Go (tPar i j ta D σ H) ((ta σ H fun (vs : List V) (H1 : Hp) => P2 i j σ D vs H1)) := ⟨go_par⟩
instance {H : Hp} {Q : VK} {f : Int → Int → Int} {a b : Int} : Go (ipI f (V.int a) (V.int b) H Q) (Q (V.int (f a b)) H) := ⟨go_ipI⟩
instance {K : W.Frag} {σ : L2.St} {H : Hp} {ta : TA} {R : It → Hp → Prop} : Go (iZip K ta σ H R) ((ta σ H fun (vs : List V) (H1 : Hp) => ZpW K vs H1 R)) := ⟨go_zip⟩
instance {K : W.Frag} {σ : L2.St} {H : Hp} {ta : TA} {R : It → Hp → Prop} : Go (RZ.iZipA K ta σ H R) ((ta σ H fun (vs : List V) (H1 : Hp) => ZpA K vs H1 R)) := ⟨go_zipA⟩
instance {ta : TA} {σ : L2.St} {H : Hp} {R : It → Hp → Prop} {K : W.Frag} : Go (iEnX K ta σ H R) ((ta σ H fun (vs : List V) (H1 : Hp) => EnX K vs R H1)) := ⟨go_enumX⟩
instance {ta tk : TA} {σ : L2.St} {H : Hp} {R : It → Hp → Prop} {K : W.Frag} : Go (iEnS K ta tk σ H R) ((ta σ H fun (vs : List V) (H1 : Hp) => tk σ H1 fun (zs : List V) (H2 : Hp) => EnS K vs R zs H2)) := ⟨go_enumS⟩
instance {K : W.Frag} {σ : L2.St} {H : Hp} {ta : TA} {R : It → Hp → Prop} : Go (iEnum K ta σ H R) ((ta σ H fun (vs : List V) (H1 : Hp) => EnW K vs H1 R)) := ⟨go_enum⟩
instance {H : Hp} {n : Int} {Q : Int → Int → Hp → Prop} : Go (Rg1 (V.int n) H Q) (Q 0 n H) := ⟨go_rg1b⟩
instance {σ : L2.St} {H : Hp} {ta : TE} {Q : Int → Int → Hp → Prop} : Go (tRg1 ta σ H Q) ((ta σ H fun (x : V) (H1 : Hp) => Rg1 x H1 Q)) := ⟨go_rg1⟩
instance {σ : L2.St} {H : Hp} {tr : L2.St → Hp → (Int → Int → Hp → Prop) → Prop} {R : It → Hp → Prop} : Go (iRevR tr σ H R) ((tr σ H fun (a b : Int) (H1 : Hp) => RvR a b H1 R)) := ⟨go_revR⟩
instance {K : W.Frag} {H : Hp} {Q : VK} {f : Str} {te : TE} {σ : L2.St} : Go (tXq K f te σ H Q) ((te σ H fun (x : V) (H1 : Hp) => XqW K f x H1 Q)) := ⟨go_xq⟩
instance {t : L2.St → Hp → XK → Prop} {σ : L2.St} {H : Hp} {Q : VK} : Go (tExV t σ H Q) ((t σ H fun (cls : Value) (d : Option Addr) (H' : Hp) => ExNew cls d H' Q)) := ⟨go_exv⟩
instance {C : Addr} {sp : Sp} {dvs : List V} {t : TA} {σ : L2.St} {H : Hp} {Q : XK} : Go (tMkO C sp dvs t σ H Q) ((t σ H fun (vs : List V) (H1 : Hp) => MkOW C sp dvs vs H1 Q)) := ⟨go_mkO⟩
instance {K : W.Frag} {σ : L2.St} {H : Hp} {D : Ends} {te to : TE} {f : Str} : Go (tOst K f to te D σ H) ((te σ H fun (y : V) (H1 : Hp) => to σ H1 fun (x : V) (H2 : Hp) => OstW K f y D σ x H2)) := ⟨go_ost⟩
instance {K : W.Frag} {σ : L2.St} {H : Hp} {Q : VK} {t : TA} : Go (tVeI K t σ H Q) ((t σ H fun (vs : List V) (H1 : Hp) => VeIW K vs H1 Q)) := ⟨go_veI⟩
instance {σ : L2.St} {H : Hp} {Q : VK} {E : L2.St → XK} {sp : Sp} {dvs : List V} {t : TA} {ta : TE} {C : Addr} {m : Str} : Go (A.tMethS C m sp dvs E ta t σ H Q) ((ta σ H fun (x : V) (H1 : Hp) => MethSW C m sp dvs (E σ) t σ x H1 Q)) := ⟨go_methS⟩
instance {σ : L2.St} {H : Hp} {Q : VK} {E : L2.St → XK} {sp : Sp} {dvs : List V} {t : TA} : Go (tCallSD sp dvs E t σ H Q) ((t σ H fun (vs : List V) (H1 : Hp) => sp (vs ++ dvs) H1 Q (E σ))) := ⟨go_callS⟩
instance {σ : L2.St} {H : Hp} {Q : VK} {t : TA} {C : Addr} {sp : Sp} {dvs : List V} {E : XK} : Go (tMake C sp dvs E t σ H Q) ((t σ H fun (vs : List V) (H1 : Hp) => MakeW C sp dvs E vs H1 Q)) := ⟨go_make⟩
instance {σ : L2.St} {H : Hp} {Q : VK} {ta : TE} {t : TA} {m : Str} {C : Addr} {sp : Sp} {dvs : List V} {E : XK} : Go (tMeth C m sp dvs E ta t σ H Q) ((ta σ H fun (x : V) (H1 : Hp) => MethW C m sp dvs E t σ x H1 Q)) := ⟨go_meth⟩
instance {H : Hp} {Q : VK} {i j : Int} : Go (rSub (V.int i) (V.int j) H Q) (Q (V.int (i - j)) H) := ⟨go_rSub⟩
instance {H : Hp} {Q : VK} {i j : Int} : Go (rAdd (V.int i) (V.int j) H Q) (Q (V.int (i + j)) H) := ⟨go_rAdd⟩
instance {K : W.Frag} {σ : L2.St} {H : Hp} {D : Ends} {ta tv : TE} {f : Str} {rd : V → V → Hp → VK → Prop} : Go (sFldAug K ta tv rd f D σ H) ((ta σ H fun (x : V) (H1 : Hp) => AFldW K f tv rd D σ x H1)) := ⟨go_faug⟩
instance {K : W.Frag} {σ : L2.St} {H : Hp} {f : Str} {ta : TE} {v : V} {QS : L2.St → Hp → Prop} : Go (gFld K ta f v σ H QS) ((ta σ H fun (x : V) (H1 : Hp) => GFldW K f v σ x H1 QS)) := ⟨go_gfld⟩
instance {σ : L2.St} {H : Hp} {Q : VK} : Go (tDNewK σ H Q) (NewO (HO.dK []) H Q) := ⟨go_dnewK⟩
instance {σ : L2.St} {H : Hp} {Q : VK} {td ty tx : TE} : Go (tDGet2 td ty tx σ H Q) ((td σ H fun (x : V) (H1 : Hp) => Dg2W ty tx σ x H1 Q)) := ⟨go_dget2⟩
instance {K : W.Frag} {σ : L2.St} {H : Hp} {D : Ends} {ta tv : TE} {f : Str} : Go (sFld K ta tv f D σ H) ((tv σ H fun (y : V) (H1 : Hp) => ta σ H1 fun (x : V) (H2 : Hp) => SFldW K f y D σ x H2)) := ⟨go_sfld⟩
instance {K : W.Frag} {σ : L2.St} {H : Hp} {Q : VK} {ta : TE} {f : Str} : Go (tFld K ta f σ H Q) ((ta σ H fun (x : V) (H1 : Hp) => FldW K f x H1 Q)) := ⟨go_fld⟩
instance {H : Hp} {Q : VK} {a b : Int} : Go (rMn2 [V.int a, V.int b] H Q) (Q (V.int (min a b)) H) := ⟨go_min⟩
instance {H : Hp} {Q : VK} {a b : Int} : Go (rMx2 [V.int a, V.int b] H Q) (Q (V.int (max a b)) H) := ⟨go_max⟩
instance {ta : TA} {σ : L2.St} {H : Hp} {R : It → Hp → Prop} : Go (iRng2 ta σ H R) ((ta σ H fun (vs : List V) (H1 : Hp) => RN2 vs H1 R)) := ⟨go_rng2⟩
instance {ta : TA} {σ : L2.St} {H : Hp} {R : It → Hp → Prop} : Go (iRng1 ta σ H R) ((ta σ H fun (vs : List V) (H1 : Hp) => RN1 vs H1 R)) := ⟨go_rng1⟩
instance {K : W.Frag} {H : Hp} {σ : L2.St} {tl : TE} {R : It → Hp → Prop} : Go (iX K tl σ H R) ((tl σ H fun (x : V) (H1 : Hp) => IX K x H1 R)) := ⟨go_iX⟩
instance {H : Hp} {Q : VK} {σ : L2.St} {wi : TI} {g : TG} {tt : TT} {te : TE} {vs : List Nat} : Go (tLc wi g tt te vs σ H Q) ((wi σ H fun (J : It) (H1 : Hp) => LcW J g tt te vs σ H1 Q)) := ⟨go_lc⟩
instance {H : Hp} {σ : L2.St} {D : Ends} {wi : TI} {g : TG} {tb : TS} : Go (tFor wi g tb D σ H) ((wi σ H fun (J : It) (H1 : Hp) => ForW J g tb D σ H1)) := ⟨go_for⟩
instance {D : Ends} {σ : L2.St} {H : Hp} : Go (tNext D σ H) (Ends.nx D σ H) := ⟨go_next⟩
instance {σ : L2.St} {H : Hp} {R : List (V × V) → Hp → Prop} : Go (tPairs [] σ H R) (R [] H) := ⟨go_pairs0⟩
instance {σ : L2.St} {H : Hp} {tk tv : TE} {r : List (TE × TE)} {R : List (V × V) → Hp → Prop} : Go (tPairs ((tk, tv) :: r) σ H R) ((tk σ H fun (k : V) (H1 : Hp) => tv σ H1 fun (v : V) (H2 : Hp) => tPairs r σ H2 fun (ps : List (V × V)) (H3 : Hp) => R ((k, v) :: ps) H3)) := ⟨go_pairs⟩
instance {σ : L2.St} {H : Hp} {Q : VK} {trs : List (TE × TE)} : Go (tDisp trs σ H Q) (DispN trs σ H Q) := ⟨go_disp⟩
instance {H : Hp} {Q : VK} {a b c : Int} : Go (rMx3 [V.int a, V.int b, V.int c] H Q) (Q (V.int (max a (max b c))) H) := ⟨go_max3⟩
instance {H : Hp} {Q : VK} {a b c : Int} : Go (rMn3 [V.int a, V.int b, V.int c] H Q) (Q (V.int (min a (min b c))) H) := ⟨go_min3⟩
instance {H : Hp} {i : Int} {R : Option Int → Hp → Prop} : Go (PartI (V.int i) H R) (R (some i) H) := ⟨go_partI⟩
instance {σ : L2.St} {H : Hp} {t : TE} {R : Option Int → Hp → Prop} : Go (tPart t σ H R) ((t σ H fun (x : V) (H1 : Hp) => PartI x H1 R)) := ⟨go_part⟩
instance {σ : L2.St} {H : Hp} {R : Option Int → Hp → Prop} : Go (tNoPart σ H R) (R none H) := ⟨go_nopart⟩
instance {σ : L2.St} {H : Hp} {Q : VK} {r : V → Option Int → Option Int → Hp → VK → Prop} {te : TE} {tl th : TO} : Go (tSl r te tl th σ H Q) ((te σ H fun (x : V) (H1 : Hp) => tl σ H1 fun (l : Option Int) (H2 : Hp) => th σ H2 fun (u : Option Int) (H3 : Hp) => r x l u H3 Q)) := ⟨go_sl⟩
instance {H : Hp} {Q : VK} {k : Bool} : Go (rIntX [V.bl k] H Q) (Q (V.int (if k = true then 1 else 0)) H) := ⟨go_intB⟩
instance {H : Hp} {Q : VK} {i : Int} : Go (rIntX [V.int i] H Q) (Q (V.int i) H) := ⟨go_intI⟩
instance {σ : L2.St} {H : Hp} {v : V} {QS : L2.St → Hp → Prop} {to ti : TE} {ps : TSet} : Go (gSub to ti ps v σ H QS) ((to σ H fun (o : V) (H1 : Hp) => ti σ H1 fun (i : V) (H2 : Hp) => ps o i v H2 fun (H3 : Hp) => QS σ H3)) := ⟨go_sub⟩
instance {σ : L2.St} {H : Hp} {QS : L2.St → Hp → Prop} : Go (gNil [] σ H QS) (QS σ H) := ⟨go_gnil⟩
instance {σ : L2.St} {H : Hp} {g : TG} {v : V} {QS : L2.St → Hp → Prop} {tg : TGs} {vs : List V} : Go (gCons g tg (v :: vs) σ H QS) ((g v σ H fun (σ' : L2.St) (H' : Hp) => tg vs σ' H' QS)) := ⟨go_gcons⟩
instance {H : Hp} {Q : VK} {f : Int → V} {a : Int} : Go (rU f (V.int a) H Q) (Q (f a) H) := ⟨go_U⟩
instance {σ : L2.St} {H : Hp} {ta : TE} {Q : VK} {ru : V → Hp → VK → Prop} : Go (tUn ru ta σ H Q) ((ta σ H fun (x : V) (H1 : Hp) => ru x H1 Q)) := ⟨go_un⟩
instance {D : Ends} {σ : L2.St} {H : Hp} {te : TE} : Go (tDrop te D σ H) ((te σ H fun (x : V) (H1 : Hp) => Ends.nx D σ H1)) := ⟨go_drop⟩
instance {σ : L2.St} {H : Hp} {ta tb tc : TE} {Q : VK} {r r' : R2} : Go (tChain r r' ta tb tc σ H Q) ((ta σ H fun (x : V) (H1 : Hp) => tb σ H1 fun (y : V) (H2 : Hp) => r x y H2 fun (z : V) (H3 : Hp) => KB z H3 fun (k : Bool) (H3 : Hp) => if k = true then tc σ H3 fun (w' : V) (H4 : Hp) => r' y w' H4 Q else Q (V.bl false) H3)) := ⟨go_chain⟩
instance {K : W.Frag} {H : Hp} {i : Int} {QB : Bool → Hp → Prop} : Go (A.KT K (V.int i) H QB) (QB (i != 0) H) := ⟨go_truI⟩
instance {K : W.Frag} {H : Hp} {b : Bool} {QB : Bool → Hp → Prop} : Go (A.KT K (V.bl b) H QB) (QB b H) := ⟨go_truB⟩
instance {K : W.Frag} {H : Hp} {te : TE} {σ : L2.St} {QB : Bool → Hp → Prop} : Go (tTruX K te σ H QB) ((te σ H fun (x : V) (H' : Hp) => A.KT K x H' QB)) := ⟨go_tru⟩
instance {σ : L2.St} {H : Hp} {ta : TE} {Q : VK} : Go (tNotV ta σ H Q) ((ta σ H fun (x : V) (H1 : Hp) => KB x H1 fun (c : Bool) (H1 : Hp) => Q (V.bl !c) H1)) := ⟨go_notV⟩
instance {σ : L2.St} {H : Hp} {tt : TT} {QB : Bool → Hp → Prop} : Go (tNot tt σ H QB) ((tt σ H fun (c : Bool) (H1 : Hp) => QB (!c) H1)) := ⟨go_not⟩
instance {σ : L2.St} {H : Hp} {Q : VK} {ts : TA} : Go (tLst ts σ H Q) ((ts σ H fun (xs : List V) (H1 : Hp) => NewL xs H1 Q)) := ⟨go_lst⟩
instance {σ : L2.St} {H : Hp} {Q : VK} {ts : TA} : Go (tTup ts σ H Q) ((ts σ H fun (xs : List V) (H1 : Hp) => NewT xs H1 Q)) := ⟨go_tup⟩
instance {σ : L2.St} {H : Hp} {Q : VK} {ts : TA} {rc : List V → Hp → VK → Prop} : Go (tCB rc ts σ H Q) ((ts σ H fun (vs : List V) (H1 : Hp) => rc vs H1 Q)) := ⟨go_CB⟩
instance {σ : L2.St} {H : Hp} {Q : VK} {ts : TA} {sp : Sp} {dvs : List V} {E : XK} : Go (tCall sp dvs E ts σ H Q) ((ts σ H fun (vs : List V) (H1 : Hp) => sp (vs ++ dvs) H1 Q E)) := ⟨go_call⟩
instance {σ : L2.St} {H : Hp} {QL : List V → Hp → Prop} : Go (tNil σ H QL) (QL [] H) := ⟨go_nil⟩
instance {σ : L2.St} {H : Hp} {te : TE} {ts : TA} {QL : List V → Hp → Prop} : Go (tCons te ts σ H QL) ((te σ H fun (x : V) (H1 : Hp) => ts σ H1 fun (xs : List V) (H2 : Hp) => QL (x :: xs) H2)) := ⟨go_cons⟩
instance {D : Ends} {σ : L2.St} {H : Hp} : Go (tRetN D σ H) (Ends.rt D V.non H) := ⟨go_retN⟩
instance {D : Ends} {σ : L2.St} {H : Hp} {te : TE} : Go (tRet te D σ H) (te σ H (Ends.rt D)) := ⟨go_ret⟩
instance {K : W.Frag} {H : Hp} {Q : VK} {a b : Bool} : Go (rIsNotX K (V.bl a) (V.bl b) H Q) (Q (V.bl !decide (a = b)) H) := ⟨go_notB⟩
instance {K : W.Frag} {H : Hp} {Q : VK} {a b : Bool} : Go (rIsX K (V.bl a) (V.bl b) H Q) (Q (V.bl (decide (a = b))) H) := ⟨go_isB⟩
instance {K : W.Frag} {H : Hp} {Q : VK} {x : V} : Go (rIsNotX K x V.non H Q) (Q (V.bl !decide (x = V.non)) H) := ⟨go_notN⟩
instance {K : W.Frag} {H : Hp} {Q : VK} {x : V} : Go (rIsX K x V.non H Q) (Q (V.bl (decide (x = V.non))) H) := ⟨go_isN⟩
instance {H : Hp} {QB : Bool → Hp → Prop} {b : Bool} : Go (KB (V.bl b) H QB) (QB b H) := ⟨go_bl⟩
instance {σ : L2.St} {H : Hp} {te : TE} {QB : Bool → Hp → Prop} : Go (tTest te σ H QB) ((te σ H fun (x : V) (H' : Hp) => KB x H' QB)) := ⟨go_test⟩
instance {t u : TS} {D : Ends} {σ : L2.St} {H : Hp} {tt : TT} : Go (tIfS tt t u D σ H) ((tt σ H fun (b : Bool) (H1 : Hp) => if b = true then t D σ H1 else u D σ H1)) := ⟨go_if⟩
instance {K : W.Frag} {H : Hp} {Q : VK} {a b : Int} : Go (rAddX K (V.int a) (V.int b) H Q) (Q (V.int (a + b)) H) := ⟨go_addI⟩
instance {H : Hp} {Q : VK} {f : Int → Int → V} {a b : Int} : Go (rI0 f (V.int a) (V.int b) H Q) (Q (f a b) H) := ⟨go_I0⟩
instance {σ : L2.St} {H : Hp} {v : V} {Q : VK} : Go (tC v σ H Q) (Q v H) := ⟨go_c⟩
instance {σ : L2.St} {H : Hp} {ta tb : TE} {Q : VK} {r : R2} : Go (tOp r ta tb σ H Q) ((ta σ H fun (x : V) (H1 : Hp) => tb σ H1 fun (y : V) (H2 : Hp) => r x y H2 Q)) := ⟨go_op⟩
instance {D : Ends} {σ : L2.St} {H : Hp} {te : TE} {g : TG} : Go (tAsg te g D σ H) ((te σ H fun (x : V) (H1 : Hp) => g x σ H1 (Ends.nx D))) := ⟨go_asg⟩
instance {t u : TS} {D : Ends} {σ : L2.St} {H : Hp} : Go (tSeq t u D σ H) (t (Ends.mk (u D) (Ends.rt D) (Ends.bk D) (Ends.ct D)) σ H) := ⟨go_seq⟩
instance {b : Bool} {A B : Prop} : Go (if (false && b) = true then A else B) (B) := ⟨ifa_f⟩
instance {b : Bool} {A B : Prop} : Go (if (true && b) = true then A else B) ((if b = true then A else B)) := ⟨ifa_t⟩
instance {b : Bool} {A B : Prop} : Go (if (false || b) = true then A else B) ((if b = true then A else B)) := ⟨ifo_f⟩
instance {b : Bool} {A B : Prop} : Go (if (true || b) = true then A else B) (A) := ⟨ifo_t⟩
instance {A B : Prop} : Go (if (!decide (V.non = V.non)) = true then A else B) (B) := ⟨ifM_non⟩
instance {A B : Prop} : Go (if decide (V.non = V.non) = true then A else B) (A) := ⟨ifN_non⟩
instance {a : Bool} {A B : Prop} : Go (if (!decide (V.bl a = V.non)) = true then A else B) (A) := ⟨ifM_bl⟩
instance {a : Bool} {A B : Prop} : Go (if decide (V.bl a = V.non) = true then A else B) (B) := ⟨ifN_bl⟩
instance {a : Str} {A B : Prop} : Go (if (!decide (V.str a = V.non)) = true then A else B) (A) := ⟨ifM_str⟩
instance {a : Str} {A B : Prop} : Go (if decide (V.str a = V.non) = true then A else B) (B) := ⟨ifN_str⟩
instance {a : Int} {A B : Prop} : Go (if (!decide (V.int a = V.non)) = true then A else B) (A) := ⟨ifM_int⟩
instance {a : Int} {A B : Prop} : Go (if decide (V.int a = V.non) = true then A else B) (B) := ⟨ifN_int⟩
instance {a : Addr} {A B : Prop} : Go (if (!decide (V.ref a = V.non)) = true then A else B) (A) := ⟨ifM_ref⟩
instance {a : Addr} {A B : Prop} : Go (if decide (V.ref a = V.non) = true then A else B) (B) := ⟨ifN_ref⟩
end L2.A

namespace L2.A
open PySem PySem.Spec PyProof.Rows
/-- what a word of the slow kind may serve -/
class More (G : Prop) : Prop where
  go : G → G
instance {x0 x1 x2 x3} : More (rAppend x0 x1 x2 x3) := ⟨id⟩
instance {x0 x1 x2 x3 x4 x5} : More (BmW0 x0 x1 x2 x3 x4 x5) := ⟨id⟩
instance {x0 x1 x2 x3 x4 x5 x6 x7} : More (BmW x0 x1 x2 x3 x4 x5 x6 x7) := ⟨id⟩
instance {x0 x1 x2 x3 x4 x5} : More (P2 x0 x1 x2 x3 x4 x5) := ⟨id⟩
instance {x0 x1 x2 x3 x4 x5 x6} : More (P3 x0 x1 x2 x3 x4 x5 x6) := ⟨id⟩
instance {x0 x1 x2 x3 x4 x5} : More (tAug x0 x1 x2 x3 x4 x5) := ⟨id⟩
instance {x0 x1 x2 x3} : More (RvR x0 x1 x2 x3) := ⟨id⟩
instance {x0 x1 x2 x3} : More (rIsiY x0 x1 x2 x3) := ⟨id⟩
instance {x0 x1 x2 x3 x4} : More (XqW x0 x1 x2 x3 x4) := ⟨id⟩
instance {x0 x1 x2 x3 x4 x5 x6 x7 x8 x9} : More (MethSW x0 x1 x2 x3 x4 x5 x6 x7 x8 x9) := ⟨id⟩
instance {x0 x1 x2 x3 x4 x5 x6 x7 x8 x9} : More (MethW x0 x1 x2 x3 x4 x5 x6 x7 x8 x9) := ⟨id⟩
instance {x0 x1 x2 x3 x4 x5 x6} : More (AStW x0 x1 x2 x3 x4 x5 x6) := ⟨id⟩
instance {x0 x1 x2 x3 x4 x5 x6 x7} : More (AFldW x0 x1 x2 x3 x4 x5 x6 x7) := ⟨id⟩
instance {x0 x1 x2 x3 x4 x5 x6} : More (GFldW x0 x1 x2 x3 x4 x5 x6) := ⟨id⟩
instance {x0 x1 x2 x3 x4 x5 x6} : More (SFldW x0 x1 x2 x3 x4 x5 x6) := ⟨id⟩
instance {x0 x1 x2 x3 x4} : More (FldW x0 x1 x2 x3 x4) := ⟨id⟩
instance {x0 x1 x2 x3} : More (rLenX x0 x1 x2 x3) := ⟨id⟩
instance {x0 x1 x2 x3} : More (rIsiX x0 x1 x2 x3) := ⟨id⟩
instance {x0 x1 x2} : More (rAbsI x0 x1 x2) := ⟨id⟩
instance {x0 x1 x2} : More (tYes x0 x1 x2) := ⟨id⟩
instance {x0 x1 x2} : More (RN2 x0 x1 x2) := ⟨id⟩
instance {x0 x1 x2} : More (RN1 x0 x1 x2) := ⟨id⟩
instance {x0 x1 x2 x3} : More (DispK x0 x1 x2 x3) := ⟨id⟩
instance {x0 x1 x2 x3 x4 x5} : More (rSlX x0 x1 x2 x3 x4 x5) := ⟨id⟩
instance {x0 x1 x2 x3 x4 x5 x6} : More (gTupA x0 x1 x2 x3 x4 x5 x6) := ⟨id⟩
instance {x0 x1 x2 x3 x4 x5 x6} : More (gTup x0 x1 x2 x3 x4 x5 x6) := ⟨id⟩
instance {x0 x1 x2 x3 x4} : More (rIxX x0 x1 x2 x3 x4) := ⟨id⟩
instance {x0 x1 x2 x3 x4 x5} : More (tIf x0 x1 x2 x3 x4 x5) := ⟨id⟩
instance {x0 x1 x2 x3 x4} : More (tOrV x0 x1 x2 x3 x4) := ⟨id⟩
instance {x0 x1 x2 x3 x4} : More (tAndV x0 x1 x2 x3 x4) := ⟨id⟩
instance {x0 x1 x2 x3 x4} : More (tOr x0 x1 x2 x3 x4) := ⟨id⟩
instance {x0 x1 x2 x3 x4} : More (tAnd x0 x1 x2 x3 x4) := ⟨id⟩
instance {x0 x1 x2} : More (NewL x0 x1 x2) := ⟨id⟩
instance {x0 x1 x2} : More (NewT x0 x1 x2) := ⟨id⟩
instance {x0 x1 x2 x3 x4} : More (rNeX x0 x1 x2 x3 x4) := ⟨id⟩
instance {x0 x1 x2 x3 x4} : More (rEqX x0 x1 x2 x3 x4) := ⟨id⟩
instance {x0 x1 x2 x3 x4 x5} : More (rI x0 x1 x2 x3 x4 x5) := ⟨id⟩
instance {x0 x1 x2 x3} : More (rMulX x0 x1 x2 x3) := ⟨id⟩
instance {x0 x1 x2 x3 x4} : More (gName x0 x1 x2 x3 x4) := ⟨id⟩
instance {x0 x1 x2 x3} : More (tVar x0 x1 x2 x3) := ⟨id⟩
instance {x0 x1 x2} : More (NewO x0 x1 x2) := ⟨id⟩
instance {x0 x1 x2 x3 x4} : More (Dg2K x0 x1 x2 x3 x4) := ⟨id⟩
instance {x0 x1 x2 x3 x4 x5} : More (Dg2W x0 x1 x2 x3 x4 x5) := ⟨id⟩
instance {x0 x1 x2 x3 x4} : More (rNotInX x0 x1 x2 x3 x4) := ⟨id⟩
instance {x0 x1 x2 x3 x4} : More (rInX x0 x1 x2 x3 x4) := ⟨id⟩
instance {x0 x1 x2 x3 x4} : More (rSetX x0 x1 x2 x3 x4) := ⟨id⟩
instance {c : Prop} [Decidable c] {A B : Prop} : More (if c then A else B) := ⟨id⟩
instance {A B : Prop} : More (A ∨ B) := ⟨id⟩
end L2.A


namespace L2.A
open PySem PySem.Spec PyProof.Rows
/-! ### sorted of any number of whole numbers; a chain of three comparisons -/
theorem go_sortedI {K : PySem.W.Frag} {H : Hp} {Q : VK} {a : Addr} {ns : List Int} (hS : SqL K H a (ns.map V.int)) (h : ∀ (ns' : List Int) (p : Addr), ns'.Perm ns → ns'.Pairwise (· ≤ ·) → H p = none → Q (.ref p) (upd H p (.lst (ns'.map V.int)))) : rSortedI K [.ref a] H Q := ⟨a, ns, rfl, hS, h⟩
section
variable {X : Cx} {a b c d : Expr} {ta tb tc td : TE} {pos : Pos}
def tChain3 (r r' r'' : R2) (ta tb tc td : TE) : TT := fun σ H Q => ta σ H fun x H1 => tb σ H1 fun y H2 => r x y H2 fun z H3 => KB z H3 fun k H3 =>
  if k = true then tc σ H3 fun w H4 => r' y w H4 fun z' H5 => KB z' H5 fun k' H5 => if k' = true then td σ H5 fun u H6 => r'' w u H6 fun z2 H7 => KB z2 H7 Q else Q false H5 else Q false H3
theorem pt_chain3 {op op' op'' : CmpOp} {r r' r'' : R2} (ho : OpR X (compareOp op) r) (ho' : OpR X (compareOp op') r') (ho'' : OpR X (compareOp op'') r'') (ha : PE X a ta) (hb : PE X b tb) (hc : PE X c tc) (hd : PE X d td)
    (hm : lastMarks [op, op', op''] [b, c, d] = false := by with_unfolding_all rfl) : PT X (.Compare a [op, op', op''] [b, c, d] pos) (tChain3 r r' r'' ta tb tc td) := by
  refine ⟨fun pins s σ H Q I h => ?_⟩
  refine isTrue_chain (thn (ha.run pins s σ H _ I h) fun v s1 ⟨x, H1, I1, r1, q1⟩ => test_link (thn (hb.run pins s1 σ H1 _ I1 q1) fun u s2 ⟨y, H2, I2, r2, q2⟩ =>
    thn (ho pins s2 σ H2 x y v u _ I2 r1 r2 q2) fun d s3 ⟨z, H3, I3, r3, k, e, q3⟩ => ?_)) hm
  subst e
  cases r3
  refine wpAny_truthy_bool ?_
  cases k with
  | false => exact ite_ff ⟨H3, I3, q3⟩
  | true =>
    refine ite_tt (test_link (thn (hc.run pins s3 σ H3 _ I3 q3) fun w' s4 ⟨z', H4, I4, r4, q4⟩ => thn (ho' pins s4 σ H4 y z' u w' _ I4 r2 r4 q4) fun d' s5 ⟨z2, H5, I5, r5, k2, e2, q5⟩ => ?_))
    subst e2
    cases r5
    refine wpAny_truthy_bool ?_
    cases k2 with
    | false => exact ite_ff ⟨H5, I5, q5⟩
    | true =>
      refine ite_tt (test_last (thn (hd.run pins s5 σ H5 _ I5 q5) fun w3 s6 ⟨z3, H6, I6, r6, q6⟩ => thn (ho'' pins s6 σ H6 z' z3 w' w3 _ I6 r4 r6 q6) fun d3 s7 ⟨z4, H7, I7, r7, k3, e3, q7⟩ => ?_))
      subst e3
      cases r7
      exact wpAny_truthy_bool ⟨H7, I7, q7⟩
theorem go_chain3 {r r' r'' : R2} {σ : L2.St} {H : Hp} {Q : Bool → Hp → Prop} (h : ta σ H fun x H1 => tb σ H1 fun y H2 => r x y H2 fun z H3 => KB z H3 fun k H3 =>
  if k = true then tc σ H3 fun w H4 => r' y w H4 fun z' H5 => KB z' H5 fun k' H5 => if k' = true then td σ H5 fun u H6 => r'' w u H6 fun z2 H7 => KB z2 H7 Q else Q false H5 else Q false H3) : tChain3 r r' r'' ta tb tc td σ H Q := h
instance {r r' r'' : R2} {σ : L2.St} {H : Hp} {Q : Bool → Hp → Prop} : Go (tChain3 r r' r'' ta tb tc td σ H Q) (ta σ H fun x H1 => tb σ H1 fun y H2 => r x y H2 fun z H3 => KB z H3 fun k H3 =>
  if k = true then tc σ H3 fun w H4 => r' y w H4 fun z' H5 => KB z' H5 fun k' H5 => if k' = true then td σ H5 fun u H6 => r'' w u H6 fun z2 H7 => KB z2 H7 Q else Q false H5 else Q false H3) := ⟨id⟩
end
end L2.A


namespace L2.A
open PySem PySem.Spec PyProof.Rows
/-! ### x in l where the items are data of any depth and x is shallow -/
section
variable {X : Cx}
def rInE (K : PySem.W.Frag) : R2 := fun x y H Q => ∃ d ds, Dp K H x d ∧ Dp K H y (.list ds) ∧ d.canLay0 = true ∧ d.depth ≤ 60 ∧ PyData.canLayAll0 ds = true ∧ Q (.bl (ds.any fun z => PyData.eqv z d)) H
theorem op_inE (hu : X.A.units + 64 < cLine) : OpR X (compareOp .In) (rInE X.K) := by
  intro pins s σ H x y v u Q I rx ry h
  obtain ⟨d, ds, hd, he, sd, dd, se, q⟩ := h
  obtain ⟨as, r1⟩ := Dp.reads I d x v hd rx
  obtain ⟨bs, r2⟩ := Dp.reads I (.list ds) y u he ry
  refine SeqAt.in_list_reads r2 r1 se sd ?_ ⟨.bl _, H, I, rfl, q⟩
  have := Nat.min_le_right (PyData.depthAll ds) d.depth
  omega
theorem go_inE {K : PySem.W.Frag} {H : Hp} {Q : VK} {x y : V} {d : PyData} {ds : List PyData} (hx : Dp K H x d) (hy : Dp K H y (.list ds)) (s1 : d.canLay0 = true) (s2 : d.depth ≤ 60) (s3 : PyData.canLayAll0 ds = true) (h : Q (.bl (ds.any fun z => PyData.eqv z d)) H) : rInE K x y H Q := ⟨d, ds, hx, hy, s1, s2, s3, h⟩
end
end L2.A


namespace L2.A
open PySem PySem.Spec PyProof.Rows
/-! ### xs[a:b] = ys -/
section
variable {X : Cx} {e lo hi : Expr} {te tl th : TE} {p2 pos : Pos}
def SlcW (v x : V) (lo hi : Option Int) (σ : St) (H3 : Hp) (QS : St → Hp → Prop) : Prop := ∃ (l b : Addr) (xs ys : List V) (a c : Int), x = .ref l ∧ v = .ref b ∧ lo = some a ∧ hi = some c ∧ H3 l = some (.lst xs) ∧ H3 b = some (.lst ys) ∧ l ≠ b ∧ 0 ≤ a ∧ a ≤ c ∧ c ≤ xs.length ∧ xs.length + ys.length ≤ sizeLine ∧
  QS σ (upd H3 l (.lst (xs.take a.toNat ++ ys ++ xs.drop c.toNat)))
def gSlc (te : TE) (tl th : TO) : TG := fun v σ H QS => te σ H fun x H1 => tl σ H1 fun lo H2 => th σ H2 fun hi H3 => SlcW v x lo hi σ H3 QS
theorem pg_slc {tl th : TO} (he : PE X e te) (hl : PO X (some lo) tl) (hh : PO X (some hi) th)
    (ha : ∀ v, assign (.Subscript e (.Slice (some lo) (some hi) none p2) pos) X.env v = (do
      let ov ← holding [v] (eval e X.env)
      let iv ← holding [v, ov] (eval (.Slice (some lo) (some hi) none p2) X.env)
      standAt pos
      holding [v, ov, iv] (setItem ov iv v)
      release [iv, v, ov] []) := by intro _; rfl) : PG X (.Subscript e (.Slice (some lo) (some hi) none p2) pos) (gSlc te tl th) := by
  refine ⟨fun pins s σ H v u Q I r h => ?_⟩
  rw [ha]
  refine wpAny_bind (wpAny_holding (thn (he.run pins s σ H _ I h) fun ov s1 ⟨x, H1, I1, r1, q1⟩ => ?_))
  refine wpAny_bind (wpAny_holding (wpAny_Slice (thn (hl.run pins s1 σ H1 _ I1 q1) fun vl s2 ⟨l, H2, I2, pl, q2⟩ => thn (hh.run pins s2 σ H2 _ I2 q2) fun vu s3 ⟨w, H3, I3, pu, q3⟩ => ?_)))
  rw [evalPart_none]
  refine wpAny_pure ?_
  obtain ⟨L, b, xs, ys, a, c, rfl, rfl, rfl, rfl, e1, e2, ne, h0, hac, hc, hz, q⟩ := q3
  have I4 : Inv X pins σ H3 { s3 with heap := s3.heap.push { cls := .type "slice", data := .fields #[vl, vu, .none] } } := I3.kept (t' := s3.toks) fun b ob q => Heap.get?_push_of_some _ q
  obtain rfl : ov = Value.ref L := r1
  obtain rfl : u = Value.ref b := r
  have ra : RelV (.int a) vl := by cases pl; exact ⟨_, rfl⟩
  have rc : RelV (.int c) vu := by cases pu; exact ⟨_, rfl⟩
  refine wpAny_bind (wpAny_standAt (wpAny_bind (wpAny_holding (set_slice I4 e1 e2 ne (Heap.IsSliceOf.new ..) ra rc h0 hac hc hz fun s4 I5 => ?_))))
  exact wpAny_release ⟨σ, _, I5, q⟩
theorem go_slc {tl th : TO} {v : V} {σ : St} {H : Hp} {QS : St → Hp → Prop} (h : te σ H fun x H1 => tl σ H1 fun lo H2 => th σ H2 fun hi H3 => SlcW v x lo hi σ H3 QS) : gSlc te tl th v σ H QS := h
instance {tl th : TO} {v : V} {σ : L2.St} {H : Hp} {QS : L2.St → Hp → Prop} : Go (gSlc te tl th v σ H QS) (te σ H fun x H1 => tl σ H1 fun lo H2 => th σ H2 fun hi H3 => SlcW v x lo hi σ H3 QS) := ⟨go_slc⟩
/-- the list and what is put in are both alive -/
theorem go_slcS {F : Hp} {L R : Cells} {H : Hp} {l b : Addr} {xs ys : List V} {a c : Nat} {σ : St} {QS : St → Hp → Prop} (st : Sta F L H) (p : L.Perm ((l, .lst xs) :: R)) (eb : F b = some (.lst ys)) (hac : a ≤ c) (hc : c ≤ xs.length) (hz : xs.length + ys.length ≤ 100000)
    (h : ∀ H', Sta F ((l, .lst (xs.take a ++ ys ++ xs.drop c)) :: R) H' → QS σ H') : SlcW (.ref b) (.ref l) (some (a : Int)) (some (c : Int)) σ H QS := by
  have st' := st.perm p
  have el := st'.get (p := l) (.head _)
  refine ⟨l, b, xs, ys, a, c, rfl, rfl, rfl, rfl, el, st.of eb, fun e => ?_, by omega, by omega, by omega, Nat.le_trans hz (by decide), ?_⟩
  · subst e
    exact absurd ((st'.off l (List.mem_cons_self ..)).symm.trans eb) (by simp)
  · rw [Int.toNat_natCast, Int.toNat_natCast]
    exact h _ (st'.put .rfl rfl)
end
end L2.A

namespace L2.A
open PySem PySem.Spec PyProof.Rows
/-! ### o[i] op= e -/
theorem get_L {X : Cx} : PGet X (rIxL X.K) := by
  intro pins s σ H x y v u Q I rx ry h
  obtain ⟨p, xs, i, z, rfl, rfl, hq, he, q⟩ := h
  cases rx
  obtain ⟨t, rfl⟩ := ry
  obtain ⟨its, r, pl, hz⟩ := I.list hq
  obtain ⟨j, h1, h2, h3, h4, h5⟩ := atI_get he
  obtain ⟨w, ew, rw'⟩ := r.get h2
  have hl := r.length
  have hn := line63
  have fin : EP X pins σ Q w s := ⟨z, H, I, rw', q⟩
  by_cases h0 : 0 ≤ i
  · have hj : i.toNat = j := by
      rw [seqIndex_of h0 h5] at h1
      exact Option.some.inj h1
    exact wpAny_getItem_list pl.isList h0 (by omega) (by rw [hj]; simpa using ew) fin
  · have hj : (i + (its.toArray.size : Int)).toNat = j := by
      rw [seqIndex_neg (by omega) h4] at h1
      rw [List.size_toArray, ← hl]
      exact Option.some.inj h1
    exact wpAny_getItem_list_neg pl.isList (by omega) (by rw [List.size_toArray] <;> omega) (by omega) (by rw [hj]; simpa using ew) fin
theorem go_xLg {K : PySem.W.Frag} {H : Hp} {Q : VK} {p : Addr} {xs : List V} {i : Int} {v : V} (hS : SqL K H p xs) (e : L2.atI xs i = some v) (h : Q v H) : rIxL K (.ref p) (.int i) H Q := ⟨p, xs, i, v, rfl, rfl, hS, e, h⟩
instance {to ti te : TE} {tget : V → V → Hp → VK → Prop} {tip : TIp} {tset : TSet} {D : Ends} {σ : L2.St} {H : Hp} : Go (tAugS to ti te tget tip tset D σ H) (to σ H fun o H1 => ti σ H1 fun i H2 => tget o i H2 fun x H3 => te σ H3 fun y H4 => tip x y H4 fun z H5 => tset o i z H5 fun H6 => Ends.nx D σ H6) := ⟨id⟩
end L2.A

namespace L2.A
open PySem PySem.Spec PyProof.Rows
/-! ### sorted of a tuple of texts -/
section
variable {X : Cx}
def rSortedT (K : PySem.W.Frag) : List V → Hp → VK → Prop := fun vs H Q => ∃ (a : Addr) (xs : List Str), vs = [V.ref a] ∧ SqT K H a (xs.map V.str) ∧ xs.length < 64 ∧
  ∀ (ys : List Str) (p : Addr), ys.Perm xs → sortedS ys = true → H p = none → Q (.ref p) (upd H p (.lst (ys.map V.str)))
theorem cr_sortedT : CallR X (.builtin "sorted") (rSortedT X.K) := by
  intro pins s σ H vs us Q I r h
  obtain ⟨a, xs, rfl, hs, hz, q⟩ := h
  obtain ⟨its, rv, ht, _⟩ := I.tuple hs
  rw [Vals.ref1 r]
  have hS := rv.strs
  have hlen0 := rv.length
  rw [List.length_map] at hlen0
  have hL : its.length ≤ sizeLine := by rw [← hlen0, sizeLine_eq]; omega
  obtain ⟨o, ho, hc, n, hd⟩ := ht
  refine Calls.call_function_entry kind_sorted plain_sorted entry_sorted (args_sorted1 _) ?_
  unfold Builtin.«sorted»
  refine wpAny_bind (m := checkCount "sorted" 1 1 _) (wpAny_pure ?_)
  refine wpAny_bind (wpAny_collect_seq a (.inr rfl) ho hc hd (fun h' hk => ?_) (by rw [List.size_toArray]; exact hL))
  have I2 : Inv X pins σ H { s with heap := h' } := I.kept (t' := s.toks) hk
  refine wpAny_bind (wpAny_newList ?_)
  have hoL : (h'.push (seqObj "list" its.toArray 0)).get? h'.objs.size = some (seqObj "list" its.toArray 0) := Heap.get?_push_size _ rfl
  refine wpAny_bind (wpAny_holding (wpAny_call_entry slot_list_sort ⟨_, hoL, rfl⟩ entry_list_sort (list_sort_treeK strKind_oneLt hoL hS.keysOf (fun v₁ v₂ rest e => keyKind_strs (by rw [← e]; exact hS)) (by rw [← hlen0]; exact hz) fun st' hp hs' => ⟨_, rfl, ?_⟩) (args_list_sort _)))
  obtain ⟨ys, h1, h2, h3⟩ := sorted_out_str hS hp hs'
  obtain ⟨ep, he'⟩ := sortedHeap_at (out := (arrOf st').map (·.2)) hoL
  have hlen : (ys.map V.str).length ≤ sizeLine := by rw [List.length_map, h2.length_eq, sizeLine_eq]; omega
  refine wpAny_pure ⟨_, rfl, ?_⟩
  refine ⟨.ref _, upd H h'.objs.size (.lst (ys.map V.str)), I2.laid (t' := s.toks) (fun b ob e => ?_) (Nat.le_refl _) ⟨hlen, _, ep, vals_of_strs h1, by rw [Array.toArray_toList]; exact he'⟩, rfl, q ys _ h2 h3 (I2.hok.fresh (Nat.le_refl _))⟩
  have hb := Heap.lt_size e
  rw [sortedHeap_old (Nat.ne_of_lt hb) (by rw [size_push']; exact Nat.lt_succ_of_lt hb)]
  exact Heap.get?_push_of_some _ e
def rSortedQ (K : PySem.W.Frag) : List V → Hp → VK → Prop := fun vs H Q => rSortedS K vs H Q ∨ rSortedT K vs H Q
theorem cr_sortedQ : CallR X (.builtin "sorted") (rSortedQ X.K) := fun pins s σ H vs us Q I r h => h.elim (cr_sortedS pins s σ H vs us Q I r) (cr_sortedT pins s σ H vs us Q I r)
end
end L2.A

namespace L2.A
open PySem PySem.Spec PyProof.Rows
/-! ### d.setdefault with keys of both kinds -/
section
variable {X : Cx} {pins : List (Addr × Obj)} {σ : St} {H : Hp} {s : Shared} {a b : Addr} {r : Value} {d : V} {A : Around} {E : Value → Shared → Prop}
theorem d_setdT {kvs : List (List Key × V)} {k : List Key} {Q : Value → Shared → Prop} (hu : A.units + 1 < cLine) (I : Inv X pins σ H s) (e : H a = some (.dT kvs)) (eb : H b = some (.tup (k.map kV))) (rd : RelV d r) (hl : kvs.length < sizeLine)
    (h1 : ∀ v, valV kvs k = some v → ∀ (w' : Value) (s' : Shared), Inv X pins σ H s' → RelV v w' → Q w' s') (h2 : valV kvs k = none → ∀ (w' : Value) (s' : Shared), Inv X pins σ (upd H a (.dT (putK kvs k d))) s' → RelV d w' → Q w' s') :
    wpAny (model X.prog X.w) A (call (.builtin "dict.setdefault") [.ref a, .ref b, r]) Q E s := by
  obtain ⟨z, hd, xs, rel, dd⟩ := dt_of I.hok e
  have hz : xs.length ≤ sizeLine := by rw [← Paired.length rel]; exact z
  have hl2 : (putK kvs k d).length ≤ sizeLine := by have := length_putK kvs k d; omega
  refine call_setdefault_heap (hsz := hz) (tupleKind_room_in1 hu) (key_of I.hok eb) hd dd (fun p hp => ?_) fun hn h' dd' hs => ?_
  · have q := rel.val k
    rw [hp] at q
    cases q0 : valV kvs k with
    | none => rw [q0] at q; exact (show False from q).elim
    | some v0 => rw [q0] at q; exact h1 v0 q0 _ _ (I.tok _) q
  · have q := rel.val k
    rw [hn] at q
    cases q0 : valV kvs k with
    | some v0 => rw [q0] at q; exact (show False from q).elim
    | none =>
      obtain ⟨q', es, ep, hq, h2', h3, h4, _, h5⟩ := dd'
      refine h2 q0 _ _ (d_write I (by rw [e]; exact True.intro) hs ⟨q', hq⟩ ⟨hl2, hd, _, (rel.put k eb rd).keeps fun c ys ec => ?_, q', es, ep, hq, h2', h3, h4, h5⟩) rd
      rw [upd_ne (ne_of ec e (fun z => nomatch z))]
      exact ec
end
def SdX (a : Addr) (y z : V) (H3 : Hp) (Q : VK) : Prop := (∃ (kvs : List (Key × V)) (k : Key), H3 a = some (.dK kvs) ∧ y = kV k ∧ kvs.length < sizeLine ∧ (∀ v, valV kvs k = some v → Q v H3) ∧ (valV kvs k = none → Q z (upd H3 a (.dK (putK kvs k z))))) ∨
  ∃ (kvs : List (List Key × V)) (k : List Key) (b : Addr), H3 a = some (.dT kvs) ∧ y = .ref b ∧ H3 b = some (.tup (k.map kV)) ∧ kvs.length < sizeLine ∧ (∀ v, valV kvs k = some v → Q v H3) ∧ (valV kvs k = none → Q z (upd H3 a (.dT (putK kvs k z))))
def SdW (ty tx : TE) (σ : St) (x : V) (H1 : Hp) (Q : VK) : Prop := ∃ a, x = .ref a ∧ IsD H1 a ∧ ty σ H1 fun y H2 => tx σ H2 fun z H3 => SdX a y z H3 Q
def tSdX (td ty tx : TE) : TE := fun σ H Q => td σ H fun x H1 => SdW ty tx σ x H1 Q
section
variable {X : Cx} {o e f : Expr} {td ty tx : TE} {apos cpos : Pos}
theorem pe_dsetX (hu : X.A.units + 1 < cLine) (ho : PE X o td) (he : PE X e ty) (hf : PE X f tx) (m : M2 X o "setdefault" apos e f cpos) : PE X (.Call (.Attribute o "setdefault" apos) [e, f] [] cpos) (tSdX td ty tx) := by
  refine ⟨fun pins s σ H Q I h => ?_⟩
  refine wpAny_Call_method m.base m.few m.line PySem.F.plainAttrs_dict PySem.F.slot_dict_setdefault PySem.F.type_dict_setdefault (thn (ho.run pins s σ H _ I h) fun u s1 ⟨x, H1, I1, rx, a, ex, d, q1⟩ => ?_)
  subst ex
  obtain rfl : u = Value.ref a := rx
  obtain ⟨t1, t2, _⟩ := isD_at I1 d
  refine ⟨t1, t2, ?_⟩
  rw [m.trees]
  refine Calls.callWith_builtin rfl (Calls.evalArgs_plain (Calls.spliced_cons (thn (he.run pins s1 σ H1 _ I1 q1) fun iv s2 ⟨y, H2, I2, ry, q2⟩ =>
    Calls.spliced_cons (thn (hf.run pins s2 σ H2 _ I2 q2) fun fv s3 ⟨z, H3, I3, rz, hc⟩ => Calls.spliced_nil ?_))))
  rcases hc with ⟨kvs, k, ea, ey, hl, q3, q4⟩ | ⟨kvs, k, b, ea, ey, eb, hl, q3, q4⟩
  · subst ey
    exact d_setd I3 ea ry rz hl (fun v hv w' s4 I4 rw' => ⟨v, _, I4, rw', q3 v hv⟩) fun hn w' s4 I4 rw' => ⟨z, _, I4, rw', q4 hn⟩
  · subst ey
    obtain rfl : iv = Value.ref b := ry
    exact d_setdT hu I3 ea eb rz hl (fun v hv w' s4 I4 rw' => ⟨v, _, I4, rw', q3 v hv⟩) fun hn w' s4 I4 rw' => ⟨z, _, I4, rw', q4 hn⟩
end
instance {td ty tx : TE} {σ : L2.St} {H : Hp} {Q : VK} : Go (tSdX td ty tx σ H Q) (td σ H fun x H1 => SdW ty tx σ x H1 Q) := ⟨id⟩
theorem go_sdK {ty tx : TE} {σ : St} {H : Hp} {Q : VK} {a : Addr} {kvs : List (Key × V)} (e : H a = some (.dK kvs)) (h : ty σ H fun y H2 => tx σ H2 fun z H3 => SdX a y z H3 Q) : SdW ty tx σ (.ref a) H Q := ⟨a, rfl, .inl ⟨kvs, .inl e⟩, h⟩
theorem go_sdT {ty tx : TE} {σ : St} {H : Hp} {Q : VK} {a : Addr} {kvs : List (List Key × V)} (e : H a = some (.dT kvs)) (h : ty σ H fun y H2 => tx σ H2 fun z H3 => SdX a y z H3 Q) : SdW ty tx σ (.ref a) H Q := ⟨a, rfl, .inr ⟨kvs, .inl e⟩, h⟩
section
variable {F : Hp} {L R : Cells} {H : Hp} {a b : Addr} {z v : V} {Q : VK}
/-- the key is there -/
theorem go_sdThere {kvs : List (List Key × V)} (k : List Key) (st : Sta F L H) (p : L.Perm ((a, .dT kvs) :: R)) (eb : F b = some (.tup (k.map kV))) (s : kvs.length ≤ 100000) (e : valV kvs k = some v) (h : Q v H) : SdX a (.ref b) z H Q :=
  .inr ⟨kvs, k, b, (st.perm p).get (.head _), rfl, st.of eb, Nat.lt_of_le_of_lt s (by decide), fun w hw => (by rw [e] at hw; cases hw; exact h), fun hn => (by rw [e] at hn; cases hn)⟩
theorem go_sdNew {kvs : List (List Key × V)} (k : List Key) (st : Sta F L H) (p : L.Perm ((a, .dT kvs) :: R)) (eb : F b = some (.tup (k.map kV))) (s : kvs.length ≤ 100000) (e : valV kvs k = none) (h : ∀ H', Sta F ((a, .dT (kvs ++ [(k, z)])) :: R) H' → Q z H') : SdX a (.ref b) z H Q :=
  .inr ⟨kvs, k, b, (st.perm p).get (.head _), rfl, st.of eb, Nat.lt_of_le_of_lt s (by decide), fun w hw => (by rw [e] at hw; cases hw), fun _ => (by
    have : putK kvs k z = kvs ++ [(k, z)] := by
      unfold putK
      rw [if_neg]
      intro c
      rw [List.any_eq_true] at c
      obtain ⟨x, mx, hx⟩ := c
      have hx := of_decide_eq_true hx
      unfold valV at e
      cases q : kvs.find? fun kv => decide (kv.1 = k) with
      | none => exact absurd (List.find?_eq_none.mp q x mx) (by simp [hx])
      | some y => rw [q] at e; cases e
    rw [this]
    exact h _ (st.put p rfl))⟩
theorem go_sdThereK {kvs : List (Key × V)} (k : Key) (st : Sta F L H) (p : L.Perm ((a, .dK kvs) :: R)) (s : kvs.length ≤ 100000) (e : valV kvs k = some v) (h : Q v H) : SdX a (kV k) z H Q :=
  .inl ⟨kvs, k, (st.perm p).get (.head _), rfl, Nat.lt_of_le_of_lt s (by decide), fun w hw => (by rw [e] at hw; cases hw; exact h), fun hn => (by rw [e] at hn; cases hn)⟩
theorem go_sdNewK {kvs : List (Key × V)} (k : Key) (st : Sta F L H) (p : L.Perm ((a, .dK kvs) :: R)) (s : kvs.length ≤ 100000) (e : valV kvs k = none) (h : ∀ H', Sta F ((a, .dK (kvs ++ [(k, z)])) :: R) H' → Q z H') : SdX a (kV k) z H Q :=
  .inl ⟨kvs, k, (st.perm p).get (.head _), rfl, Nat.lt_of_le_of_lt s (by decide), fun w hw => (by rw [e] at hw; cases hw), fun _ => (by
    have : putK kvs k z = kvs ++ [(k, z)] := by
      unfold putK
      rw [if_neg]
      intro c
      rw [List.any_eq_true] at c
      obtain ⟨x, mx, hx⟩ := c
      have hx := of_decide_eq_true hx
      unfold valV at e
      cases q : kvs.find? fun kv => decide (kv.1 = k) with
      | none => exact absurd (List.find?_eq_none.mp q x mx) (by simp [hx])
      | some y => rw [q] at e; cases e
    rw [this]
    exact h _ (st.put p rfl))⟩
end
/-! ### d.items() where the keys are tuples; the dict locked -/
def Itit (d : Addr) (o : Obj) (kvs : List (List Key × V)) : It :=
  ⟨fun i H => H d = some (.frz o (.dT kvs)) ∧ i < kvs.length, fun i H x H' => ∃ T k v q, kvs[i]? = some (k, v) ∧ H q = some (.tup (k.map kV)) ∧ x = .ref T ∧ H T = none ∧ H' = upd H T (.tup [.ref q, v]), fun i H => H d = some (.frz o (.dT kvs)) ∧ kvs.length ≤ i⟩
section
variable {X : Cx} {pins : List (Addr × Obj)} {σ : St} {H : Hp} {s : Shared} {d : Addr} {o : Obj}
theorem Inv.frzTV {kvs : List (List Key × V)} (I : Inv X pins σ H s) (h : H d = some (.frz o (.dT kvs))) :
    (d == sysModules) = false ∧ s.heap.get? d = some o ∧ o.ExactDict ∧ ∃ (es : Array DictEntry) (ep : Nat), o.data = .dict es ep ∧ es.size = kvs.length ∧
      ∀ (i : Nat) (k : List Key) (v : V), kvs[i]? = some (k, v) → ∃ (en : DictEntry) (q : Addr), es[i]? = some en ∧ en.key = .ref q ∧ H q = some (.tup (k.map kV)) ∧ RelV v en.val := by
  obtain ⟨hd, z, hs, xs, pr, o', es, ep, ho, hx, hdt, he, _⟩ := I.hok d _ h
  rw [hd] at ho
  cases ho
  refine ⟨hs, hd, hx, es, ep, hdt, ?_, fun i k v e => ?_⟩
  · have l1 : es.size = xs.length := size_of_entries he
    have l2 : kvs.length = xs.length := Paired.length pr
    omega
  · obtain ⟨b, hb, e1, e2, e3⟩ := paired_get pr e
    have q := entry_at he i
    rw [hb] at q
    exact ⟨_, b.2.1, q, rfl, e2, e3⟩
end
end L2.A

namespace L2.A
open PySem PySem.Spec PyProof.Rows
section
variable {P : Program} {w : World} {K : PySem.W.Frag} {d : Addr} {o : Obj} {es : Array DictEntry} {ep : Nat}
theorem turn_itemsT {kvs : List (List Key × V)} {elts : List Expr} {kk : Nat} {tpos : Pos} (it : Addr) (hod : o.data = .dict es ep) :
    Turn P w K (.Tuple elts kk tpos) (Itit d o kvs) [it] it (fun i h => ∃ ok ov, IsItemIter h it d i kvs.length ep ok ov) where
  mem := by simp
  obj := fun i h st b hb => by
    have e : b = it := by simpa using hb
    subst e
    obtain ⟨ok, ov, e⟩ := st
    exact ⟨_, e, fun v z => nomatch z⟩
  keep := fun i h h' st k => let ⟨ok, ov, e⟩ := st; ⟨ok, ov, k it (by simp) _ e⟩
  item := by
    intro X hP hw hK hc i pins s σ H E I hf st hg
    subst hP hw hK
    obtain ⟨hd, hi⟩ := hg
    obtain ⟨hs, hgd, hx, es', ep', hdt, hsz, ent⟩ := Inv.frzTV I hd
    obtain ⟨rfl, rfl⟩ := dict_ep hod hdt
    obtain ⟨⟨k, v⟩, hkv⟩ : ∃ p, kvs[i]? = some p := ⟨kvs[i], List.getElem?_eq_getElem hi⟩
    obtain ⟨en, q, hen, hkey, hq, ru⟩ := ent i k v hkv
    obtain ⟨ok, ov, he⟩ := st
    have he2 := he
    rw [← hsz] at he2
    have hlt : it < s.heap.objs.size := Heap.lt_size he
    have hi' : i < es'.size := by rw [hsz]; exact hi
    have een : es'[i] = en := by rw [Array.getElem?_eq_getElem hi'] at hen; exact Option.some.inj hen
    refine DT.nextI he2 ⟨o, hgd, hx, hdt⟩ hi' fun h' ho hT hz hk => ?_
    rw [een] at ho hT
    refine ⟨_, rfl, wpAny_letOwnedTupleGo_items (s := { s with heap := h' }) ho fun h'' he' sb => ?_⟩
    have hT2 : h''.get? s.heap.objs.size = some { cls := .type "tuple", data := .seq #[en.key, en.val] } := (sb.2 _ (Nat.ne_of_gt hlt)).trans hT
    have new : ObjOk X.prog X.w (upd H s.heap.objs.size (.tup [.ref q, v])) h'' s.heap.objs.size (.tup [.ref q, v]) :=
      ⟨by show 2 ≤ sizeLine; decide, [en.key, en.val], .cons hkey (.cons ru .nil), ⟨_, hT2, rfl, _, rfl⟩⟩
    have I1 : Inv X pins σ (upd H s.heap.objs.size (.tup [.ref q, v])) { s with heap := h'' } :=
      I.turnedNew (t' := s.toks) (ch := [it]) (fun b ob hb e => (sb.2 b (by simpa using hb)).trans (hk b ob (by simpa using hb) e)) hf (Nat.le_refl _) new
    refine ⟨.ref s.heap.objs.size, _, I1, rfl, ⟨_, k, v, q, hkv, hq, rfl, I.hok.fresh (Nat.le_refl _), rfl⟩, ⟨en.key, en.val, ?_⟩, fun b hb => ?_⟩
    · rw [← hsz]; exact he'
    · have e : b = it := by simpa using hb
      rw [e, upd_ne (Nat.ne_of_lt hlt)]
      exact (hf it (by simp)).1
  done := by
    intro X hP hw hK hc i pins s σ H E I hf st hg
    subst hP hw hK
    obtain ⟨hd, hi⟩ := hg
    obtain ⟨f0, f1, f2, f3, f4, f5⟩ := hf it (by simp)
    obtain ⟨hs, hgd, hx, es', ep', hdt, hsz, ent⟩ := Inv.frzTV I hd
    obtain ⟨rfl, rfl⟩ := dict_ep hod hdt
    obtain ⟨ok, ov, he⟩ := st
    rw [← hsz] at he
    exact DT.endI (I.ok.hd hc) he ⟨o, hgd, hx, hdt⟩ (by rw [hsz]; exact hi) fun h' eb => ⟨rfl, I.turned (t' := s.toks) (fun b ob hb e => eb b ob hb e) f0 f1 f3 f4 f5⟩
  self := fun A i s Q E st h => let ⟨_, _, e⟩ := st; PySem.W.kcp_self e h
end
def ItmW (x : V) (H1 : Hp) (R : It → Hp → Prop) : Prop := ∃ d o, x = .ref d ∧ ((∃ kvs, H1 d = some (.frz o (.dK kvs)) ∧ R (Iti d o kvs) H1) ∨ ∃ kvs, H1 d = some (.frz o (.dT kvs)) ∧ R (Itit d o kvs) H1)
def iItemsX (td : TE) : TI := fun σ H R => td σ H fun x H1 => ItmW x H1 R
section
variable {X : Cx} {e : Expr} {td : TE} {apos cpos : Pos}
theorem pi_itemsX {elts : List Expr} {kk : Nat} {tpos : Pos} (he : PE X e td) (hbase : attributeBase e "items" X.env (eval e X.env) = eval e X.env := by rfl) (hline : (apos.endLine == cpos.line) = true := by rfl) :
    PI X (.Tuple elts kk tpos) (.Call (.Attribute e "items" apos) [] [] cpos) (iItemsX td) := by
  refine ⟨fun pins s σ H R I h => ?_⟩
  refine wpAny_Call_method (T := "dict") (id := "dict.items") hbase rfl hline F.plainAttrs_dict F.slot_dict_items F.type_dict_items (thn (he.run pins s σ H _ I h) fun u s1 ⟨x, H1, I1, rx, d, o, ex, hcase⟩ => ?_)
  subst ex
  obtain rfl : u = Value.ref d := rx
  rcases hcase with ⟨kvs, hd, q⟩ | ⟨kvs, hd, q⟩
  · obtain ⟨hs, hgd, hx, es, ep, vs, hdt, hsz, kv, hm⟩ := I1.frzK hd
    have hl : kvs.length = vs.length := Paired.length kv
    refine ⟨hm.dictOf.typeIs, hm.dictOf.mapOf.noDict, ?_⟩
    have I2 : Inv X pins σ H1 { s1 with heap := s1.heap.push { cls := .type "dict_items", data := .fields #[.ref d] } } := I1.kept (t' := s1.toks) fun b ob q => Heap.get?_push_of_some _ q
    have fin : wpAny (model X.prog X.w) X.A (pyIter (.ref s1.heap.objs.size)) (PIE X pins σ (.Tuple elts kk tpos) R) X.xe { s1 with heap := s1.heap.push { cls := .type "dict_items", data := .fields #[.ref d] } } := by
      refine wpAny_pyIter_items (d := d) (knd := mixKind X.prog X.w) ⟨_, Heap.get?_push_size _ rfl, rfl, rfl⟩ (hm.push _) (pi_one (tk := s1.toks) I2 _ (turn_items _ hdt) ⟨.none, .none, ?_⟩ q)
      rw [hl]
      exact Heap.get?_push_size _ rfl
    show wpAny _ _ (callWith cpos (.builtin "dict.items") [.ref d] [] []) _ X.xe s1
    exact method_meetsIn F.slot_dict_items F.entry_dict_items rfl (PySem.evalArgs_none ⟨rfl, hm.dictOf.typeIs, F.args_dict_items_1 _, _, meets_dict_items (mixKind X.prog X.w) d hs, ⟨vs, hm.dictOf⟩, fin⟩)
  · obtain ⟨hs, hgd, hx, es, ep, hdt, hsz, ent⟩ := Inv.frzTV I1 hd
    have hm : DT.Raw s1.heap d es ep := ⟨o, hgd, hx, hdt⟩
    refine ⟨hm.typeIs, (fun b q => by cases q; exact ⟨o, hgd, hx.2.1⟩), ?_⟩
    have I2 : Inv X pins σ H1 { s1 with heap := s1.heap.push { cls := .type "dict_items", data := .fields #[.ref d] } } := I1.kept (t' := s1.toks) fun b ob q => Heap.get?_push_of_some _ q
    have fin : wpAny (model X.prog X.w) X.A (pyIter (.ref s1.heap.objs.size)) (PIE X pins σ (.Tuple elts kk tpos) R) X.xe { s1 with heap := s1.heap.push { cls := .type "dict_items", data := .fields #[.ref d] } } := by
      refine DT.iterI (d := d) (es := es) (ep := ep) ⟨_, Heap.get?_push_size _ rfl, rfl, rfl⟩ (hm.push _) (pi_one (tk := s1.toks) I2 _ (turn_itemsT _ hdt) ⟨.none, .none, ?_⟩ q)
      rw [← hsz]
      exact Heap.get?_push_size _ rfl
    show wpAny _ _ (callWith cpos (.builtin "dict.items") [.ref d] [] []) _ X.xe s1
    exact method_meetsIn F.slot_dict_items F.entry_dict_items rfl (PySem.evalArgs_none ⟨rfl, hm.typeIs, F.args_dict_items_1 _, _, DT.meetsItems (es := es) (ep := ep) hs, hm, fin⟩)
end
instance {td : TE} {σ : L2.St} {H : Hp} {R : It → Hp → Prop} : Go (iItemsX td σ H R) (td σ H fun x H1 => ItmW x H1 R) := ⟨id⟩
/-! ### a dict under lock while it is walked -/
section
variable {F : Hp} {L R : Cells} {H : Hp} {d : Addr} {u : HO} {σ : L2.St} {Q : VK}
theorem go_lockE {t : TE} (st : Sta F L H) (p : L.Perm ((d, u) :: R)) (m : Mut (some u)) (h : ∀ od H', Sta F ((d, .frz od u) :: R) H' → t σ H' fun v H'' => H'' d = some (.frz od u) ∧ Q v (upd H'' d u)) : tLockE t σ H Q :=
  ⟨d, u, (st.perm p).get (.head _), m, fun od => h od _ (st.put p rfl)⟩
theorem go_lockS {t : TS} {D : Ends} (st : Sta F L H) (p : L.Perm ((d, u) :: R)) (m : Mut (some u)) (h : ∀ od H', Sta F ((d, .frz od u) :: R) H' → t ⟨fun σ' H' => H' d = some (.frz od u) ∧ D.nx σ' (upd H' d u), fun v H' => H' d = some (.frz od u) ∧ D.rt v (upd H' d u), fun σ' H' => H' d = some (.frz od u) ∧ D.bk σ' (upd H' d u), fun σ' H' => H' d = some (.frz od u) ∧ D.ct σ' (upd H' d u)⟩ σ H') : tLock t D σ H :=
  ⟨d, u, (st.perm p).get (.head _), m, fun od => h od _ (st.put p rfl)⟩
/-- behind the lock -/
theorem go_unlk {od : Obj} {A : Hp → Prop} (st : Sta F L H) (p : L.Perm ((d, .frz od u) :: R)) (m : isMutB u = true) (h : ∀ H', Sta F ((d, u) :: R) H' → A H') : H d = some (.frz od u) ∧ A (upd H d u) :=
  ⟨(st.perm p).get (.head _), h _ (st.put p m)⟩
end
/-! ### walks of locked dicts -/
theorem walk_itemsT {d : Addr} {o : Obj} {kvs : List (List Key × V)} : Walk (Itit d o kvs) kvs.length (fun H => H d = some (.frz o (.dT kvs)))
    (fun i H x H' => ∃ T k v q, kvs[i]? = some (k, v) ∧ H q = some (.tup (k.map kV)) ∧ x = .ref T ∧ H T = none ∧ H' = upd H T (.tup [.ref q, v])) :=
  ⟨fun _ _ hi q => ⟨q, hi⟩, fun _ q => ⟨q, Nat.le_refl _⟩, fun _ _ _ _ _ _ y => y⟩
end L2.A

namespace L2.A
open PySem PySem.Spec PyProof.Rows
instance {σ : L2.St} {H : Hp} {Q : VK} : Go (tDNewT σ H Q) (NewO (HO.dT []) H Q) := ⟨id⟩
instance {x0 x1 x2 x3 x4 x5} : More (SdW x0 x1 x2 x3 x4 x5) := ⟨id⟩
end L2.A

namespace L2.A
open PySem PySem.Spec PyProof.Rows
/-! ### x not in l where the items are data -/
section
variable {X : Cx}
def rNotInE (K : PySem.W.Frag) : R2 := fun x y H Q => ∃ d ds, Dp K H x d ∧ Dp K H y (.list ds) ∧ d.canLay0 = true ∧ d.depth ≤ 60 ∧ PyData.canLayAll0 ds = true ∧ Q (.bl (!(ds.any fun z => PyData.eqv z d))) H
theorem op_notInE (hu : X.A.units + 64 < cLine) : OpR X (compareOp .NotIn) (rNotInE X.K) := by
  intro pins s σ H x y v u Q I rx ry h
  obtain ⟨d, ds, hd, he, sd, dd, se, q⟩ := h
  obtain ⟨as, r1⟩ := Dp.reads I d x v hd rx
  obtain ⟨bs, r2⟩ := Dp.reads I (.list ds) y u he ry
  refine SeqAt.notIn_list_reads r2 r1 se sd ?_ ⟨.bl _, H, I, rfl, q⟩
  have := Nat.min_le_right (PyData.depthAll ds) d.depth
  omega
theorem go_notInE {K : PySem.W.Frag} {H : Hp} {Q : VK} {x y : V} {d : PyData} {ds : List PyData} (hx : Dp K H x d) (hy : Dp K H y (.list ds)) (s1 : d.canLay0 = true) (s2 : d.depth ≤ 60) (s3 : PyData.canLayAll0 ds = true) (h : Q (.bl (!(ds.any fun z => PyData.eqv z d))) H) : rNotInE K x y H Q := ⟨d, ds, hx, hy, s1, s2, s3, h⟩
end
end L2.A


namespace L2.A
open PySem PySem.Spec PyProof.Rows
/-! ### set(xs), xs a list of ints, so that it can be walked and sorted -/
section
variable {P : Program} {w : World} {A : Around} {E : Value → Shared → Prop} {s : Shared}
theorem code_setL (a : Value) {Q₁ : Value → Shared → Prop}
    (h : Q₁ (.ref s.heap.objs.size) { s with heap := s.heap.push { cls := .type "set", dict := none, data := .set #[] 0 (.fresh 0 0 (!w.params.followText "set-order")) } }) :
    codeAny (model P w) A (.call (.builtin "set.__new__") ⟨[.type "set", a], []⟩) (wants Q₁ E) s := by
  refine codeAny_of_tree ?_
  show wpAny _ A.in1 (do checkBuiltinCall "set.__new__" ⟨[.type "set", a], []⟩; again (.builtin "set.__new__" ⟨[.type "set", a], []⟩)) _ _ s
  refine wpAny_bind (wpAny_of_eq (PySem.F.newCall_set_1 a) (wpAny_pure ⟨plainId_quiet PySem.F.plain_set_new _, codeAny_builtin PySem.F.entry_set_new ?_⟩))
  rw [Around.under_plainId PySem.F.plain_set_new _]
  unfold Builtin.«set.__new__» Builtin.Frozenset.newClass
  have hsub := sub_set_self
  obtain ⟨hp, g, d, tk, os⟩ := s
  dsimp only
  wp_walk
  refine wpAny_askSetting (wpAny_pure ?_)
  dsimp only
  simp only [newObj]
  refine wpAny_bind (wpAny_alloc (wpAny_pure ?_))
  exact wpAny_pure h
end
section
variable {prog : Program} {w : World} {A : Around} {R : Result → Shared → Prop} {I : Addr} {fp wr : List Addr} {G : Array GenState → Array GenState → Prop} {n : Nat} {P : Nat → Value → Prop} {St : Nat → Shared → Prop}
theorem loop_setR (W : WalksS prog w A.in1 I fp wr G n P St) (S : Addr) (hSf : S ∉ fp) (val : Nat → Int) (hval : ∀ i v, P i v → ∃ t, v = .int (val i) t) (hb : n + 1 < scanBound) :
    ∀ (k i : Nat) (s : Shared), n - i = k → i ≤ n → St i s → SetR w s.heap S (fun k' => (firstMet val i).any (· == k')) (firstMet val i).length →
      (∀ s', Moved (S :: wr) G s s' → SetR w s'.heap S (fun k' => (firstMet val n).any (· == k')) (firstMet val n).length → R (.ok (.ret .none)) s') →
      codeAny (model prog w) A (.builtin "set.update.loop" ⟨[.ref S, .ref I], []⟩) R s := by
  have hSw : S ∉ wr := fun h => hSf (W.sub _ h)
  have hsub : ∀ b ∈ wr, b ∈ S :: wr := fun b hb => List.mem_cons_of_mem _ hb
  intro k
  induction k with
  | zero =>
    intro i s hk hi hst hS hR
    have hin : i = n := by omega
    subst hin
    refine codeAny_builtin PyProof.Rows.F.entry_set_update_loop ?_
    rw [Around.under_plainId PyProof.Rows.F.plain_set_update_loop _]
    show wpAny _ A.in1 (pyNext (.ref I) >>= _) _ _ s
    refine wpAny_bind (W.done s _ _ hst fun s' hm => ?_)
    show wpAny _ A.in1 (ret Value.none) _ _ s'
    exact wpAny_pure (hR s' (hm.mono hsub) (hS.at fun o ho => hm.heap S _ hSw ho))
  | succ k ih =>
    intro i s hk hi hst hS hR
    have hlt : i < n := by omega
    refine codeAny_builtin PyProof.Rows.F.entry_set_update_loop ?_
    rw [Around.under_plainId PyProof.Rows.F.plain_set_update_loop _]
    show wpAny _ A.in1 (pyNext (.ref I) >>= _) _ _ s
    refine wpAny_bind (W.item i s _ _ hlt hst fun v s' hP hst' hm => ?_)
    obtain ⟨t, rfl⟩ := hval i v hP
    have hS' : SetR w s'.heap S (fun k' => (firstMet val i).any (· == k')) (firstMet val i).length := hS.at fun o ho => hm.heap S _ hSw ho
    show wpAny _ A.in1 (holding [Value.int (val i) t] (setAdd S (.int (val i) t)) >>= _) _ _ s'
    refine wpAny_bind (wpAny_holding ?_)
    unfold setAdd
    refine wpAny_holding ?_
    refine wpAny_bind ((intKind prog w).pyHash (k := val i) (intKind_is _ _ _ _) ?_)
    have hroom : (firstMet val i).length + 1 < scanBound := by have := firstMet_length_le val i; omega
    refine setR_add_hashed (s := { s' with toks := s'.toks + 1 }) hS' hroom fun h' hsb hS2 => ?_
    have hSi : SetR w h' S (fun k' => (firstMet val (i + 1)).any (· == k')) (firstMet val (i + 1)).length := by
      have q := hS2.congr (S' := fun k' => (firstMet val (i + 1)).any (· == k')) fun k' => by rw [firstMet_succ, step_any]
      rw [firstMet_succ, step_length] at *
      exact q
    refine wpAny_pure ⟨plainId_quiet PyProof.Rows.F.plain_set_update_loop _, ih (i + 1) _ (by omega) hlt (W.frame _ s' _ _ hst' (Nat.le_succ _) fun b hb o e => ?_) hSi fun s'' hm'' hS'' => ?_⟩
    · rw [hsb.2 b (fun h : b = S => hSf (by rw [← h]; exact hb))]; exact e
    · refine hR s'' (Moved.trans W.gtrans ((hm.mono hsub).then_heap (Nat.le_succ _) fun b o hb e => ?_) hm'') hS''
      rw [hsb.2 b (fun h : b = S => hb (by rw [h]; exact List.mem_cons_self))]; exact e
end
section
variable {prog : Program} {w : World} {A : Around} {E : Value → Shared → Prop} {s : Shared}
set_option maxRecDepth 100000 in
set_option maxHeartbeats 3200000 in
theorem call_setR {l : Addr} {items : Array Value} {ns : List Int} {Q : Value → Shared → Prop}
    (hh : A.handled = none) (hl : s.heap.IsList l items) (hi : PyProof.Rows.IntsAre items.toList ns) (hb : items.size + 1 < scanBound)
    (h : ∀ (h' : Heap) (tk : Nat), SetR w h' s.heap.objs.size (fun k' => (firstMet (fun i => ns.getD i 0) items.size).any (· == k')) (firstMet (fun i => ns.getD i 0) items.size).length →
      (∀ b o, b < s.heap.objs.size → s.heap.get? b = some o → h'.get? b = some o) → Q (.ref s.heap.objs.size) { s with heap := h', toks := tk }) :
    wpAny (model prog w) A (call (.type "set") [.ref l]) Q E s := by
  obtain ⟨c, tl, hmro⟩ := PySem.F.called_set.mro
  have hmade := PySem.F.called_set.made
  have hsub := PySem.F.called_set.sub
  refine wpAny_call (codeAny_of_tree ?_)
  show wpAny _ _ (callAny (.type "set") _) _ _ _
  refine wpAny_pure ⟨Code.quiet_builtin _ (by decide +kernel), codeAny_builtin PySem.F.entry_type_call ?_⟩
  rw [Around.under_plain (weight_type_call_type "set" [.ref l] []) rfl]
  have h1 := PySem.F.called_set.notType
  have h2 := PySem.F.called_set.canCreate
  have hct := PySem.F.typeCall_set_1 (.ref l)
  repeat (any_goals (first | assumption | wp_step))
  generalize hled : (!w.params.followText "set-order") = led
  refine codeAny_mono (code_setL (.ref l) (E := E) (Q₁ := fun obj s₁ => obj = .ref s.heap.objs.size ∧ s₁ = { s with heap := s.heap.push { cls := .type "set", dict := none, data := .set #[] 0 (.fresh 0 0 led) } }) ⟨rfl, by rw [hled]⟩) fun r s₁ hr => ?_
  cases r with
  | error e => exact hr
  | ok fl =>
    cases fl with
    | ret obj =>
      obtain ⟨rfl, rfl⟩ := hr
      have hS : (s.heap.push { cls := .type "set", dict := none, data := .set #[] 0 (.fresh 0 0 led) }).get? s.heap.objs.size = some { cls := .type "set", dict := none, data := .set #[] 0 (.fresh 0 0 led) } := Heap.get?_push_size _ rfl
      have hT : Shared.TypeIs { s with heap := s.heap.push { cls := .type "set", dict := none, data := .set #[] 0 (.fresh 0 0 led) } } (.ref s.heap.objs.size) "set" := ⟨_, hS, rfl⟩
      have hli := PySem.F.called_set.init.lookup
      have hbi := PySem.F.called_set.init.bind (.ref s.heap.objs.size)
      repeat (any_goals (first | assumption | wp_step))
      refine codeAny_mono (codeAny_call_builtin (R := wants (fun r s₂ => r = .none ∧ ∃ h' tk, s₂ = { s with heap := h', toks := tk } ∧
          SetR w h' s.heap.objs.size (fun k' => (firstMet (fun i => ns.getD i 0) items.size).any (· == k')) (firstMet (fun i => ns.getD i 0) items.size).length ∧
          (∀ b o, b < s.heap.objs.size → s.heap.get? b = some o → h'.get? b = some o)) E) PySem.F.called_set.init.plain PySem.F.entry_set_init (check_set_init_1 hT ?_)) fun r₂ s₂ hr₂ => ?_
      · obtain ⟨ol, hol, hcl, nl, hdl⟩ := hl
        obtain ⟨ocls, odict, odata, oslots⟩ := ol
        simp only at hcl hdl
        subst hcl; subst hdl
        have hol' : (s.heap.push { cls := .type "set", dict := none, data := .set #[] 0 (.fresh 0 0 led) }).get? l = some { cls := .type "list", dict := odict, data := .seq items nl, slots := oslots } := Heap.get?_push_of_some _ hol
        have hsls := PySem.F.sub_list_set
        have hslf := PySem.F.sub_list_frozenset
        have hne : (Value.type "list" == Value.type "dict") = false := by decide
        have hl1 : (s.heap.push { cls := .type "set", dict := none, data := .set #[] 0 (.fresh 0 0 led) }).IsList l items := ⟨_, hol', rfl, nl, rfl⟩
        unfold Builtin.«set.__init__» noKeywords Builtin.Frozenset.updateFrom
        generalize hPI : pyIter = PI
        wp_walk
        subst hPI
        refine wpAny_pyIter_list hl1 ?_
        refine wpAny_bind (wpAny_runValue ?_)
        have hlS : l < s.heap.objs.size := Heap.lt_size hol
        have hh3 : A.in1.in1.in1.handled = none := by simp [hh]
        have hneI : l ≠ (s.heap.push { cls := .type "set", dict := none, data := .set #[] 0 (.fresh 0 0 led) }).objs.size := by
          rw [Heap.size_push]; exact Nat.ne_of_lt (Nat.lt_succ_of_lt hlS)
        have hSf : s.heap.objs.size ∉ [(s.heap.push { cls := .type "set", dict := none, data := .set #[] 0 (.fresh 0 0 led) }).objs.size, l] := by
          rw [Heap.size_push]; simp only [List.mem_cons, List.mem_singleton, List.not_mem_nil, or_false, not_or]
          exact ⟨Nat.ne_of_lt (Nat.lt_succ_self _), Nat.ne_of_gt hlS⟩
        have hval : ∀ (i : Nat) (v : Value), items[i]? = some v → ∃ t, v = .int ((fun i => ns.getD i 0) i) t := fun i v hv =>
          PyProof.Rows.IntsAre.int_at hi i v (by rw [Array.getElem?_toList]; exact hv)
        refine loop_setR ((Walks.list hh3 _ l hneI items).toS) s.heap.objs.size
          hSf (fun i => ns.getD i 0) hval hb (items.size - 0) 0 _ (by omega) (Nat.zero_le _)
          ⟨⟨_, Heap.get?_push_size _ rfl, rfl, rfl⟩, (hl1.push _)⟩ ?hS0 ?hR
        case hS0 =>
          have q := setR_fresh (h := s.heap) w
          rw [hled] at q
          exact q.at fun o ho => Heap.get?_push_of_some _ ho
        case hR =>
          intro s' hm hS'
          obtain ⟨h', g', d', tk', os'⟩ := s'
          have eg : g' = s.gens := hm.gens
          have ed : d' = s.drawn := hm.drawn
          have eo : os' = s.os := hm.os
          subst eg; subst ed; subst eo
          show wpAny _ _ _ _ _ _
          refine wpAny_pure ?_
          show wpAny _ _ (ret Value.none) _ _ _
          refine wpAny_pure ⟨rfl, h', tk', rfl, hS', fun b o hb e => ?_⟩
          have hb1 : b ≠ s.heap.objs.size := Nat.ne_of_lt hb
          have hb2 : b ≠ (s.heap.push { cls := .type "set", dict := none, data := .set #[] 0 (.fresh 0 0 led) }).objs.size := by
            rw [Heap.size_push]; exact Nat.ne_of_lt (Nat.lt_succ_of_lt hb)
          exact hm.heap b o (by simp only [List.mem_cons, List.mem_singleton, List.not_mem_nil, or_false, not_or]; exact ⟨hb1, hb2⟩) (Heap.get?_push_of_some _ (Heap.get?_push_of_some _ e))
      · cases r₂ with
        | error e => exact hr₂
        | ok fl₂ =>
          cases fl₂ with
          | ret r =>
            obtain ⟨rfl, h', tk, rfl, hS', hk'⟩ := hr₂
            repeat (any_goals (first | assumption | wp_step))
            exact h _ _ hS' hk'
          | _ => exact hr₂.elim
    | _ => exact hr.elim
end
section
variable {X : Cx}
theorem firstMet_mem {ns : List Int} {k : Int} : (firstMet (fun i => ns.getD i 0) ns.length).any (· == k) = decide (k ∈ ns) := by
  rw [firstMet_any]
  have e : (List.range ns.length).map (fun i => ns.getD i 0) = ns := by
    apply List.ext_getElem?
    intro i
    by_cases c : i < ns.length
    · rw [List.getElem?_map, List.getElem?_range c]
      simp [List.getD_eq_getElem?_getD, List.getElem?_eq_getElem c]
    · rw [List.getElem?_eq_none (by simp; omega), List.getElem?_eq_none (by omega)]
  rw [e]
  by_cases c : k ∈ ns
  · rw [decide_eq_true c, List.any_eq_true]
    exact ⟨k, c, by simp⟩
  · rw [decide_eq_false c, List.any_eq_false]
    intro z mz
    simp
    exact fun q => c (q ▸ mz)
theorem nd_len : ∀ {l ms : List Int}, l.Nodup → (∀ x ∈ l, x ∈ ms) → l.length ≤ ms.length
  | [], _, _, _ => Nat.zero_le _
  | x :: r, ms, nd, h => by
    have nd := List.nodup_cons.mp nd
    have := nd_len (l := r) (ms := ms.erase x) nd.2 fun y m => (List.mem_erase_of_ne (fun e => nd.1 (by rw [← e]; exact m))).mpr (h y (.tail _ m))
    rw [List.length_erase_of_mem (h x (.head _))] at this
    have hp := List.length_pos_of_mem (h x (.head _))
    rw [List.length_cons]
    omega
theorem firstMet_nd (val : Nat → Int) : ∀ i, (firstMet val i).Nodup
  | 0 => List.nodup_nil
  | i + 1 => by
    rw [firstMet_succ]
    unfold step_dedup
    split
    · exact firstMet_nd val i
    · rename_i c
      rw [List.nodup_append]
      refine ⟨firstMet_nd val i, by simp, fun a ma b mb e => c ?_⟩
      rw [List.mem_singleton] at mb
      rw [List.any_eq_true]
      exact ⟨a, ma, by rw [e, mb]; simp⟩
/-- set(xs): its members -/
def rSetL (K : PySem.W.Frag) (w : World) : List V → Hp → VK → Prop := fun vs H Q => ∃ (l : Addr) (ns : List Int), vs = [V.ref l] ∧ SqL K H l (ns.map V.int) ∧ ns.length ≤ 2000 ∧ ∀ p n, H p = none → (∀ ms : List Int, (∀ k ∈ ns, k ∈ ms) → n ≤ ms.length) → Q (.ref p) (upd H p (SetO w p (fun k => decide (k ∈ ns)) n))
theorem cr_setL (hc : X.calm = true) : CallR X (.type "set") (rSetL X.K X.w) := by
  intro pins s σ H vs us Q I r h
  obtain ⟨l, ns, rfl, hs, hz, q⟩ := h
  obtain ⟨its, rv, hl, _⟩ := I.list hs
  rw [Vals.ref1 r]
  have hi := rv.ints
  have hlen := hi.length
  refine call_setR (prog := X.prog) (w := X.w) (I.ok.hd hc) hl.isList (by simpa using hi) (by rw [List.size_toArray]; unfold scanBound; omega) fun h' tk R hk => ?_
  have hsz : its.toArray.size = ns.length := by rw [List.size_toArray]; exact hlen
  rw [hsz] at R
  have R := R.congr (S' := fun k => decide (k ∈ ns)) fun k => firstMet_mem.symm
  have hn : ∀ ms : List Int, (∀ k ∈ ns, k ∈ ms) → (firstMet (fun i => ns.getD i 0) ns.length).length ≤ ms.length := fun ms hm => nd_len (firstMet_nd _ _) fun k mk => hm k (by
    have := firstMet_mem (ns := ns) (k := k)
    rw [List.any_eq_true.mpr ⟨k, mk, by simp⟩] at this
    exact of_decide_eq_true this.symm)
  exact ⟨.ref _, upd H s.heap.objs.size (SetO X.w s.heap.objs.size (fun k => decide (k ∈ ns)) _), I.laid (t' := tk) (fun b ob e => hk b ob (Heap.lt_size e) e) (Nat.le_refl _) (setO_new R), rfl, q _ _ (I.hok.fresh (Nat.le_refl _)) hn⟩
end
end L2.A

namespace L2.A
open PySem PySem.Spec PyProof.Rows
/-! ### sum of a list or a tuple of numbers -/
section
variable {X : Cx} {K : PySem.W.Frag}
def rSumT (K : PySem.W.Frag) : List V → Hp → VK → Prop := fun vs H Q => ∃ (a : Addr) (ns : List Int), vs = [V.ref a] ∧ SqT K H a (ns.map V.int) ∧ Q (.int ns.sum) H
theorem cr_sumT (hc : X.calm = true) : CallR X (.builtin "sum") (rSumT X.K) := by
  intro pins s σ H vs us Q I r h
  obtain ⟨a, ns, rfl, hs, q⟩ := h
  obtain ⟨its, rv, ht, _⟩ := I.tuple hs
  rw [Vals.ref1 r]
  have hi := rv.ints
  obtain ⟨xs, e⟩ := hi.allInts.items
  have hn : numsOf (intItems xs).toList = ns := by rw [← e]; exact hi.numsOf
  rw [nums_intItems] at hn
  rw [e] at ht
  refine PySem.W.ktm_sumG (I.ok.hd hc) ht fun h' tk t' hk => ?_
  rw [preSum_eq, List.take_of_length_le (by simp), hn]
  exact ⟨.int _, H, I.kept hk, ⟨_, rfl⟩, q⟩
def rSumX (K : PySem.W.Frag) : List V → Hp → VK → Prop := fun vs H Q => rSum K vs H Q ∨ rSumT K vs H Q
theorem cr_sumX (hc : X.calm = true) : CallR X (.builtin "sum") (rSumX X.K) := fun pins s σ H vs us Q I r h => h.elim (cr_sum hc pins s σ H vs us Q I r) (cr_sumT hc pins s σ H vs us Q I r)
theorem cr_sumXK (hK : X.K = K) (hc : X.calm = true) : CallR X (.builtin "sum") (rSumX K) := hK ▸ cr_sumX hc
theorem go_sumXL {H : Hp} {Q : VK} {l : Addr} {ns : List Int} (hS : SqL K H l (ns.map V.int)) (h : Q (.int ns.sum) H) : rSumX K [.ref l] H Q := .inl ⟨l, ns, rfl, hS, h⟩
theorem go_sumXT {H : Hp} {Q : VK} {l : Addr} {ns : List Int} (hS : SqT K H l (ns.map V.int)) (h : Q (.int ns.sum) H) : rSumX K [.ref l] H Q := .inr ⟨l, ns, rfl, hS, h⟩
end
end L2.A

namespace L2.A
open PySem PySem.Spec PyProof.Rows
/-! ### list(zip(a, b)), two lists -/
section
variable {X : Cx} {pins : List (Addr × Obj)} {σ : L2.St} {a b z TI TO i1 i2 q : Addr} {xs ys : List V}
/-- the zip as it stands ahead of item i; its tuple may be held by the list at q -/
structure ZSt (h : Heap) (a b z TI TO i1 i2 q : Addr) (i : Nat) : Prop where
  ti : IsPair h TI (.ref i1) (.ref i2)
  l1 : h.IsListIter i1 a i
  l2 : h.IsListIter i2 b i
  st : (IsZip h z TI TO .none ∧ ∃ x y, IsPair h TO x y) ∨ ∃ T f oT, PySem.IsZipHeld h z TI TO T f ∧ h.get? T = some oT ∧ T ≠ z ∧ T ≠ TO ∧ T ≠ i1 ∧ T ≠ i2 ∧ T ≠ q
structure ZOff (z TI TO i1 i2 q : Addr) : Prop where
  z : z ≠ q
  ti : TI ≠ q
  to : TO ≠ q
  i1 : i1 ≠ q
  i2 : i2 ≠ q
theorem ZSt.keep {h h' : Heap} {i : Nat} (s : ZSt h a b z TI TO i1 i2 q i) (o : ZOff z TI TO i1 i2 q) (k : ∀ c u, c ≠ q → h.get? c = some u → h'.get? c = some u) : ZSt h' a b z TI TO i1 i2 q i :=
  ⟨k _ _ o.ti s.ti, s.l1.at fun u e => k _ u o.i1 e, s.l2.at fun u e => k _ u o.i2 e, s.st.imp (fun ⟨e, x, y, p⟩ => ⟨k _ _ o.z e, x, y, k _ _ o.to p⟩) fun ⟨T, f, oT, e, eT, n1, n2, n3, n4, n5⟩ => ⟨T, f, oT, k _ _ o.z e, k _ _ n5 eT, n1, n2, n3, n4, n5⟩⟩
theorem z5 {c : Addr} (h : c ∈ [z, TI, TO, i1, i2]) : c = z ∨ c = TI ∨ c = TO ∨ c = i1 ∨ c = i2 := by simpa using h
theorem loopZ {A1 : Around} (D : ZipApart z TI TO i1 i2 a b) (O : ZOff z TI TO i1 i2 q) (hh : A1.in1.handled = none) (hlen : xs.length = ys.length) (hsz : xs.length < sizeLine) {H0 : Hp} {Rs : Result → Shared → Prop}
    (hdone : ∀ (ts : List Addr) (H : Hp) (s : Shared), Inv X pins σ H s → ts.length = xs.length → H q = some (.lst (ts.map V.ref)) → (∀ c o, c ≠ q → H0 c = some o → H c = some o) → (∀ (j : Nat) t, ts[j]? = some t → ∃ x y, xs[j]? = some x ∧ ys[j]? = some y ∧ H t = some (.tup [x, y])) → Rs (.ok (.ret .none)) s) :
    ∀ (k i : Nat) (ts : List Addr) (H : Hp) (s : Shared), xs.length - i = k → i ≤ xs.length → ts.length = i → Inv X pins σ H s → (∀ c ∈ [z, TI, TO, i1, i2], FpOk X pins H c ∧ c < s.heap.objs.size) → ZSt s.heap a b z TI TO i1 i2 q i → H a = some (.lst xs) → H b = some (.lst ys) → a ≠ q → b ≠ q → H q = some (.lst (ts.map V.ref)) →
      (∀ c o, c ≠ q → H0 c = some o → H c = some o) → (∀ (j : Nat) t, ts[j]? = some t → ∃ x y, xs[j]? = some x ∧ ys[j]? = some y ∧ H t = some (.tup [x, y])) →
      codeAny (model X.prog X.w) A1 (.builtin "list.extend.loop" ⟨[.ref q, .ref z, .none], []⟩) Rs s := by
  intro k
  induction k with
  | zero =>
    intro i ts H s hk hi lt I hf st hqx hqy naq nbq hq hs hp
    refine codeAny_builtin PySem.F.entry_extend_loop ?_
    rw [Around.under_plainId PySem.F.plain_extend_loop _]
    show wpAny _ A1.in1 (pyNext (.ref z) >>= _) _ _ s
    obtain ⟨its, rv, p, _⟩ := I.list (.of hqx)
    obtain ⟨its2, rv2, p2, _⟩ := I.list (.of hqy)
    have l1 := rv.length
    have l2 := rv2.length
    have he : its.toArray[i]? = none ∨ its2.toArray[i]? = none := .inl (by simp; omega)
    have fin : ∀ h', (∀ c o, c ≠ z → c ≠ TO → c ≠ i1 → c ≠ i2 → s.heap.get? c = some o → h'.get? c = some o) → Rs (.ok (.ret .none)) { s with heap := h' } := fun h' hk' =>
      hdone ts H _ (I.turnedL (t' := s.toks) (ch := [z, TI, TO, i1, i2]) (fun c o hb e => hk' c o (fun x => hb (by simp [x])) (fun x => hb (by simp [x])) (fun x => hb (by simp [x])) (fun x => hb (by simp [x])) e) fun c hc => (hf c hc).1) (by omega) hq hs hp
    rcases st.st with ⟨hz, x0, y0, hTO⟩ | ⟨T, f, oT, hz, hT, n1, n2, n3, n4, n5⟩
    · exact wpAny_bind (wpAny_pyNext_zip_end hh D hz st.ti hTO st.l1 st.l2 p.isList p2.isList he fun h' hk' => wpAny_pure (fin h' hk'))
    · exact wpAny_bind (PySem.wpAny_pyNext_zip_end_held hh D hz hT st.ti st.l1 st.l2 p.isList p2.isList he fun h' hk' => wpAny_pure (fin h' fun c o c1 _ c3 c4 e => hk' c o c1 c3 c4 e))
  | succ k ih =>
    intro i ts H s hk hi lt I hf st hqx hqy naq nbq hq hs hp
    refine codeAny_builtin PySem.F.entry_extend_loop ?_
    rw [Around.under_plainId PySem.F.plain_extend_loop _]
    show wpAny _ A1.in1 (pyNext (.ref z) >>= _) _ _ s
    obtain ⟨its, rv, p, _⟩ := I.list (.of hqx)
    obtain ⟨its2, rv2, p2, _⟩ := I.list (.of hqy)
    have hix : i < xs.length := by omega
    have hiy : i < ys.length := by omega
    have ex : xs[i]? = some xs[i] := List.getElem?_eq_getElem hix
    have ey : ys[i]? = some ys[i] := List.getElem?_eq_getElem hiy
    obtain ⟨u, hu, ru⟩ := rv.get ex
    obtain ⟨u2, hu2, ru2⟩ := rv2.get ey
    have hql : q < s.heap.objs.size := by
      obtain ⟨_, its3, n3, _, _, e⟩ := I.lstM hq
      exact Heap.lt_size e
    have lts : ∀ {c}, c ∈ [z, TI, TO, i1, i2] → c < s.heap.objs.size := fun hc => (hf _ hc).2
    have zl := lts (c := z) (by simp)
    have til := lts (c := TI) (by simp)
    have tol := lts (c := TO) (by simp)
    have i1l := lts (c := i1) (by simp)
    have i2l := lts (c := i2) (by simp)
    -- what is common to both states
    have fin : ∀ h', ZSt h' a b z TI TO i1 i2 q (i + 1) → IsPair h' s.heap.objs.size u u2 → h'.objs.size = s.heap.objs.size + 1 → (∀ c o, c ≠ z → c ≠ TO → c ≠ i1 → c ≠ i2 → s.heap.get? c = some o → h'.get? c = some o) →
        wpAny (model X.prog X.w) A1.in1 (updateSeq q (·.push (Value.ref s.heap.objs.size)) >>= fun _ => again (.builtin "list.extend.loop" ⟨[.ref q, .ref z, .none], []⟩))
          (fun fin s' => match fin with | .done f => Rs (.ok f) s' | .again c' => c'.quiet = true ∧ codeAny (model X.prog X.w) A1 c' Rs s') (fun e s' => Rs (.error e) s') { s with heap := h' } := by
      intro h' st' hT hsz' hk'
      have new : ObjOk X.prog X.w (upd H s.heap.objs.size (.tup [xs[i], ys[i]])) h' s.heap.objs.size (.tup [xs[i], ys[i]]) :=
        ⟨by show 2 ≤ sizeLine; decide, [u, u2], .cons ru (.cons ru2 .nil), ⟨_, hT, rfl, _, rfl⟩⟩
      have I1 : Inv X pins σ (upd H s.heap.objs.size (.tup [xs[i], ys[i]])) { s with heap := h' } :=
        I.turnedNew (t' := s.toks) (ch := [z, TI, TO, i1, i2]) (fun c o hb e => hk' c o (fun x => hb (by simp [x])) (fun x => hb (by simp [x])) (fun x => hb (by simp [x])) (fun x => hb (by simp [x])) e) (fun c hc => (hf c hc).1) (Nat.le_refl _) new
      have fr : H s.heap.objs.size = none := I.hok.fresh (Nat.le_refl _)
      have qn : q ≠ s.heap.objs.size := Nat.ne_of_lt hql
      have hq1 : upd H s.heap.objs.size (.tup [xs[i], ys[i]]) q = some (.lst (ts.map V.ref)) := by rw [upd_ne qn]; exact hq
      obtain ⟨zz, its3, n3, r3, l3, e3⟩ := I1.lstM hq1
      have lts3 : its3.length = i := by rw [← l3, List.length_map]; exact lt
      refine wpAny_bind (wpAny_updateSeq e3 rfl (wpAny_pure ⟨plainId_quiet PySem.F.plain_extend_loop _, ?_⟩) (by rw [List.size_toArray]; omega) (by show (its3.toArray.push _).size ≤ sizeLine + 1; rw [Array.size_push, List.size_toArray]; omega))
      have I2 := I1.lset (f := (·.push (Value.ref s.heap.objs.size))) (its' := its3 ++ [Value.ref s.heap.objs.size]) (ys := (ts ++ [s.heap.objs.size]).map V.ref) (t' := s.toks) hq1 e3 (by simp) (by rw [List.map_append]; exact r3.append (.cons rfl .nil)) (by rw [List.length_map, List.length_append, lt, List.length_singleton]; omega)
      have up : ∀ c o, c ≠ q → h'.get? c = some o → (h'.update q (Obj.mapSeq (·.push (Value.ref s.heap.objs.size)))).get? c = some o := fun c o hc e => (Heap.get?_update_other _ _ (Ne.symm hc)).trans e
      have sm : ∀ c o, c ≠ q → H c = some o → upd (upd H s.heap.objs.size (.tup [xs[i], ys[i]])) q (.lst ((ts ++ [s.heap.objs.size]).map V.ref)) c = some o := fun c o hc e => by
        rw [upd_ne hc, upd_ne (ne_of_none e fr)]; exact e
      refine ih (i + 1) (ts ++ [s.heap.objs.size]) _ _ (by omega) hix (by simp [lt]) I2 (fun c hc => ?_) (st'.keep O fun c o hc e => up c o hc e) (sm _ _ naq hqx) (sm _ _ nbq hqy) naq nbq upd_same (fun c o hc e => sm c o hc (hs c o hc e)) fun j t hj => ?_
      · obtain ⟨⟨f1, f2⟩, f3⟩ := hf c hc
        have ncq : c ≠ q := by
          intro e
          rw [e, hq] at f1; cases f1
        refine ⟨⟨?_, f2⟩, ?_⟩
        · rw [upd_ne ncq, upd_ne (Nat.ne_of_lt f3)]; exact f1
        · show c < (h'.update q _).objs.size
          have : (h'.update q (Obj.mapSeq (·.push (Value.ref s.heap.objs.size)))).objs.size = h'.objs.size := by first | exact Heap.size_update .. | simp [Heap.update]
          rw [this]
          exact Nat.lt_of_lt_of_le f3 (by rw [hsz']; exact Nat.le_succ _)
      · rcases Nat.lt_trichotomy j ts.length with h1 | h1 | h1
        · rw [List.getElem?_append_left h1] at hj
          obtain ⟨x, y, e1, e2, e3⟩ := hp j t hj
          have ntq : t ≠ q := by
            intro e
            rw [e, hq] at e3; cases e3
          exact ⟨x, y, e1, e2, sm t _ ntq e3⟩
        · subst h1
          have ht : s.heap.objs.size = t := by simpa using hj
          subst ht
          refine ⟨xs[i], ys[i], by rw [lt]; exact ex, by rw [lt]; exact ey, ?_⟩
          rw [upd_ne (Ne.symm qn), upd_same]
        · have hnone : (ts ++ [s.heap.objs.size])[j]? = none := List.getElem?_eq_none (by rw [List.length_append, List.length_singleton]; omega)
          rw [hnone] at hj; cases hj
    rcases st.st with ⟨hz, x0, y0, hTO⟩ | ⟨T, f, oT, hz, hT, n1, n2, n3, n4, n5⟩
    · refine wpAny_bind (wpAny_pyNext_zip_item D hz st.ti hTO st.l1 st.l2 p.isList p2.isList (x := u) (y := u2) (by simpa using hu) (by simpa using hu2) fun h' hz' hTO' h1' h2' hT' hsz' hk' => ?_)
      exact fin h' ⟨hk' _ _ D.TIz D.TITO D.TIi1 D.TIi2 st.ti, h1', h2', .inr ⟨_, false, _, hz', hT', Nat.ne_of_gt zl, Nat.ne_of_gt tol, Nat.ne_of_gt i1l, Nat.ne_of_gt i2l, Nat.ne_of_gt hql⟩⟩ hT' hsz' hk'
    · refine wpAny_bind (PySem.wpAny_pyNext_zip_item_held D hz hT st.ti st.l1 st.l2 p.isList p2.isList (x := u) (y := u2) (by simpa using hu) (by simpa using hu2) fun h' hz' h1' h2' hT' hsz' hk' => ?_)
      exact fin h' ⟨hk' _ _ D.TIz D.TIi1 D.TIi2 st.ti, h1', h2', .inr ⟨T, true, oT, hz', hk' _ _ n1 n3 n4 hT, n1, n2, n3, n4, n5⟩⟩ hT' hsz' fun c o c1 _ c3 c4 e => hk' c o c1 c3 c4 e

def LzW (vs : List V) (H1 : Hp) (Q : VK) : Prop := ∃ (a b : Addr) (xs ys : List V), vs = [.ref a, .ref b] ∧ H1 a = some (.lst xs) ∧ H1 b = some (.lst ys) ∧ xs.length = ys.length ∧ xs.length < 100000 ∧
  ∀ (q : Addr) (ts : List Addr) (H' : Hp), H1 q = none → Same H1 H' → H' q = some (.lst (ts.map V.ref)) → ts.length = xs.length → (∀ (j : Nat) t, ts[j]? = some t → ∃ x y, xs[j]? = some x ∧ ys[j]? = some y ∧ H' t = some (.tup [x, y])) → Q (.ref q) H'
def tLzip (ta : TA) : TE := fun σ H Q => ta σ H fun vs H1 => LzW vs H1 Q
theorem nolen_zip : typeLookup (.type "zip") "__len__" = pure none := by rw [typeLookup_type, builtinLookup_eq_fast]; kernel_rfl
theorem nohint_zip : typeLookup (.type "zip") "__length_hint__" = pure none := by rw [typeLookup_type, builtinLookup_eq_fast]; kernel_rfl
theorem pe_lzip {e e2 : Expr} {ta : TA} {p1 p2 pos1 pos2 : Pos} (hc : X.calm = true) (hg : Gl X "list") (hm : X.mg "list" = none) (hgz : Gl X "zip") (hmz : X.mg "zip" = none) (ha : PA X [e, e2] ta)
    (h1 : starEach [.Call (.Name "zip" p2) [e, e2] [] pos2] X.env = [(false, eval (.Call (.Name "zip" p2) [e, e2] [] pos2) X.env)] := by rfl)
    (h2 : starEach [e, e2] X.env = (false, eval e X.env) :: starEach [e2] X.env := by rfl) (h3 : (backTo pos2 (starEach [e2] X.env)).any (·.1) = false := by rfl) :
    PE X (.Call (.Name "list" p1) [.Call (.Name "zip" p2) [e, e2] [] pos2] [] pos1) (tLzip ta) := by
  refine ⟨fun pins s σ H Q I h => ?_⟩
  refine wpAny_Call_Name_kw (ld_blt I hg hm L2.A.boot_list ?_)
  refine PyProof.Rows.callWith_type1 ?_ h1 rfl
  rw [h1]
  show wpAny _ _ (spliced [(false, eval (.Call (.Name "zip" p2) [e, e2] [] pos2) X.env)]) _ _ s
  refine Calls.spliced_cons ?_
  refine Call_ (ld_blt I hgz hmz PyProof.Rows.boot_zip (PyProof.Rows.callWith_type1 (thn (ha.run pos2 pins s σ H _ I h) fun us s1 ⟨vs, H1, I1, r1, q1⟩ => ?_) h2 h3))
  obtain ⟨a, b, xs, ys, ex, hqx, hqy, hlen, hsz, q1⟩ := q1
  subst ex
  cases r1 with
  | cons r rr =>
    cases rr with
    | cons r' rr =>
      cases rr
      cases r
      cases r'
      obtain ⟨its, rv, pl1, _⟩ := I1.list (.of hqx)
      obtain ⟨its2, rv2, pl2, _⟩ := I1.list (.of hqy)
      refine call_zip_2 pl1.isList pl2.isList fun h' hz hTI hTO hi1 hi2 hs5 hk => ?_
      refine Calls.spliced_nil ?_
      have D := PySem.W.ktu_apart s1.heap.objs.size a b pl1.lt pl2.lt
      have I2 : Inv X pins σ H1 { s1 with heap := h' } := I1.kept (t' := s1.toks) hk
      have hle5 : ∀ c ∈ [s1.heap.objs.size + 4, s1.heap.objs.size + 2, s1.heap.objs.size + 3, s1.heap.objs.size, s1.heap.objs.size + 1], s1.heap.objs.size ≤ c ∧ c < h'.objs.size := fun c hcm => by
        rw [hs5]
        rcases z5 hcm with e | e | e | e | e <;> rw [e] <;> exact ⟨by first | exact Nat.le_refl _ | exact Nat.le_add_right _ _, by first | exact Nat.lt_add_of_pos_right (by decide) | exact Nat.add_lt_add_left (by decide) _⟩
      refine callType_codes (Q₁ := fun obj s₁ => obj = .ref h'.objs.size ∧ s₁ = { s1 with heap := h'.push { cls := .type "list", data := .seq #[] } }) PySem.F.called_list (PySem.F.typeCall_list_1 _) PySem.F.entry_list_init
        (code_list_new _ ⟨rfl, rfl⟩) fun obj s₁ h₁ => ?_
      obtain ⟨rfl, rfl⟩ := h₁
      have hS : (h'.push { cls := .type "list", data := .seq #[] }).get? h'.objs.size = some { cls := .type "list", data := .seq #[] } := Heap.get?_push_size _ rfl
      refine ⟨⟨_, hS, rfl⟩, PySem.F.args_list_init_2 _ _, ?_⟩
      have fr : H1 h'.objs.size = none := I2.hok.fresh (Nat.le_refl _)
      have I3 : Inv X pins σ (upd H1 h'.objs.size (.lst [])) { s1 with heap := h'.push { cls := .type "list", data := .seq #[] } } := I2.lnew (its := []) (t' := s1.toks) .nil (Nat.zero_le _)
      show wpAny _ _ (do let old ← Builtin.List.listItems (.ref h'.objs.size); Builtin.List.listUpdate (.ref h'.objs.size) (fun _ => #[]); letGo old.toList.reverse; Builtin.List.listExtendWith (.ref h'.objs.size) (.ref (s1.heap.objs.size + 4)) .none) _ _ _
      refine wpAny_bind ?_
      unfold Builtin.List.listItems
      refine wpAny_bind (wpAny_seqItems hS rfl (wpAny_pure ?_))
      show wpAny _ _ (updateSeq h'.objs.size (fun _ => #[]) >>= fun _ => letGo (#[] : Array Value).toList.reverse >>= fun _ => Builtin.List.listExtendWith (.ref h'.objs.size) (.ref (s1.heap.objs.size + 4)) .none) _ _ _
      refine wpAny_bind (wpAny_updateSeq hS rfl ?_)
      have I4 := I3.lset (f := fun _ => #[]) (its := []) (its' := []) (ys := []) (t' := s1.toks) upd_same hS rfl .nil (Nat.zero_le _)
      rw [upd_upd] at I4
      refine wpAny_bind (wpAny_letGo ?_)
      have up : ∀ c o, c ≠ h'.objs.size → h'.get? c = some o → ((h'.push { cls := .type "list", data := .seq #[] }).update h'.objs.size (Obj.mapSeq fun _ => #[])).get? c = some o := fun c o hc e => (Heap.get?_update_other _ _ (Ne.symm hc)).trans (Heap.get?_push_of_some _ e)
      have hS4 := Heap.get?_update_self (Obj.mapSeq fun _ => (#[] : Array Value)) hS rfl
      generalize hh4 : (h'.push { cls := .type "list", data := .seq #[] }).update h'.objs.size (Obj.mapSeq fun _ => #[]) = h4 at I4 up hS4
      have sz4 : h4.objs.size = h'.objs.size + 1 := by rw [← hh4, Heap.size_update, Heap.size_push]
      have ne5 : ∀ c ∈ [s1.heap.objs.size + 4, s1.heap.objs.size + 2, s1.heap.objs.size + 3, s1.heap.objs.size, s1.heap.objs.size + 1], c ≠ h'.objs.size := fun c hcm => Nat.ne_of_lt (hle5 c hcm).2
      have O : ZOff (s1.heap.objs.size + 4) (s1.heap.objs.size + 2) (s1.heap.objs.size + 3) s1.heap.objs.size (s1.heap.objs.size + 1) h'.objs.size := ⟨ne5 _ (by simp), ne5 _ (by simp), ne5 _ (by simp), ne5 _ (by simp), ne5 _ (by simp)⟩
      have hz4 := up _ _ O.z hz
      clear hh4
      have naq : a ≠ h'.objs.size := ne_of_none hqx fr
      have nbq : b ≠ h'.objs.size := ne_of_none hqy fr
      have key : ∀ (h6 : Heap), (∀ c o, c ≠ h'.objs.size → h4.get? c = some o → h6.get? c = some o) → h4.objs.size ≤ h6.objs.size → Inv X pins σ (upd H1 h'.objs.size (.lst [])) { s1 with heap := h6 } →
          codeAny (model X.prog X.w) X.A.in1 (.builtin "list.extend.loop" ⟨[.ref h'.objs.size, .ref (s1.heap.objs.size + 4), .none], []⟩) (wants (fun r s₂ => r = .none ∧ EP X pins σ Q (.ref h'.objs.size) s₂) X.xe) { s1 with heap := h6 } := by
        intro h6 k6 l6 I6
        have hh1 : X.A.in1.in1.handled = none := I.ok.hd hc
        refine loopZ (A1 := X.A.in1) (H0 := H1) D O hh1 hlen (Nat.lt_of_lt_of_le hsz (by decide)) (fun ts H s' I' lt hq' hs' hp' => ?_) xs.length 0 [] _ _ (Nat.sub_zero _) (Nat.zero_le _) rfl I6 (fun c hcm => ⟨?_, ?_⟩) (ZSt.keep (h := h') ⟨hTI, hi1, hi2, .inl ⟨hz, _, _, hTO⟩⟩ O fun c o hc e => k6 c o hc (up c o hc e)) (by rw [upd_ne naq]; exact hqx) (by rw [upd_ne nbq]; exact hqy) naq nbq upd_same (fun c o hc e => by rw [upd_ne hc]; exact e) (fun j t hj => by simp at hj)
        · have sm : Same H1 H := fun c o e => hs' c o (ne_of_none e fr) e
          exact ⟨rfl, .ref h'.objs.size, H, I', rfl, q1 _ ts H fr sm hq' lt hp'⟩
        · have f := I1.fpOk (hle5 c hcm).1 (I1.hok.fresh (hle5 c hcm).1)
          exact ⟨by rw [upd_ne (ne5 c hcm)]; exact f.1, f.2⟩
        · show c < h6.objs.size
          exact Nat.lt_of_lt_of_le (hle5 c hcm).2 (Nat.le_trans (by rw [sz4]; exact Nat.le_succ _) l6)
      show wpAny _ _ (Builtin.List.listExtendWith (.ref h'.objs.size) (.ref (s1.heap.objs.size + 4)) .none) _ _ _
      unfold Builtin.List.listExtendWith
      refine wpAny_bind (wpAny_typeOf (T := "zip") ⟨_, hz4, rfl⟩ ?_)
      have g1 : Builtin.List.listSameRef (.ref h'.objs.size) (.ref (s1.heap.objs.size + 4)) = false := by simp [Builtin.List.listSameRef, Ne.symm O.z]
      have g2 : (Value.type "zip" == Value.type "list") = false := by decide
      have g3 : (Value.type "zip" == Value.type "tuple") = false := by decide
      simp only [g1, g2, g3, Bool.or_false, Bool.false_eq_true, if_false]
      refine wpAny_bind (wpAny_pyIter_zip hz4 ?_)
      refine wpAny_bind (wpAny_holding ?_)
      unfold Builtin.List.listLengthHint
      refine wpAny_bind (wpAny_specialOf (T := "zip") ⟨_, hz4, rfl⟩ nolen_zip ?_)
      show wpAny _ _ (specialOf (Value.ref (s1.heap.objs.size + 4)) (Str.ofString "__length_hint__") >>= _) _ _ _
      refine wpAny_bind (wpAny_specialOf (T := "zip") ⟨_, hz4, rfl⟩ nohint_zip ?_)
      refine wpAny_pure ?_
      show wpAny _ _ (rule "list.extend.makes-room" >>= fun _ => Builtin.List.listTouch (.ref h'.objs.size) >>= fun _ =>
        again (.builtin "list.extend.loop" ⟨[.ref h'.objs.size, .ref (s1.heap.objs.size + 4), .none], []⟩)) _ _ _
      refine wpAny_bind (wpAny_rule ?_)
      refine wpAny_bind ?_
      show wpAny _ _ (updateSeq h'.objs.size (·.push .none) >>= fun _ => updateSeq h'.objs.size (·.pop)) _ _ _
      obtain ⟨_, its3, n3, r3, l3, e3⟩ := I4.lstM upd_same
      cases r3
      refine wpAny_bind (wpAny_updateSeq e3 rfl ?_)
      have I5 := I4.lset (f := (·.push Value.none)) (its' := [Value.none]) (ys := [.non]) (t' := s1.toks) upd_same e3 (by simp) (.cons rfl .nil) (by rw [List.length_singleton, sizeLine_eq]; decide)
      rw [upd_upd] at I5
      obtain ⟨_, its5, n5, r5, l5, e5⟩ := I5.lstM upd_same
      obtain ⟨u5, rfl, ru5⟩ := r5.one
      refine wpAny_updateSeq e5 rfl ?_ (by show 1 ≤ sizeLine; rw [sizeLine_eq]; decide) (by show 0 ≤ sizeLine + 1; exact Nat.zero_le _)
      have I6 := I5.lset (f := (·.pop)) (its := [u5]) (its' := []) (ys := []) (t' := s1.toks) upd_same e5 (by rfl) .nil (Nat.zero_le _)
      rw [upd_upd] at I6
      exact wpAny_pure ⟨plainId_quiet PySem.F.plain_extend_loop _, key _ (fun c o hc e => (Heap.get?_update_other _ _ (Ne.symm hc)).trans ((Heap.get?_update_other _ _ (Ne.symm hc)).trans e)) (by rw [Heap.size_update, Heap.size_update]; exact Nat.le_refl _) I6⟩
end
end L2.A

namespace L2.A
open PySem PySem.Spec PyProof.Rows
section
variable {F H : Hp} {L : Cells} {Q : VK}
instance {σ : L2.St} {ta : TA} : Go (tLzip ta σ H Q) (ta σ H fun vs H1 => LzW vs H1 Q) := ⟨id⟩
theorem Sta.tupFs {ts : List Addr} {ps : List (V × V)} (st : Sta F L H) (h : All2 (fun t p => H t = some (.tup [p.1, p.2])) ts ps) : ∃ F', Same F F' ∧ All2 (fun t p => F' t = some (.tup [p.1, p.2])) ts ps ∧ Sta F' L H := by
  induction h generalizing F with
  | nil => exact ⟨F, .refl _, .nil, st⟩
  | cons e _ ih =>
    obtain ⟨F1, s1, e1, st1⟩ := st.tupF e
    obtain ⟨F2, s2, al, st2⟩ := ih st1
    exact ⟨F2, s1.trans s2, .cons (s2 _ _ e1) al, st2⟩
theorem zip_al {ts : List Addr} {xs ys : List V} (hl : xs.length = ys.length) (lt : ts.length = xs.length) (h : ∀ (j : Nat) t, ts[j]? = some t → ∃ x y, xs[j]? = some x ∧ ys[j]? = some y ∧ H t = some (.tup [x, y])) : All2 (fun t p => H t = some (.tup [p.1, p.2])) ts (xs.zip ys) := by
  induction ts generalizing xs ys with
  | nil =>
    cases xs with
    | nil => exact .nil
    | cons x xs => cases lt
  | cons t ts ih =>
    cases xs with
    | nil => cases lt
    | cons x xs =>
      cases ys with
      | nil => cases hl
      | cons y ys =>
        obtain ⟨x', y', e1, e2, e3⟩ := h 0 t rfl
        cases e1; cases e2
        exact .cons e3 (ih (Nat.succ.inj hl) (Nat.succ.inj lt) fun j t hj => by
          obtain ⟨x', y', e1, e2, e3⟩ := h (j + 1) t hj
          exact ⟨x', y', e1, e2, e3⟩)
theorem go_lzipS {a b : Addr} {xs ys : List V} (st : Sta F L H) (ha : H a = some (.lst xs)) (hb : H b = some (.lst ys)) (hl : xs.length = ys.length) (hz : xs.length < 100000)
    (h : ∀ (q : Addr) (ts : List Addr) (F' H' : Hp), Same F F' → All2 (fun t p => F' t = some (.tup [p.1, p.2])) ts (xs.zip ys) → Sta F' ((q, .lst (ts.map V.ref)) :: L) H' → Q (.ref q) H') : LzW [.ref a, .ref b] H Q :=
  ⟨a, b, xs, ys, rfl, ha, hb, hl, hz, fun q ts H' hq s e lt hp => by
    have st1 := st.newL hq s e rfl
    obtain ⟨F', s', al, st2⟩ := st1.tupFs (zip_al hl lt hp)
    exact h q ts F' H' s' al st2⟩
end
end L2.A


namespace L2.A
open PySem PySem.Spec PyProof.Rows
/-! ### len(set(xs)), xs a list of texts -/
/-- how many unlike texts stand ahead of place i -/
def cntT (xs : List Str) : Nat → Nat
  | 0 => 0
  | i + 1 => if (xs.take i).any (· == xs.getD i Str.empty) then cntT xs i else cntT xs i + 1
theorem cntT_le (xs : List Str) : ∀ i, cntT xs i ≤ i
  | 0 => Nat.le_refl _
  | i + 1 => by
    unfold cntT
    have := cntT_le xs i
    split <;> omega
theorem take_getD {xs : List Str} {i : Nat} (h : i < xs.length) : xs.take (i + 1) = xs.take i ++ [xs.getD i Str.empty] := by
  rw [List.take_add_one, List.getElem?_eq_getElem h, List.getD_eq_getElem?_getD, List.getElem?_eq_getElem h]; rfl
theorem cntT_nd {xs : List Str} : ∀ {i : Nat}, i ≤ xs.length → (cntT xs i = i ↔ (xs.take i).Nodup)
  | 0, _ => by simp [cntT]
  | i + 1, h => by
    have ih := cntT_nd (xs := xs) (i := i) (by omega)
    have l := cntT_le xs i
    rw [take_getD (by omega), List.nodup_append]
    unfold cntT
    by_cases c : (xs.take i).any (· == xs.getD i Str.empty) = true
    · rw [if_pos c]
      refine ⟨fun e => (by omega), fun ⟨_, _, h3⟩ => ?_⟩
      obtain ⟨y, my, ey⟩ := List.any_eq_true.mp c
      exact absurd (eq_of_beq ey) (h3 y my _ (List.mem_singleton.mpr rfl))
    · rw [if_neg c]
      refine ⟨fun e => ⟨ih.mp (by omega), by simp, fun y my z mz e2 => c ?_⟩, fun ⟨h1, _, _⟩ => by rw [ih.mpr h1]⟩
      rw [List.mem_singleton] at mz
      exact List.any_eq_true.mpr ⟨y, my, by rw [e2, mz]; exact beq_self_eq_true _⟩
theorem cntT_lt {xs : List Str} : cntT xs xs.length < xs.length ↔ ¬ xs.Nodup := by
  have h := cntT_nd (xs := xs) (Nat.le_refl _)
  rw [List.take_length] at h
  have l := cntT_le xs xs.length
  rw [← h]
  omega
section
variable {prog : Program} {w : World} {A : Around} {R : Result → Shared → Prop} {I : Addr} {fp wr : List Addr} {G : Array GenState → Array GenState → Prop} {n : Nat} {P : Nat → Value → Prop} {St : Nat → Shared → Prop}
theorem loop_setT (W : WalksS prog w A.in1 I fp wr G n P St) (S : Addr) (hSf : S ∉ fp) (xs : List Str) (hsz : xs.length = n) (hval : ∀ i v, P i v → ∃ t, v = .str (xs.getD i Str.empty) t) (hb : n + 1 < scanBound) :
    ∀ (k i : Nat) (s : Shared), n - i = k → i ≤ n → St i s → s.heap.SetOf (PySem.strKind prog w) S (fun k' => (xs.take i).any (· == k')) (cntT xs i) →
      (∀ s', Moved (S :: wr) G s s' → s'.heap.SetOf (PySem.strKind prog w) S (fun k' => (xs.take n).any (· == k')) (cntT xs n) → R (.ok (.ret .none)) s') →
      codeAny (model prog w) A (.builtin "set.update.loop" ⟨[.ref S, .ref I], []⟩) R s := by
  have hSw : S ∉ wr := fun h => hSf (W.sub _ h)
  have hsub : ∀ b ∈ wr, b ∈ S :: wr := fun b hb => List.mem_cons_of_mem _ hb
  intro k
  induction k with
  | zero =>
    intro i s hk hi hst hS hR
    have hin : i = n := by omega
    subst hin
    refine codeAny_builtin PyProof.Rows.F.entry_set_update_loop ?_
    rw [Around.under_plainId PyProof.Rows.F.plain_set_update_loop _]
    show wpAny _ A.in1 (pyNext (.ref I) >>= _) _ _ s
    refine wpAny_bind (W.done s _ _ hst fun s' hm => ?_)
    show wpAny _ A.in1 (ret Value.none) _ _ s'
    exact wpAny_pure (hR s' (hm.mono hsub) (by
      obtain ⟨o, es, ep, t, ho, rest⟩ := hS
      exact ⟨o, es, ep, t, hm.heap S _ hSw ho, rest⟩))
  | succ k ih =>
    intro i s hk hi hst hS hR
    have hlt : i < n := by omega
    refine codeAny_builtin PyProof.Rows.F.entry_set_update_loop ?_
    rw [Around.under_plainId PyProof.Rows.F.plain_set_update_loop _]
    show wpAny _ A.in1 (pyNext (.ref I) >>= _) _ _ s
    refine wpAny_bind (W.item i s _ _ hlt hst fun v s' hP hst' hm => ?_)
    obtain ⟨t, rfl⟩ := hval i v hP
    have hS' : s'.heap.SetOf (PySem.strKind prog w) S (fun k' => (xs.take i).any (· == k')) (cntT xs i) := by
      obtain ⟨o, es, ep, tb, ho, rest⟩ := hS
      exact ⟨o, es, ep, tb, hm.heap S _ hSw ho, rest⟩
    show wpAny _ A.in1 (holding [Value.str (xs.getD i Str.empty) t] (setAdd S (.str (xs.getD i Str.empty) t)) >>= _) _ _ s'
    refine wpAny_bind (wpAny_holding ?_)
    unfold setAdd
    refine wpAny_holding ?_
    refine wpAny_bind ((PySem.strKind prog w).pyHash (k := xs.getD i Str.empty) (strKind_is _ _ _ _) ?_)
    have hroom : cntT xs i + 1 < scanBound := by have := cntT_le xs i; omega
    refine wpAny_setAddHashed_of (knd := PySem.strKind prog w) (s := { s' with toks := s'.toks + 1 }) (strKind_is _ _ _ _) rfl hS' hroom fun h' hsb hS2 => ?_
    have hSi : h'.SetOf (PySem.strKind prog w) S (fun k' => (xs.take (i + 1)).any (· == k')) (cntT xs (i + 1)) := by
      refine SetOf_congr hS2 (fun k' => ?_) rfl
      rw [take_getD (by omega), List.any_append]
      congr 1
      show decide (k' = xs.getD i Str.empty) = (xs.getD i Str.empty == k' || false)
      rw [Bool.or_false]
      by_cases e : k' = xs.getD i Str.empty
      · rw [decide_eq_true e, e]; exact (beq_self_eq_true _).symm
      · rw [decide_eq_false e]; exact (beq_eq_false_iff_ne.mpr fun h => e h.symm).symm
    refine wpAny_pure ⟨plainId_quiet PyProof.Rows.F.plain_set_update_loop _, ih (i + 1) _ (by omega) hlt (W.frame _ s' _ _ hst' (Nat.le_succ _) fun b hb o e => ?_) hSi fun s'' hm'' hS'' => ?_⟩
    · rw [hsb.2 b (fun h : b = S => hSf (by rw [← h]; exact hb))]; exact e
    · refine hR s'' (Moved.trans W.gtrans ((hm.mono hsub).then_heap (Nat.le_succ _) fun b o hb e => ?_) hm'') hS''
      rw [hsb.2 b (fun h : b = S => hb (by rw [h]; exact List.mem_cons_self))]; exact e
end
section
variable {prog : Program} {w : World} {A : Around} {E : Value → Shared → Prop} {s : Shared}
set_option maxRecDepth 100000 in
set_option maxHeartbeats 3200000 in
theorem call_setT {l : Addr} {items : Array Value} {ns : List Str} {Q : Value → Shared → Prop}
    (hh : A.handled = none) (hl : s.heap.IsList l items) (hi : PyProof.Rows.StrsAre items.toList ns) (hb : items.size + 1 < scanBound)
    (h : ∀ (h' : Heap) (tk : Nat), h'.SetOf (PySem.strKind prog w) s.heap.objs.size (fun k' => (ns.take items.size).any (· == k')) (cntT ns items.size) →
      (∀ b o, b < s.heap.objs.size → s.heap.get? b = some o → h'.get? b = some o) → Q (.ref s.heap.objs.size) { s with heap := h', toks := tk }) :
    wpAny (model prog w) A (call (.type "set") [.ref l]) Q E s := by
  obtain ⟨c, tl, hmro⟩ := PySem.F.called_set.mro
  have hmade := PySem.F.called_set.made
  have hsub := PySem.F.called_set.sub
  refine wpAny_call (codeAny_of_tree ?_)
  show wpAny _ _ (callAny (.type "set") _) _ _ _
  refine wpAny_pure ⟨Code.quiet_builtin _ (by decide +kernel), codeAny_builtin PySem.F.entry_type_call ?_⟩
  rw [Around.under_plain (weight_type_call_type "set" [.ref l] []) rfl]
  have h1 := PySem.F.called_set.notType
  have h2 := PySem.F.called_set.canCreate
  have hct := PySem.F.typeCall_set_1 (.ref l)
  repeat (any_goals (first | assumption | wp_step))
  generalize hled : (!w.params.followText "set-order") = led
  refine codeAny_mono (code_setL (.ref l) (E := E) (Q₁ := fun obj s₁ => obj = .ref s.heap.objs.size ∧ s₁ = { s with heap := s.heap.push { cls := .type "set", dict := none, data := .set #[] 0 (.fresh 0 0 led) } }) ⟨rfl, by rw [hled]⟩) fun r s₁ hr => ?_
  cases r with
  | error e => exact hr
  | ok fl =>
    cases fl with
    | ret obj =>
      obtain ⟨rfl, rfl⟩ := hr
      have hS : (s.heap.push { cls := .type "set", dict := none, data := .set #[] 0 (.fresh 0 0 led) }).get? s.heap.objs.size = some { cls := .type "set", dict := none, data := .set #[] 0 (.fresh 0 0 led) } := Heap.get?_push_size _ rfl
      have hT : Shared.TypeIs { s with heap := s.heap.push { cls := .type "set", dict := none, data := .set #[] 0 (.fresh 0 0 led) } } (.ref s.heap.objs.size) "set" := ⟨_, hS, rfl⟩
      have hli := PySem.F.called_set.init.lookup
      have hbi := PySem.F.called_set.init.bind (.ref s.heap.objs.size)
      repeat (any_goals (first | assumption | wp_step))
      refine codeAny_mono (codeAny_call_builtin (R := wants (fun r s₂ => r = .none ∧ ∃ h' tk, s₂ = { s with heap := h', toks := tk } ∧
          h'.SetOf (PySem.strKind prog w) s.heap.objs.size (fun k' => (ns.take items.size).any (· == k')) (cntT ns items.size) ∧
          (∀ b o, b < s.heap.objs.size → s.heap.get? b = some o → h'.get? b = some o)) E) PySem.F.called_set.init.plain PySem.F.entry_set_init (check_set_init_1 hT ?_)) fun r₂ s₂ hr₂ => ?_
      · obtain ⟨ol, hol, hcl, nl, hdl⟩ := hl
        obtain ⟨ocls, odict, odata, oslots⟩ := ol
        simp only at hcl hdl
        subst hcl; subst hdl
        have hol' : (s.heap.push { cls := .type "set", dict := none, data := .set #[] 0 (.fresh 0 0 led) }).get? l = some { cls := .type "list", dict := odict, data := .seq items nl, slots := oslots } := Heap.get?_push_of_some _ hol
        have hsls := PySem.F.sub_list_set
        have hslf := PySem.F.sub_list_frozenset
        have hne : (Value.type "list" == Value.type "dict") = false := by decide
        have hl1 : (s.heap.push { cls := .type "set", dict := none, data := .set #[] 0 (.fresh 0 0 led) }).IsList l items := ⟨_, hol', rfl, nl, rfl⟩
        unfold Builtin.«set.__init__» noKeywords Builtin.Frozenset.updateFrom
        generalize hPI : pyIter = PI
        wp_walk
        subst hPI
        refine wpAny_pyIter_list hl1 ?_
        refine wpAny_bind (wpAny_runValue ?_)
        have hlS : l < s.heap.objs.size := Heap.lt_size hol
        have hh3 : A.in1.in1.in1.handled = none := by simp [hh]
        have hneI : l ≠ (s.heap.push { cls := .type "set", dict := none, data := .set #[] 0 (.fresh 0 0 led) }).objs.size := by
          rw [Heap.size_push]; exact Nat.ne_of_lt (Nat.lt_succ_of_lt hlS)
        have hSf : s.heap.objs.size ∉ [(s.heap.push { cls := .type "set", dict := none, data := .set #[] 0 (.fresh 0 0 led) }).objs.size, l] := by
          rw [Heap.size_push]; simp only [List.mem_cons, List.mem_singleton, List.not_mem_nil, or_false, not_or]
          exact ⟨Nat.ne_of_lt (Nat.lt_succ_self _), Nat.ne_of_gt hlS⟩
        have hsz : ns.length = items.size := by rw [← StrsAre.len_eq hi, Array.length_toList]
        have hval : ∀ (i : Nat) (v : Value), items[i]? = some v → ∃ t, v = .str (ns.getD i Str.empty) t := fun i v hv => SS.strs_at hi i v (by rw [Array.getElem?_toList]; exact hv)
        refine loop_setT ((Walks.list hh3 _ l hneI items).toS) s.heap.objs.size
          hSf ns hsz hval hb (items.size - 0) 0 _ (by omega) (Nat.zero_le _)
          ⟨⟨_, Heap.get?_push_size _ rfl, rfl, rfl⟩, (hl1.push _)⟩ ?hS0 ?hR
        case hS0 =>
          have hget : ((s.heap.push { cls := .type "set", dict := none, data := .set #[] 0 (.fresh 0 0 led) }).push { cls := .type "list_iterator", data := .fields #[.ref l, .int 0 0] }).get? s.heap.objs.size
              = some { cls := .type "set", dict := none, data := .set #[] 0 (.fresh 0 0 led) } := Heap.get?_push_of_some _ hS
          exact PyProof.Rows.SetOf_congr ((PyProof.Rows.setObjOf_fresh (knd := PySem.strKind prog w) led).setOf hget (by unfold scanBound; omega)) (fun _ => rfl) rfl
        case hR =>
          intro s' hm hS'
          obtain ⟨h', g', d', tk', os'⟩ := s'
          have eg : g' = s.gens := hm.gens
          have ed : d' = s.drawn := hm.drawn
          have eo : os' = s.os := hm.os
          subst eg; subst ed; subst eo
          show wpAny _ _ _ _ _ _
          refine wpAny_pure ?_
          show wpAny _ _ (ret Value.none) _ _ _
          refine wpAny_pure ⟨rfl, h', tk', rfl, hS', fun b o hb e => ?_⟩
          have hb1 : b ≠ s.heap.objs.size := Nat.ne_of_lt hb
          have hb2 : b ≠ (s.heap.push { cls := .type "set", dict := none, data := .set #[] 0 (.fresh 0 0 led) }).objs.size := by
            rw [Heap.size_push]; exact Nat.ne_of_lt (Nat.lt_succ_of_lt hb)
          exact hm.heap b o (by simp only [List.mem_cons, List.mem_singleton, List.not_mem_nil, or_false, not_or]; exact ⟨hb1, hb2⟩) (Heap.get?_push_of_some _ (Heap.get?_push_of_some _ e))
      · cases r₂ with
        | error e => exact hr₂
        | ok fl₂ =>
          cases fl₂ with
          | ret r =>
            obtain ⟨rfl, h', tk, rfl, hS', hk'⟩ := hr₂
            repeat (any_goals (first | assumption | wp_step))
            exact h _ _ hS' hk'
          | _ => exact hr₂.elim
    | _ => exact hr.elim
end
section
variable {X : Cx}
/-- len(set(xs)), xs a list of texts -/
def LnW (K : PySem.W.Frag) (x : V) (H1 : Hp) (Q : VK) : Prop := ∃ l, ∃ xs : List Str, x = .ref l ∧ SqL K H1 l (xs.map V.str) ∧ xs.length ≤ 400 ∧ Q (.int (cntT xs xs.length : Nat)) H1
def tLenS (K : PySem.W.Frag) (ta : TE) : TE := fun σ H Q => ta σ H fun x H1 => LnW K x H1 Q
theorem pe_lenS {a : Expr} {ta : TE} {p p2 q pos : Pos} (hc : X.calm = true) (hg : Gl X "len") (hm : X.mg "len" = none) (hg2 : Gl X "set") (hm2 : X.mg "set" = none) (ha : PE X a ta)
    (na : starEach [a] X.env = (false, eval a X.env) :: starEach [] X.env := by rfl) : PE X (.Call (.Name "len" p) [.Call (.Name "set" p2) [a] [] q] [] pos) (tLenS X.K ta) := by
  refine ⟨fun pins s σ H Q I h => ?_⟩
  refine Call_ (ld_blt I hg hm boot_len ?_)
  refine PyProof.Rows.callWith_builtin1 (PyProof.Rows.args_cons ?_ rfl) rfl rfl
  refine Call_ (ld_blt I hg2 hm2 boot_set ?_)
  refine PyProof.Rows.callWith_type1 (PyProof.Rows.args_cons (thn (ha.run pins s σ H _ I h) fun v s1 ⟨x, H1, I1, r1, q1⟩ => PyProof.Rows.args_nil ?_) na) na rfl
  obtain ⟨l, xs, rfl, hq, h1, q1⟩ := q1
  cases r1
  obtain ⟨its, r, pl, hz⟩ := I1.list hq
  have hl : its.toArray.size = xs.length := by rw [List.size_toArray, ← r.length, List.length_map]
  refine call_setT (I1.ok.hd hc) pl.isList (ns := xs) (by simpa using strsAre_of r) (by rw [hl]; unfold scanBound; omega) fun h' tk hS hk => ?_
  refine PyProof.Rows.args_nil ?_
  rw [hl] at hS
  obtain ⟨o, es, ep, t, ho, hex, hd, _, _, _, hf, hn⟩ := hS
  have I2 : Inv X pins σ H1 { s1 with heap := h', toks := tk } := I1.kept fun b o e => hk b o (Heap.lt_size e) e
  have := cntT_le xs xs.length
  exact call_len_set ho hex hd hf (by rw [hn] <;> omega) ⟨.int (cntT xs xs.length : Nat), H1, I2.tok _, ⟨_, by rw [hn]⟩, q1⟩
instance {K : W.Frag} {σ : L2.St} {H : Hp} {Q : VK} {ta : TE} : Go (tLenS K ta σ H Q) (ta σ H fun (x : V) (H1 : Hp) => LnW K x H1 Q) := ⟨id⟩
/-- str(x), x a text or a whole number -/
def rStrB : List V → Hp → VK → Prop := fun xs H Q => (∃ i, xs = [V.int i] ∧ i.natAbs.log2 < 1920 ∧ Q (.str (toString i)) H) ∨ ∃ a, xs = [V.str a] ∧ Q (.str a) H
theorem call_strB : CallR X (.type "str") rStrB := fun pins s σ H xs us Q I rs h => h.elim (call_str_int pins s σ H xs us Q I rs) (SkE.call_str_str pins s σ H xs us Q I rs)
theorem go_lset {K : PySem.W.Frag} {H : Hp} {Q : VK} {l : Addr} {xs : List Str} (hl : SqL K H l (xs.map V.str)) (hn : xs.length ≤ 400) (h : Q (.int (cntT xs xs.length : Nat)) H) : LnW K (.ref l) H Q :=
  ⟨l, xs, rfl, hl, hn, h⟩
end
end L2.A

namespace L2.Toy
open PySem PySem.Spec PyProof.Rows L2.A
local macro_rules | `(tactic| walk_at "put") => `(tactic| first | exact rfl)
local macro_rules | `(tactic| walk_at "sqT") => `(tactic| first | assumption | exact .of upd_same | exact .of (by assumption) | exact seqT_same (by assumption) (by walk_at "same") | exact .of (ge2 (by assumption) (by walk_at "same")))
local macro_rules | `(tactic| walk_at "sqL") => `(tactic| first | assumption | exact .of upd_same | exact .of (by assumption) | exact seqL_same (by assumption) (by walk_at "same") | exact .of (ge2 (by assumption) (by walk_at "same")))
local macro_rules | `(tactic| walk_at "obj") => `(tactic| first | exact upd_same | assumption | exact ge2 (by assumption) (by walk_at "same"))
local macro_rules | `(tactic| walk_at "ty") => `(tactic| first | exact tyV_s | exact tyV_l (by walk_at "sqL") | exact tyV_d (by walk_at "obj") | exact tyV_dT (by walk_at "obj"))
local macro_rules | `(tactic| walk_at "slow") => `(tactic| first | ((with_reducible refine' orV_join ?b ?_); (case b => (intro QB' hQ; (walk_at "*"); exact hQ))) | fail)
local macro_rules | `(tactic| walk_at "slow") => `(tactic| first | ((with_reducible refine' andV_join ?b ?_); (case b => (intro QB' hQ; (walk_at "*"); exact hQ))) | fail)
local macro_rules | `(tactic| walk_at "slow") => `(tactic| first | ((with_reducible refine' or_join ?b ?_); (case b => (intro QB' hQ; (walk_at "*"); exact hQ))) | fail)
local macro_rules | `(tactic| walk_at "slow") => `(tactic| first | ((with_reducible refine' and_join ?b ?_); (case b => (intro QB' hQ; (walk_at "*"); exact hQ))) | fail)
local macro_rules | `(tactic| walk_at "slow") => `(tactic| first | ((with_reducible refine' go_append ?a ?b ?_); (case a => walk_at "obj"); (case b => first | exact Nat.lt_of_succ_le (Nat.le_of_ble_eq_true rfl) | omega | (simp only [List.length_append, List.length_cons, List.length_nil, List.length_map]; omega))) | fail)
local macro_rules | `(tactic| walk_at "slow") => `(tactic| first | ((with_reducible refine' go_bmW0 ?a ?_); (case a => walk_at "ty")) | fail)
local macro_rules | `(tactic| walk_at "slow") => `(tactic| first | ((with_reducible refine' go_bmW ?a ?_); (case a => walk_at "ty")) | fail)
local macro_rules | `(tactic| walk_at "slow") => `(tactic| first | ((with_reducible refine' go_p2 ?e ?_); (case e => (simp only [List.set_cons_zero, List.set_cons_succ]; rfl))) | fail)
local macro_rules | `(tactic| walk_at "slow") => `(tactic| first | ((with_reducible refine' go_p3 ?e ?_); (case e => (simp only [List.set_cons_zero, List.set_cons_succ]; rfl))) | fail)
local macro_rules | `(tactic| walk_at "slow") => `(tactic| first | with_reducible refine go_ipA ?_ | fail)
local macro_rules | `(tactic| walk_at "slow") => `(tactic| first | ((with_reducible refine' go_aug ?e ?_); (case e => exact rfl)) | fail)
local macro_rules | `(tactic| walk_at "slow") => `(tactic| first | ((with_reducible refine go_rvR ?e ?_); (case e => omega)) | fail)
local macro_rules | `(tactic| walk_at "slow") => `(tactic| first | ((with_reducible refine go_isY ?_); (fail_if_success (with_reducible show rIsiX _ [V.ref _, V.ref _] _ _))) | fail)
local macro_rules | `(tactic| walk_at "slow") => `(tactic| first | ((with_reducible refine' go_isQT ?a ?b ?c ?d ?e ?f ?_); (case a => walk_at "obj"); (case b => assumption); (case c => walk_at "obj"); (case d => first | exact upd_same | (walk_at "obj")); (case e => (repeat (first | exact .nil | refine .cons (.own _) ?_ | refine .cons (.ty _) ?_))); (case f => (simp only [PySem.W.kitAny, *]))) | fail)
local macro_rules | `(tactic| walk_at "slow") => `(tactic| first | ((with_reducible refine' go_isQ ?a ?b ?c ?d ?e ?_); (case a => walk_at "obj"); (case b => assumption); (case c => walk_at "obj"); (case d => first | exact .ty _ | exact .own _); (case e => assumption)) | fail)
local macro_rules | `(tactic| walk_at "slow") => `(tactic| first | ((with_reducible refine' go_xqW ?a ?b ?c ?d ?e ?_); (case a => walk_at "obj"); (case b => exact ExcD.xf (by assumption)); (case c => assumption); (case d => walk_at "obj"); (case e => exact rfl)) | fail)
local macro_rules | `(tactic| walk_at "slow") => `(tactic| first | ((with_reducible refine' go_methSW ?a ?b ?_); (case a => walk_at "obj"); (case b => exact rfl)) | fail)
local macro_rules | `(tactic| walk_at "slow") => `(tactic| first | ((with_reducible refine' go_methW ?a ?b ?_); (case a => walk_at "obj"); (case b => exact rfl)) | fail)
local macro_rules | `(tactic| walk_at "slow") => `(tactic| first | ((with_reducible refine' go_astW ?a ?b ?e ?_); (case a => walk_at "obj"); (case b => exact rfl); (case e => walk_at "put")) | fail)
local macro_rules | `(tactic| walk_at "slow") => `(tactic| first | ((with_reducible refine' go_faugW ?a ?b ?c ?d ?_); (case a => walk_at "obj"); (case b => assumption); (case c => assumption); (case d => exact rfl)) | fail)
local macro_rules | `(tactic| walk_at "slow") => `(tactic| first | ((with_reducible refine' go_gfldW ?a ?b ?c ?d ?e ?_); (case a => walk_at "obj"); (case b => assumption); (case c => assumption); (case d => exact rfl); (case e => walk_at "put")) | fail)
local macro_rules | `(tactic| walk_at "slow") => `(tactic| first | ((with_reducible refine' go_sfldW ?a ?b ?c ?d ?e ?_); (case a => walk_at "obj"); (case b => assumption); (case c => assumption); (case d => exact rfl); (case e => walk_at "put")) | fail)
local macro_rules | `(tactic| walk_at "slow") => `(tactic| first | ((with_reducible refine' go_fldW ?a ?b ?c ?d ?_); (case a => walk_at "obj"); (case b => assumption); (case c => assumption); (case d => exact rfl)) | fail)
local macro_rules | `(tactic| walk_at "slow") => `(tactic| first | ((with_reducible refine' go_lenL ?a ?_); (case a => walk_at "sqL")) | fail)
local macro_rules | `(tactic| walk_at "slow") => `(tactic| first | ((with_reducible refine' go_lenT ?a ?_); (case a => walk_at "sqT")) | fail)
local macro_rules | `(tactic| walk_at "slow") => `(tactic| first | ((with_reducible refine' go_lenS ?a ?_); (case a => exact szl (by omega))) | fail)
local macro_rules | `(tactic| walk_at "slow") => `(tactic| first | ((with_reducible refine' go_isi ?e ?f ?_); (case e => first | exact .base (.int _) | exact .base (.bl _) | exact .base (.str _) | exact .base .non | exact .base (.tup (by assumption)) | exact .base (.lst (by assumption)) | exact .base (.tup (ge2 (by assumption) (by walk_at "same"))) | exact .base (.lst (ge2 (by assumption) (by walk_at "same"))) | ((refine' TyX.base (.lst ?a)); (case a => walk_at "obj")) | ((refine' TyX.base (.tup ?a)); (case a => walk_at "obj")) | fail); (case f => first | exact kit_ii | exact kit_ib | exact kit_bb | exact kit_bi | exact kit_ss | exact kit_nb | exact kit_ni | exact kit_ns | exact kit_nt | exact kit_is | exact kit_si | exact kit_sb | exact kit_bs | exact kit_tt | exact kit_ll | exact kit_tl | exact kit_lt | exact kit_nl | exact kit_il | exact kit_it | exact kit_sl | exact kit_st)) | fail)
local macro_rules | `(tactic| walk_at "slow") => `(tactic| first | with_reducible refine go_abs ?_ | fail)
local macro_rules | `(tactic| walk_at "slow") => `(tactic| first | with_reducible refine go_yes ?_ | fail)
local macro_rules | `(tactic| walk_at "slow") => `(tactic| first | ((with_reducible refine go_rn2 ?e ?_); (case e => omega)) | fail)
local macro_rules | `(tactic| walk_at "slow") => `(tactic| first | ((with_reducible refine go_rn1 ?e ?_); (case e => omega)) | fail)
local macro_rules | `(tactic| walk_at "slow") => `(tactic| first | ((with_reducible refine' go_dispK ?a ?b ?c ?_); (case a => first | exact upd_same | assumption); (case b => exact rfl); (case c => exact rfl)) | fail)
local macro_rules | `(tactic| walk_at "slow") => `(tactic| first | ((with_reducible refine' go_slT ?a ?b ?c ?_); (case a => walk_at "sqT"); (case b => exact rfl); (case c => exact rfl)) | fail)
local macro_rules | `(tactic| walk_at "slow") => `(tactic| first | ((with_reducible refine' go_gtupL ?a ?b ?_); (case a => walk_at "sqL"); (case b => exact rfl)) | fail)
local macro_rules | `(tactic| walk_at "slow") => `(tactic| first | ((with_reducible refine' go_gtupT ?a ?b ?_); (case a => walk_at "sqT"); (case b => exact rfl)) | fail)
local macro_rules | `(tactic| walk_at "slow") => `(tactic| first | ((with_reducible refine' go_gtup ?a ?b ?_); (case a => walk_at "sqT"); (case b => exact rfl)) | fail)
local macro_rules | `(tactic| walk_at "slow") => `(tactic| first | ((with_reducible refine' go_xL ?a ?b ?_); (case a => walk_at "sqL"); (case b => first | exact rfl | exact at0 | exact at1 | exact at2 | exact at3 | fail)) | fail)
local macro_rules | `(tactic| walk_at "slow") => `(tactic| first | ((with_reducible refine' go_xT ?a ?b ?_); (case a => walk_at "sqT"); (case b => first | exact rfl | exact at0 | exact at1 | exact at2 | exact at3 | fail)) | fail)
local macro_rules | `(tactic| walk_at "slow") => `(tactic| first | with_reducible refine go_ifx ?_ | fail)
local macro_rules | `(tactic| walk_at "slow") => `(tactic| first | with_reducible refine go_orV ?_ | fail)
local macro_rules | `(tactic| walk_at "slow") => `(tactic| first | with_reducible refine go_andV ?_ | fail)
local macro_rules | `(tactic| walk_at "slow") => `(tactic| first | with_reducible refine go_or ?_ | fail)
local macro_rules | `(tactic| walk_at "slow") => `(tactic| first | with_reducible refine go_and ?_ | fail)
local macro_rules | `(tactic| walk_at "slow") => `(tactic| first | ((with_reducible refine' go_ifxP ?a ?b ?c ?_); (case a => (intro QB' hQ; (walk_at "*"); exact hQ)); (case b => (intro QB' hQ; (walk_at "*"); exact hQ)); (case c => (intro QB' hQ; (walk_at "*"); exact hQ))) | fail)
local macro_rules | `(tactic| walk_at "slow") => `(tactic| first | ((with_reducible refine' go_orVP ?a ?b ?_); (case a => (intro QB' hQ; (walk_at "*"); exact hQ)); (case b => (intro QB' hQ; (walk_at "*"); exact hQ))) | fail)
local macro_rules | `(tactic| walk_at "slow") => `(tactic| first | ((with_reducible refine' go_andVP ?a ?b ?_); (case a => (intro QB' hQ; (walk_at "*"); exact hQ)); (case b => (intro QB' hQ; (walk_at "*"); exact hQ))) | fail)
local macro_rules | `(tactic| walk_at "slow") => `(tactic| first | ((with_reducible refine' go_orP ?a ?b ?_); (case a => (intro QB' hQ; (walk_at "*"); exact hQ)); (case b => (intro QB' hQ; (walk_at "*"); exact hQ))) | fail)
local macro_rules | `(tactic| walk_at "slow") => `(tactic| first | ((with_reducible refine' go_andP ?a ?b ?_); (case a => (intro QB' hQ; (walk_at "*"); exact hQ)); (case b => (intro QB' hQ; (walk_at "*"); exact hQ))) | fail)
local macro_rules | `(tactic| walk_at "slow") => `(tactic| first | with_reducible refine go_newL rfl ?_ | fail)
local macro_rules | `(tactic| walk_at "slow") => `(tactic| first | with_reducible refine go_newT rfl ?_ | fail)
local macro_rules | `(tactic| walk_at "slow") => `(tactic| first | ((with_reducible refine go_neS ?e ?_); (case e => exact rfl)) | fail)
local macro_rules | `(tactic| walk_at "slow") => `(tactic| first | ((with_reducible refine go_eqS ?e ?_); (case e => exact rfl)) | fail)
local macro_rules | `(tactic| walk_at "slow") => `(tactic| first | ((with_reducible refine go_I ?e ?_); (case e => (first | omega | (show CDiv _ _; unfold CDiv; omega) | (show (0 : Int) < _; omega)))) | fail)
local macro_rules | `(tactic| walk_at "slow") => `(tactic| first | ((with_reducible refine go_mulI ?e ?_); (case e => (show CMul _ _; unfold CMul; omega))) | fail)
local macro_rules | `(tactic| walk_at "slow") => `(tactic| first | ((with_reducible refine' go_name ?e ?_); (case e => (simp only [List.set_cons_zero, List.set_cons_succ]; rfl))) | fail)
local macro_rules | `(tactic| walk_at "slow") => `(tactic| first | ((with_reducible refine' go_var ?e ?_); (case e => exact rfl)) | fail)

local macro_rules | `(tactic| walk_at "*") => `(tactic| ((try dsimp only); (repeat walk_at "1")))
local macro_rules | `(tactic| walk_at "same") => `(tactic| first
  | exact Same.refl _
  | assumption
  | ((refine same_new2 ?_ ?h); (case h => assumption); (walk_at "same"))
  | ((refine same_mut ?_ ?h); (case h => assumption); (walk_at "same"))
  | ((refine same_mut ?_ ?h); (case h => exact Same.free (by walk_at "same") (by assumption)); (walk_at "same"))
  | ((refine' Same.trans ?_ ?h); (case h => assumption); (walk_at "same"))
  | fail)
local macro_rules | `(tactic| walk_at "all") => `(tactic| ((walk_at "*"); first
  | ((refine if2 (fun c => ?_) (fun c => ?_)) <;> (walk_at "all"))
  | ((with_reducible refine go_inT (.of upd_same) rfl rfl ?_); (walk_at "all"))
  | ((with_reducible refine go_ninT (.of upd_same) rfl rfl ?_); (walk_at "all"))
  | ((with_reducible show NewO _ _ _); (intro p hp); (walk_at "all"))
  | skip))

local macro_rules | `(tactic| walk_at "**") => `(tactic| ((try dsimp only); (repeat first
  | walk_at "1"
  | ((with_reducible show NewO _ _ _); (intro p hp))
  | (with_reducible refine go_inT (.of upd_same) rfl rfl ?_)
  | (with_reducible refine go_ninT (.of upd_same) rfl rfl ?_)
  | (with_reducible refine go_inL (.of upd_same) rfl rfl ?_)
  | (with_reducible refine go_ninL (.of upd_same) rfl rfl ?_))))
/-! by cells -/
local macro_rules | `(tactic| walk_at "mem") => `(tactic| first
  | with_reducible exact List.mem_cons_self
  | ((with_reducible refine' List.mem_append_left _ ?h); (case h => walk_at "mem"))
  | ((with_reducible refine' List.mem_cons_of_mem _ ?h); (case h => walk_at "mem"))
  | ((with_reducible refine' List.mem_append_right _ ?h); (case h => walk_at "mem"))
  | fail)
local macro_rules | `(tactic| walk_at "perm") => `(tactic| first
  | with_reducible exact pc_here
  | ((with_reducible refine' pc_inl ?h); (case h => walk_at "perm"))
  | ((with_reducible refine' pc_cons ?h); (case h => walk_at "perm"))
  | ((with_reducible refine' pc_app ?h); (case h => walk_at "perm"))
  | fail)
local macro_rules | `(tactic| walk_at "pull") => `(tactic| first
  | with_reducible exact pm_here
  | with_reducible exact pm_all
  | with_reducible exact pl_nil
  | ((with_reducible refine' pm_app ?h); (case h => walk_at "pull1"))
  | ((with_reducible refine' pm_cons ?h); (case h => walk_at "pull1"))
  | ((with_reducible refine' pl_app ?h1 ?h2); (case h1 => walk_at "pull"); (case h2 => walk_at "pull"))
  | ((with_reducible refine' pl_cons ?h1 ?h2); (case h1 => walk_at "perm"); (case h2 => walk_at "pull"))
  | fail)
local macro_rules | `(tactic| walk_at "pull1") => `(tactic| first
  | with_reducible exact pm_here
  | with_reducible exact pm_all
  | ((with_reducible refine' pm_app ?h); (case h => walk_at "pull1"))
  | ((with_reducible refine' pm_cons ?h); (case h => walk_at "pull1"))
  | fail)
local macro_rules | `(tactic| walk_at "lay") => `(tactic| first
  | assumption
  | exact Ext.lay (by assumption)
  | exact Lay.pull (Ext.lay (by assumption)) (by walk_at "pull"))
local macro_rules | `(tactic| walk_at "tup") => `(tactic| first
  | assumption
  | exact TupKeep.at (by assumption) (by walk_at "tup")
  | exact Ext.tup (by assumption) (by walk_at "tup")
  | exact ge_same (by assumption) (by walk_at "tup")
  | fail)
local macro_rules | `(tactic| walk_at "objx") => `(tactic| first
  | exact Lay.get (Ext.lay (by assumption)) (by walk_at "mem")
  | exact Lay.get (by assumption) (by walk_at "mem")
  | (walk_at "tup"))
local macro_rules | `(tactic| walk_at "permd") => `(tactic| first
  | exact pc_here
  | ((refine' pc_inl ?h); (case h => walk_at "permd"))
  | ((refine' pc_cons ?h); (case h => walk_at "permd"))
  | ((refine' pc_app ?h); (case h => walk_at "permd"))
  | fail)
local macro_rules | `(tactic| walk_at "pulld") => `(tactic| first
  | with_reducible exact pm_here
  | with_reducible exact pm_all
  | with_reducible exact pl_nil
  | ((with_reducible refine' pm_app ?h); (case h => walk_at "pull1"))
  | ((with_reducible refine' pm_cons ?h); (case h => walk_at "pull1"))
  | ((refine' pl_app ?h1 ?h2); (case h1 => walk_at "pulld"); (case h2 => walk_at "pulld"))
  | ((refine' pl_cons ?h1 ?h2); (case h1 => walk_at "permd"); (case h2 => walk_at "pulld"))
  | fail)
local macro_rules | `(tactic| walk_at "ext") => `(tactic| first
  | assumption
  | exact Ext.drop (by assumption) (by walk_at "pull")
  | exact Ext.drop (by assumption) (by walk_at "pulld"))
local macro_rules | `(tactic| walk_at "samex") => `(tactic| first
  | assumption
  | exact Ext.toSame' (by assumption) (by walk_at "pull"))
local macro_rules | `(tactic| walk_at "small") => `(tactic| first | exact Nat.lt_of_succ_le (Nat.le_of_ble_eq_true rfl) | omega | (simp only [List.length_append, List.length_cons, List.length_nil, List.length_map]; omega))
local macro_rules | `(tactic| walk_at "x1") => `(tactic| first
  | ((with_reducible refine' go_fldW ?a ?b ?c ?d ?_); (case a => walk_at "objx"); (case b => assumption); (case c => assumption); (case d => exact rfl))
  | ((with_reducible refine' go_xT ?a ?b ?_); (case a => exact .of (by walk_at "tup")); (case b => exact rfl))
  | ((with_reducible refine' go_xL ?a ?b ?_); (case a => exact .of (by walk_at "objx")); (case b => exact rfl))
  | ((with_reducible refine' go_gtup ?a ?b ?_); (case a => exact .of (by walk_at "tup")); (case b => exact rfl))
  | ((with_reducible refine' go_slTD 0 ?a ?b ?c ?_); (case a => exact .of (by walk_at "tup")); (case b => rfl); (case c => (repeat (first | exact DropR.zero | apply DropR.succ))))
  | ((with_reducible refine' go_slTD 2 ?a ?b ?c ?_); (case a => exact .of (by walk_at "tup")); (case b => rfl); (case c => (repeat (first | exact DropR.zero | apply DropR.succ))))
  | ((with_reducible refine' go_slTD 3 ?a ?b ?c ?_); (case a => exact .of (by walk_at "tup")); (case b => rfl); (case c => (repeat (first | exact DropR.zero | apply DropR.succ))))
  | ((with_reducible refine' go_slTD 5 ?a ?b ?c ?_); (case a => exact .of (by walk_at "tup")); (case b => rfl); (case c => (repeat (first | exact DropR.zero | apply DropR.succ))))
  | ((with_reducible refine' go_slTT 3 ?a ?b ?c ?d ?_); (case a => exact .of (by walk_at "tup")); (case b => rfl); (case c => (repeat (first | exact TakeR.zero | apply TakeR.succ))); (case d => rfl))
  | ((with_reducible refine' go_slTT 4 ?a ?b ?c ?d ?_); (case a => exact .of (by walk_at "tup")); (case b => rfl); (case c => (repeat (first | exact TakeR.zero | apply TakeR.succ))); (case d => rfl))
  | ((with_reducible refine' go_slTM 0 2 ?a ?b ?c ?d ?e ?_); (case a => exact .of (by walk_at "tup")); (case b => rfl); (case c => rfl); (case d => (repeat (first | exact DropR.zero | apply DropR.succ))); (case e => (repeat (first | exact TakeR.zero | apply TakeR.succ))))
  | ((with_reducible refine' go_slTM 0 4 ?a ?b ?c ?d ?e ?_); (case a => exact .of (by walk_at "tup")); (case b => rfl); (case c => rfl); (case d => (repeat (first | exact DropR.zero | apply DropR.succ))); (case e => (repeat (first | exact TakeR.zero | apply TakeR.succ))))
  | ((with_reducible refine' go_sfldX ?a ?p ?b ?c ?d ?e ?_); (case a => assumption); (case p => walk_at "perm"); (case b => assumption); (case c => assumption); (case d => exact rfl); (case e => walk_at "put"); intro H' x' tk')
  | ((with_reducible refine' go_gfldX ?a ?p ?b ?c ?d ?e ?_); (case a => assumption); (case p => walk_at "perm"); (case b => assumption); (case c => assumption); (case d => exact rfl); (case e => walk_at "put"); intro H' x' tk')
  | ((with_reducible refine' go_faugW ?a ?b ?c ?d ?_); (case a => walk_at "objx"); (case b => assumption); (case c => assumption); (case d => exact rfl))
  | ((with_reducible refine' go_astX ?a ?p ?b ?e ?_); (case a => assumption); (case p => walk_at "perm"); (case b => exact rfl); (case e => walk_at "put"); intro H' x' tk')
  | ((with_reducible refine' go_methW ?a ?b ?_); (case a => walk_at "objx"); (case b => exact rfl))
  | ((with_reducible refine' go_methSW ?a ?b ?_); (case a => walk_at "objx"); (case b => exact rfl))
  | ((with_reducible refine' go_inS ?a ?_); (case a => walk_at "objx"))
  | ((with_reducible refine' go_inC ?a ?_); (case a => walk_at "objx"))
  | ((with_reducible refine' go_inT ?a ?b ?c ?_); (case a => exact .of (by walk_at "tup")); (case b => exact rfl); (case c => exact rfl))
  | ((with_reducible refine' go_ninT ?a ?b ?c ?_); (case a => exact .of (by walk_at "tup")); (case b => exact rfl); (case c => exact rfl))
  | ((with_reducible refine' go_lenL ?a ?_); (case a => exact .of (by walk_at "objx")))
  | ((with_reducible refine' go_lenT ?a ?_); (case a => exact .of (by walk_at "tup")))
  | ((with_reducible refine' go_dg2W ?a ?_); (case a => exact .inl ⟨_, .inl (by walk_at "objx")⟩))
  | ((with_reducible refine' go_getC ?a ?_); (case a => walk_at "objx"))
  | ((with_reducible refine' go_bmW ?a ?_); (case a => first | exact tyV_s | exact tyV_l (.of (by walk_at "objx")) | exact tyV_d (by walk_at "objx")))
  | ((with_reducible refine' go_bmW0 ?a ?_); (case a => first | exact tyV_s | exact tyV_l (.of (by walk_at "objx")) | exact tyV_d (by walk_at "objx")))
  | ((with_reducible refine' go_appendX ?a ?p ?b ?_); (case a => assumption); (case p => walk_at "perm"); (case b => walk_at "small"); intro H' x' tk')
  | ((with_reducible refine' go_newTp ?a ?_); (case a => assumption); intro p' H' n' x' tk' e')
  | ((with_reducible refine' go_newM ?a ?b ?_); (case a => assumption); (case b => exact rfl); intro p' H' n' x' tk')
  | fail)
local macro_rules | `(tactic| walk_at "x*") => `(tactic| ((try dsimp only); (repeat first | walk_at "x1" | walk_at "1")))

/-! by what stands still and what is alive (each ends with fail: without it a case that fails is admitted) -/
local macro_rules | `(tactic| walk_at "fz") => `(tactic| first | assumption | ((refine' ge_same ?a ?b); (case a => assumption); (case b => walk_at "fz")) | fail)
local macro_rules | `(tactic| walk_at "get") => `(tactic| first | ((refine' Sta.get ?a ?b); (case a => assumption); (case b => walk_at "mem")) | fail)
local macro_rules | `(tactic| walk_at "sof") => `(tactic| first | ((refine' Sta.of ?a ?b); (case a => assumption); (case b => walk_at "fz")) | fail)
local macro_rules | `(tactic| walk_at "obj") => `(tactic| first | walk_at "get" | walk_at "sof" | fail)
local macro_rules | `(tactic| walk_at "sqT") => `(tactic| first | ((refine' SqT.of ?a); (case a => walk_at "sof")) | fail)
local macro_rules | `(tactic| walk_at "sqL") => `(tactic| first | ((refine' SqL.of ?a); (case a => (first | walk_at "get" | walk_at "sof" | fail))) | fail)
local macro_rules | `(tactic| walk_at "sta") => `(tactic| first | assumption | exact Sta.same (by assumption) (by assumption) | exact Sta.pull (by assumption) (by walk_at "pull") | fail)
local macro_rules | `(tactic| walk_at "slow") => `(tactic| first | ((with_reducible refine' go_newF (o := .tup _) ?a ?_); (case a => assumption); intro p F' H' s e st') | fail)
local macro_rules | `(tactic| walk_at "slow") => `(tactic| first | ((with_reducible refine' go_appendS ?a ?p ?b ?_); (case a => assumption); (case p => walk_at "perm"); (case b => walk_at "small"); intro H' st') | fail)
local macro_rules | `(tactic| walk_at "slow") => `(tactic| first | ((with_reducible refine' go_astS ?a ?p ?b ?e ?_); (case a => assumption); (case p => walk_at "perm"); (case b => exact rfl); (case e => walk_at "put"); intro H' st') | fail)
local macro_rules | `(tactic| walk_at "slow") => `(tactic| first | ((with_reducible refine' go_gfldS ?a ?p ?b ?c ?d ?e ?_); (case a => assumption); (case p => walk_at "perm"); (case b => assumption); (case c => assumption); (case d => exact rfl); (case e => walk_at "put"); intro H' st') | fail)
local macro_rules | `(tactic| walk_at "slow") => `(tactic| first | ((with_reducible refine' go_sfldS ?a ?p ?b ?c ?d ?e ?_); (case a => assumption); (case p => walk_at "perm"); (case b => assumption); (case c => assumption); (case d => exact rfl); (case e => walk_at "put"); intro H' st') | fail)

local macro_rules | `(tactic| walk_at "1") => `(tactic| first | ((with_reducible show Ends.nx _ _ _); (first | ((with_reducible refine go_nx ?_); (fail_if_success (with_reducible show Ends.nx _ _ _))) | ((with_reducible refine go_nx ?_); (with_reducible refine go_nx ?_); (fail_if_success (with_reducible show Ends.nx _ _ _))) | ((with_reducible refine go_nx ?_); (with_reducible refine go_nx ?_); (with_reducible refine go_nx ?_); (fail_if_success (with_reducible show Ends.nx _ _ _))) | fail)) | fail)
local macro_rules | `(tactic| walk_at "1") => `(tactic| first | ((with_reducible show Ends.rt _ _ _); (first | ((with_reducible refine go_rt ?_); (fail_if_success (with_reducible show Ends.rt _ _ _))) | ((with_reducible refine go_rt ?_); (with_reducible refine go_rt ?_); (fail_if_success (with_reducible show Ends.rt _ _ _))) | ((with_reducible refine go_rt ?_); (with_reducible refine go_rt ?_); (with_reducible refine go_rt ?_); (fail_if_success (with_reducible show Ends.rt _ _ _))) | fail)) | fail)
local macro_rules | `(tactic| walk_at "1") => `(tactic| first | ((with_reducible show Ends.bk _ _ _); (first | ((with_reducible refine go_bk ?_); (fail_if_success (with_reducible show Ends.bk _ _ _))) | ((with_reducible refine go_bk ?_); (with_reducible refine go_bk ?_); (fail_if_success (with_reducible show Ends.bk _ _ _))) | ((with_reducible refine go_bk ?_); (with_reducible refine go_bk ?_); (with_reducible refine go_bk ?_); (fail_if_success (with_reducible show Ends.bk _ _ _))) | fail)) | fail)
local macro_rules | `(tactic| walk_at "1") => `(tactic| first | ((with_reducible show Ends.ct _ _ _); (first | ((with_reducible refine go_ctx ?_); (fail_if_success (with_reducible show Ends.ct _ _ _))) | ((with_reducible refine go_ctx ?_); (with_reducible refine go_ctx ?_); (fail_if_success (with_reducible show Ends.ct _ _ _))) | ((with_reducible refine go_ctx ?_); (with_reducible refine go_ctx ?_); (with_reducible refine go_ctx ?_); (fail_if_success (with_reducible show Ends.ct _ _ _))) | fail)) | fail)
local macro_rules | `(tactic| walk_at "1") => `(tactic| first | ((with_reducible refine More.go ?_); (walk_at "slow")) | fail)
local macro_rules | `(tactic| walk_at "1") => `(tactic| first | with_reducible refine Go.go ?_ | fail)

def top (i : Nat) : Stmt := PySem.Challenge.pw_inningsbook_k71_leagues_refused.main.body.getD i (.Pass ⟨0, 0, 0, 0⟩)
structure Txt (K : PySem.W.Frag) (mg : Str → Option Value) : Prop where
  b_ValueError : mg "ValueError" = none
  b_all : mg "all" = none
  b_enumerate : mg "enumerate" = none
  b_int : mg "int" = none
  b_isinstance : mg "isinstance" = none
  b_len : mg "len" = none
  b_list : mg "list" = none
  b_min : mg "min" = none
  b_range : mg "range" = none
  b_set : mg "set" = none
  b_str : mg "str" = none
  b_tuple : mg "tuple" = none
  bi_BookError : biB K (He.ga K "BookError") = true
  c_BadRow : mg "BadRow" = some (.ref (He.ga K "BadRow"))
  c_BookError : mg "BookError" = some (.ref (He.ga K "BookError"))
  c_Falling : mg "Falling" = some (.ref (He.ga K "Falling"))
  c_Misplaced : mg "Misplaced" = some (.ref (He.ga K "Misplaced"))
  c_NoEntry : mg "NoEntry" = some (.ref (He.ga K "NoEntry"))
  c_NotLet : mg "NotLet" = some (.ref (He.ga K "NotLet"))
  c_Twice : mg "Twice" = some (.ref (He.ga K "Twice"))
  c_Unfinished : mg "Unfinished" = some (.ref (He.ga K "Unfinished"))
  exm_BadRow_BookError : PySem.W.exmOne K (.ref (He.ga K "BadRow")) (.ref (He.ga K "BookError")) = some true
  exm_Falling_BookError : PySem.W.exmOne K (.ref (He.ga K "Falling")) (.ref (He.ga K "BookError")) = some true
  exm_Misplaced_BookError : PySem.W.exmOne K (.ref (He.ga K "Misplaced")) (.ref (He.ga K "BookError")) = some true
  exm_NoEntry_BookError : PySem.W.exmOne K (.ref (He.ga K "NoEntry")) (.ref (He.ga K "BookError")) = some true
  exm_NotLet_BookError : PySem.W.exmOne K (.ref (He.ga K "NotLet")) (.ref (He.ga K "BookError")) = some true
  exm_Twice_BookError : PySem.W.exmOne K (.ref (He.ga K "Twice")) (.ref (He.ga K "BookError")) = some true
  exm_Unfinished_BookError : PySem.W.exmOne K (.ref (He.ga K "Unfinished")) (.ref (He.ga K "BookError")) = some true
  g_BREAKERS : mg "BREAKERS" = some (.ref (He.ga K "BREAKERS"))
  g_MOST_FIGURES : ∃ t, mg "MOST_FIGURES" = some (.int 4 t)
  kit_BadRow_BadRow : PySem.W.kitOne K (.ref (He.ga K "BadRow")) (.ref (He.ga K "BadRow")) = some true
  kit_BadRow_Falling : PySem.W.kitOne K (.ref (He.ga K "BadRow")) (.ref (He.ga K "Falling")) = some false
  kit_BadRow_Misplaced : PySem.W.kitOne K (.ref (He.ga K "BadRow")) (.ref (He.ga K "Misplaced")) = some false
  kit_BadRow_NoEntry : PySem.W.kitOne K (.ref (He.ga K "BadRow")) (.ref (He.ga K "NoEntry")) = some false
  kit_BadRow_NotLet : PySem.W.kitOne K (.ref (He.ga K "BadRow")) (.ref (He.ga K "NotLet")) = some false
  kit_BadRow_Twice : PySem.W.kitOne K (.ref (He.ga K "BadRow")) (.ref (He.ga K "Twice")) = some false
  kit_BadRow_Unfinished : PySem.W.kitOne K (.ref (He.ga K "BadRow")) (.ref (He.ga K "Unfinished")) = some false
  kit_BadRow_ValueError : PySem.W.kitOne K (.ref (He.ga K "BadRow")) (.type "ValueError") = some true
  kit_Falling_BadRow : PySem.W.kitOne K (.ref (He.ga K "Falling")) (.ref (He.ga K "BadRow")) = some false
  kit_Falling_Falling : PySem.W.kitOne K (.ref (He.ga K "Falling")) (.ref (He.ga K "Falling")) = some true
  kit_Falling_Misplaced : PySem.W.kitOne K (.ref (He.ga K "Falling")) (.ref (He.ga K "Misplaced")) = some false
  kit_Falling_NoEntry : PySem.W.kitOne K (.ref (He.ga K "Falling")) (.ref (He.ga K "NoEntry")) = some false
  kit_Falling_NotLet : PySem.W.kitOne K (.ref (He.ga K "Falling")) (.ref (He.ga K "NotLet")) = some false
  kit_Falling_Twice : PySem.W.kitOne K (.ref (He.ga K "Falling")) (.ref (He.ga K "Twice")) = some false
  kit_Falling_Unfinished : PySem.W.kitOne K (.ref (He.ga K "Falling")) (.ref (He.ga K "Unfinished")) = some false
  kit_Falling_ValueError : PySem.W.kitOne K (.ref (He.ga K "Falling")) (.type "ValueError") = some true
  kit_Misplaced_BadRow : PySem.W.kitOne K (.ref (He.ga K "Misplaced")) (.ref (He.ga K "BadRow")) = some false
  kit_Misplaced_Falling : PySem.W.kitOne K (.ref (He.ga K "Misplaced")) (.ref (He.ga K "Falling")) = some false
  kit_Misplaced_Misplaced : PySem.W.kitOne K (.ref (He.ga K "Misplaced")) (.ref (He.ga K "Misplaced")) = some true
  kit_Misplaced_NoEntry : PySem.W.kitOne K (.ref (He.ga K "Misplaced")) (.ref (He.ga K "NoEntry")) = some false
  kit_Misplaced_NotLet : PySem.W.kitOne K (.ref (He.ga K "Misplaced")) (.ref (He.ga K "NotLet")) = some false
  kit_Misplaced_Twice : PySem.W.kitOne K (.ref (He.ga K "Misplaced")) (.ref (He.ga K "Twice")) = some false
  kit_Misplaced_Unfinished : PySem.W.kitOne K (.ref (He.ga K "Misplaced")) (.ref (He.ga K "Unfinished")) = some false
  kit_Misplaced_ValueError : PySem.W.kitOne K (.ref (He.ga K "Misplaced")) (.type "ValueError") = some true
  kit_NoEntry_BadRow : PySem.W.kitOne K (.ref (He.ga K "NoEntry")) (.ref (He.ga K "BadRow")) = some false
  kit_NoEntry_Falling : PySem.W.kitOne K (.ref (He.ga K "NoEntry")) (.ref (He.ga K "Falling")) = some false
  kit_NoEntry_Misplaced : PySem.W.kitOne K (.ref (He.ga K "NoEntry")) (.ref (He.ga K "Misplaced")) = some false
  kit_NoEntry_NoEntry : PySem.W.kitOne K (.ref (He.ga K "NoEntry")) (.ref (He.ga K "NoEntry")) = some true
  kit_NoEntry_NotLet : PySem.W.kitOne K (.ref (He.ga K "NoEntry")) (.ref (He.ga K "NotLet")) = some false
  kit_NoEntry_Twice : PySem.W.kitOne K (.ref (He.ga K "NoEntry")) (.ref (He.ga K "Twice")) = some false
  kit_NoEntry_Unfinished : PySem.W.kitOne K (.ref (He.ga K "NoEntry")) (.ref (He.ga K "Unfinished")) = some false
  kit_NoEntry_ValueError : PySem.W.kitOne K (.ref (He.ga K "NoEntry")) (.type "ValueError") = some true
  kit_NotLet_BadRow : PySem.W.kitOne K (.ref (He.ga K "NotLet")) (.ref (He.ga K "BadRow")) = some false
  kit_NotLet_Falling : PySem.W.kitOne K (.ref (He.ga K "NotLet")) (.ref (He.ga K "Falling")) = some false
  kit_NotLet_Misplaced : PySem.W.kitOne K (.ref (He.ga K "NotLet")) (.ref (He.ga K "Misplaced")) = some false
  kit_NotLet_NoEntry : PySem.W.kitOne K (.ref (He.ga K "NotLet")) (.ref (He.ga K "NoEntry")) = some false
  kit_NotLet_NotLet : PySem.W.kitOne K (.ref (He.ga K "NotLet")) (.ref (He.ga K "NotLet")) = some true
  kit_NotLet_Twice : PySem.W.kitOne K (.ref (He.ga K "NotLet")) (.ref (He.ga K "Twice")) = some false
  kit_NotLet_Unfinished : PySem.W.kitOne K (.ref (He.ga K "NotLet")) (.ref (He.ga K "Unfinished")) = some false
  kit_NotLet_ValueError : PySem.W.kitOne K (.ref (He.ga K "NotLet")) (.type "ValueError") = some true
  kit_Twice_BadRow : PySem.W.kitOne K (.ref (He.ga K "Twice")) (.ref (He.ga K "BadRow")) = some false
  kit_Twice_Falling : PySem.W.kitOne K (.ref (He.ga K "Twice")) (.ref (He.ga K "Falling")) = some false
  kit_Twice_Misplaced : PySem.W.kitOne K (.ref (He.ga K "Twice")) (.ref (He.ga K "Misplaced")) = some false
  kit_Twice_NoEntry : PySem.W.kitOne K (.ref (He.ga K "Twice")) (.ref (He.ga K "NoEntry")) = some false
  kit_Twice_NotLet : PySem.W.kitOne K (.ref (He.ga K "Twice")) (.ref (He.ga K "NotLet")) = some false
  kit_Twice_Twice : PySem.W.kitOne K (.ref (He.ga K "Twice")) (.ref (He.ga K "Twice")) = some true
  kit_Twice_Unfinished : PySem.W.kitOne K (.ref (He.ga K "Twice")) (.ref (He.ga K "Unfinished")) = some false
  kit_Twice_ValueError : PySem.W.kitOne K (.ref (He.ga K "Twice")) (.type "ValueError") = some true
  kit_Unfinished_BadRow : PySem.W.kitOne K (.ref (He.ga K "Unfinished")) (.ref (He.ga K "BadRow")) = some false
  kit_Unfinished_Falling : PySem.W.kitOne K (.ref (He.ga K "Unfinished")) (.ref (He.ga K "Falling")) = some false
  kit_Unfinished_Misplaced : PySem.W.kitOne K (.ref (He.ga K "Unfinished")) (.ref (He.ga K "Misplaced")) = some false
  kit_Unfinished_NoEntry : PySem.W.kitOne K (.ref (He.ga K "Unfinished")) (.ref (He.ga K "NoEntry")) = some false
  kit_Unfinished_NotLet : PySem.W.kitOne K (.ref (He.ga K "Unfinished")) (.ref (He.ga K "NotLet")) = some false
  kit_Unfinished_Twice : PySem.W.kitOne K (.ref (He.ga K "Unfinished")) (.ref (He.ga K "Twice")) = some false
  kit_Unfinished_Unfinished : PySem.W.kitOne K (.ref (He.ga K "Unfinished")) (.ref (He.ga K "Unfinished")) = some true
  kit_Unfinished_ValueError : PySem.W.kitOne K (.ref (He.ga K "Unfinished")) (.type "ValueError") = some true
  nf_BadRow_place : PySem.W.findIn K (.ref (He.ga K "BadRow")) "place" = some none
  nf_Falling_place : PySem.W.findIn K (.ref (He.ga K "Falling")) "place" = some none
  nf_Misplaced_place : PySem.W.findIn K (.ref (He.ga K "Misplaced")) "place" = some none
  nf_Twice_place : PySem.W.findIn K (.ref (He.ga K "Twice")) "place" = some none
  nf_Unfinished_place : PySem.W.findIn K (.ref (He.ga K "Unfinished")) "place" = some none
  oex_BadRow : OexC K (He.ga K "BadRow")
  oex_Misplaced : OexC K (He.ga K "Misplaced")
  oex_Unfinished : OexC K (He.ga K "Unfinished")
  tc_BREAKERS : ∀ H : Hp, SqT K H (He.ga K "BREAKERS") [.str "wins", .str "rate", .str "runs", .str "name"]
  xd_BadRow : ExcD K (He.ga K "BadRow")
  xd_Falling : ExcD K (He.ga K "Falling")
  xd_Misplaced : ExcD K (He.ga K "Misplaced")
  xd_NoEntry : ExcD K (He.ga K "NoEntry")
  xd_NotLet : ExcD K (He.ga K "NotLet")
  xd_Twice : ExcD K (He.ga K "Twice")
  xd_Unfinished : ExcD K (He.ga K "Unfinished")
theorem cutV_map {ns : List Int} {lo hi : Option Int} : ∃ ms : List Int, cutV (ns.map V.int) lo hi = ms.map V.int ∧ ms.length ≤ ns.length := by
  refine ⟨(ns.drop (HT.sIx (ns.map V.int).length 0 lo)).take (HT.sIx (ns.map V.int).length (ns.map V.int).length hi - HT.sIx (ns.map V.int).length 0 lo), ?_, ?_⟩
  · unfold cutV
    rw [List.map_take, List.map_drop]
  · rw [List.length_take, List.length_drop]
    omega


theorem cut_takeA {ms : List Int} {m : Nat} : cutV (ms.map V.int) none (some (m : Int)) = (ms.take m).map V.int := by
  by_cases h : m ≤ (ms.map V.int).length
  · rw [cut_take h, List.map_take]
  · unfold cutV
    rw [HT.sIx_none, HT.sIx_nat, List.drop_zero, Nat.sub_zero, List.map_take, Nat.min_eq_right (by omega), List.take_length, List.take_of_length_le (by omega)]
/-- a loop whose body is shown for any ends that let what is wanted (keeps the goals small) -/
theorem accLO {K : PySem.W.Frag} {σ : St} {H : Hp} {D : Ends} {α : Type} {a : Addr} (xs : List α) (emb : α → V) {g : TG} {tb : TS} (I : List α → St → Hp → Prop) (h0 : I [] σ H) (hG : ∀ pre σ H, I pre σ H → SqL K H a (xs.map emb))
    (hs : ∀ pre x σ H, x ∈ xs → (∃ post, xs = pre ++ x :: post) → I pre σ H → ∀ D' : Ends, (∀ σ H, I (pre ++ [x]) σ H → D'.nx σ H) → (∀ σ H, I (pre ++ [x]) σ H → D'.ct σ H) → (∀ v H, D.rt v H → D'.rt v H) → g (emb x) σ H fun σ2 H2 => tb D' σ2 H2) (hd : ∀ σ H, I xs σ H → D.nx σ H) : ForW (Itl K a) g tb D σ H :=
  ForW.accL xs emb I h0 hG (fun pre x σ H m p i => hs pre x σ H m p i _ (fun _ _ h => h) (fun _ _ h => h) (fun _ _ h => h)) hd
theorem go_powI {f : Int → Int → V} {a b : Int} {H : Hp} {Q : VK} (c : (0 ≤ b ∧ b ≤ 1000) ∧ (-1000 ≤ a ∧ a ≤ 1000)) (h : Q (f a b) H) : rI CPow f (.int a) (.int b) H Q := ⟨a, b, rfl, rfl, ⟨c.1.1, by omega, by omega⟩, h⟩

/-! ### _law_at -/
abbrev s__law_at : Stmt := top 24
abbrev N__law_at : List Str := ["_law_script", "_law_k"]
theorem sc__law_at : FnScope N__law_at ["_law_script", "_law_k"] (defScope s__law_at) := ⟨rfl, rfl, rfl, by decide +kernel, rfl, by decide +kernel, by decide +kernel⟩
def pr__law_at (K : PySem.W.Frag) : V → V → Hp → VK → XK → Prop := fun a0 a1 H Q E => ∃ (a : Addr) (ns : List Int) (k : Int), a0 = .ref a ∧ a1 = .int k ∧ SqL K H a (ns.map V.int) ∧ ns.length ≤ 63 ∧ 0 ≤ k ∧ ∀ z : Int, Q (.int z) H
abbrev sp__law_at (K : PySem.W.Frag) : Sp := Sp2 (pr__law_at K)
theorem ok__law_at {P : Program} {w : World} {K : PySem.W.Frag} {mg : Str → Option Value} {base : Heap} {f : Addr} {fd : FuncData} (F : FunD K "_law_at" "_law_at" (defArgs s__law_at) (defBody s__law_at) (defScope s__law_at) [] [] f fd) (T : Txt K mg)  : FnOk P w K mg base CX0 1 f fd ["_law_script", "_law_k"] (sp__law_at K) := by
  refine F.ok sc__law_at (fun vs H Q E h => len2 h) (fun cdv A outer s H vs Q E hr h => ?_)
  obtain ⟨a0, a1, rfl, h⟩ := h
  have hu := hu_of hr
  refine ⟨_, PSs.nox ((pss_cons (ps_if (pt_cmpR op_lt (pv 1) (pe_callB call_lenX (by rfl) T.b_len L2.A.boot_len (pa_cons (pv 0) pa_nil)) (nomark _)) (pss_one (ps_ret (pe_ix (ix_X hu) (pv 0) (pv 1) (fun _ _ => rfl)))) pss_nil)
      (pss_one (ps_ret pe_int)))), ?_⟩
  refine go_start (σ := [some a0, some a1]) rfl ?_
  try dsimp only [cxOf, Cx.nox, Cx.wish, Cx.tr, Cx.suite]
  obtain ⟨a, ns, k, rfl, rfl, hS, hn, k0, hq⟩ := h
  walk_at "*"
  rw [List.length_map]
  refine if2 (fun c => ?_) (fun c => ?_)
  · have c := of_decide_eq_true c
    obtain ⟨j, rfl⟩ : ∃ j : Nat, k = (j : Int) := ⟨k.toNat, by omega⟩
    have hj : j < ns.length := by omega
    walk_at "*"
    refine go_xL (v := .int ns[j]) hS (atI_nat (by rw [List.getElem?_map, List.getElem?_eq_getElem hj]; rfl)) ?_
    exact hq _
  · walk_at "*"
    exact hq _
/-! ### _law_mixed -/
abbrev s__law_mixed : Stmt := top 25
abbrev N__law_mixed : List Str := ["_law_cell", "_law_k", "_law_once"]
theorem sc__law_mixed : FnScope N__law_mixed ["_law_cell", "_law_k"] (defScope s__law_mixed) := ⟨rfl, rfl, rfl, by decide +kernel, rfl, by decide +kernel, by decide +kernel⟩
def pr__law_mixed (K : PySem.W.Frag) : V → V → Hp → VK → XK → Prop := fun a0 a1 H Q E => ∃ c k : Int, a0 = .int c ∧ a1 = .int k ∧ 0 ≤ k ∧ k ≤ 10000 ∧ ∀ r : Int, 0 ≤ r → r < 715827877 → Q (.int r) H
abbrev sp__law_mixed (K : PySem.W.Frag) : Sp := Sp2 (pr__law_mixed K)
theorem ok__law_mixed {P : Program} {w : World} {K : PySem.W.Frag} {mg : Str → Option Value} {base : Heap} {f : Addr} {fd : FuncData} (F : FunD K "_law_mixed" "_law_mixed" (defArgs s__law_mixed) (defBody s__law_mixed) (defScope s__law_mixed) [] [] f fd) (T : Txt K mg)  : FnOk P w K mg base CX0 1 f fd ["_law_cell", "_law_k"] (sp__law_mixed K) := by
  refine F.ok sc__law_mixed (fun vs H Q E h => len2 h) (fun cdv A outer s H vs Q E hr h => ?_)
  obtain ⟨a0, a1, rfl, h⟩ := h
  have hu := hu_of hr
  refine ⟨_, PSs.nox ((pss_cons (ps_set (i := 2) sc__law_mixed.nd rfl (by first | exact Or.inl rfl | exact Or.inr rfl) (pe_op op_mod (pe_op op_mulX (pe_op op_addX (pe_op op_addX (pe_op op_mod (pv 0) pe_int) (pe_op op_mulX pe_int (pv 1))) pe_int) pe_int) pe_int))
      (pss_one (ps_ret (pe_op op_fdiv (pe_op op_mod (pe_op op_mulX (pv 2) (pe_op op_addX (pe_op op_addX (pe_op op_mod (pv 2) pe_int) (pe_op op_mulX (pv 1) (pv 1))) pe_int)) pe_int) pe_int))))), ?_⟩
  refine go_start (σ := [some a0, some a1, none]) rfl ?_
  try dsimp only [cxOf, Cx.nox, Cx.wish, Cx.tr, Cx.suite]
  obtain ⟨c, k, rfl, rfl, h1, h2, hq⟩ := h
  walk_at "*"
  exact hq _ (by omega) (by omega)

/-- small letters -/
def LowL (cs : List Nat) : Prop := ∀ c ∈ cs, 97 ≤ c ∧ c ≤ 122
theorem low_ok {cs : List Nat} (h : LowL cs) : okV (.str ⟨cs.toArray⟩) = true := by
  show (Array.all _ _ : Bool) = true
  rw [Array.all_eq_true]
  intro i hi
  have m := h cs[i] (List.getElem_mem _)
  exact decide_eq_true (show cs[i] < 0x110000 by omega)
theorem abc_low : ∀ c ∈ ("abcdefghijklmnopqrstuvwxyz" : Str).cps.toList, 97 ≤ c ∧ c ≤ 122 := by decide +kernel


open TL (tl)
structure NmOk (z : Str) : Prop where
  low : LowL (tl z)
  ne : tl z ≠ []
  len : z.length ≤ 8
  two : 2 ≤ z.length
theorem NmOk.nes {z : Str} (h : NmOk z) : z ≠ "" := fun e => h.ne (by rw [e]; decide +kernel)
theorem NmOk.ok {z : Str} (h : NmOk z) : okV (.str z) = true := by
  have := low_ok h.low
  rwa [show (⟨(tl z).toArray⟩ : Str) = z by cases z; simp [tl]] at this
theorem abc_at : ∀ i : Nat, i < 26 → ("abcdefghijklmnopqrstuvwxyz" : Str).cps.toList[i]? = some (97 + i) := by decide +kernel
theorem abc_atI {r : Int} (h0 : 0 ≤ r) (h1 : r < 26) : L2.atI ("abcdefghijklmnopqrstuvwxyz" : Str).cps.toList r = some (97 + r.toNat) := by
  obtain ⟨j, rfl⟩ : ∃ j : Nat, r = (j : Int) := ⟨r.toNat, by omega⟩
  exact atI_nat (abc_at j (by omega))
theorem zq_at {k : Nat} (h : k < 52) : L2.atI ("zq" : Str).cps.toList ((k : Int) / 26) = some (if k < 26 then 122 else 113) := by
  by_cases c : k < 26
  · rw [if_pos c, show (k : Int) / 26 = 0 by omega]; decide +kernel
  · rw [if_neg c, show (k : Int) / 26 = 1 by omega]; decide +kernel
theorem cutS_sub {z : Str} {lo hi : Option Int} : ∀ c ∈ tl (cutS z lo hi), c ∈ tl z := fun c m => by
  have m : c ∈ (z.cps.toList.drop (HT.sIx z.length 0 lo)).take (HT.sIx z.length z.length hi - HT.sIx z.length 0 lo) := by simpa [tl, cutS] using m
  exact List.mem_of_mem_drop (List.mem_of_mem_take m)
theorem two_mul {a b : Nat} : tl (Txt.mul (⟨#[a]⟩ ++ ⟨#[b]⟩ : Str) 3) = [a, b, a, b, a, b] := by
  have e : (⟨#[a]⟩ ++ ⟨#[b]⟩ : Str) = ⟨#[a, b]⟩ := rfl
  rw [e]; rfl
theorem two_ok {a b : Nat} : MulOk (⟨#[a]⟩ ++ ⟨#[b]⟩ : Str) 3 := by
  have e : (⟨#[a]⟩ ++ ⟨#[b]⟩ : Str) = ⟨#[a, b]⟩ := rfl
  rw [e]
  have l : (⟨#[a, b]⟩ : Str).length = 2 := rfl
  refine ⟨by decide, fun _ _ => ?_, fun _ _ => ?_⟩
  · rw [l]; decide
  · rw [l]; decide +kernel
theorem cutS_low {z : Str} {lo hi : Option Int} (h : LowL (tl z)) : LowL (tl (cutS z lo hi)) ∧ (cutS z lo hi).length ≤ z.length := by
  exact ⟨fun c m => h c (cutS_sub c m), cutS_length _ _ _⟩
theorem cutS_len2 {z : Str} {lo hi : Int} (h0 : 0 ≤ lo) (h1 : lo ≤ hi) (h2 : hi ≤ z.length) : (cutS z none (some lo)).length + (cutS z (some lo) (some hi)).length ≤ hi.toNat := by
  obtain ⟨a, rfl⟩ : ∃ a : Nat, lo = (a : Int) := ⟨lo.toNat, by omega⟩
  obtain ⟨b, rfl⟩ : ∃ b : Nat, hi = (b : Int) := ⟨hi.toNat, by omega⟩
  rw [TL.len_tl, TL.len_tl]
  have e1 : tl (cutS z none (some (a : Int))) = (z.cps.toList.drop (HT.sIx z.length 0 none)).take (HT.sIx z.length z.length (some (a : Int)) - HT.sIx z.length 0 none) := by simp [tl, cutS]
  have e2 : tl (cutS z (some (a : Int)) (some (b : Int))) = (z.cps.toList.drop (HT.sIx z.length 0 (some (a : Int)))).take (HT.sIx z.length z.length (some (b : Int)) - HT.sIx z.length 0 (some (a : Int))) := by simp [tl, cutS]
  rw [e1, e2, HT.sIx_none, HT.sIx_nat, HT.sIx_nat, HT.sIx_nat]
  simp only [List.length_take, List.length_drop]
  omega
def nameF (pre post : Str) (sh : Nat) (k : Nat) : Str := pre ++ ⟨#[97 + (sh + k) % 26]⟩ ++ post ++ ⟨#[if k < 26 then 122 else 113]⟩
theorem nameF_tl {pre post : Str} {sh k : Nat} : tl (nameF pre post sh k) = tl pre ++ [97 + (sh + k) % 26] ++ tl post ++ [if k < 26 then 122 else 113] := by
  unfold nameF
  rw [TL.tl_append, TL.tl_append, TL.tl_append]
theorem nameF_inj {pre post : Str} {sh j k : Nat} (hj : j < 52) (hk : k < 52) (e : nameF pre post sh j = nameF pre post sh k) : j = k := by
  have e := congrArg tl e
  rw [nameF_tl, nameF_tl] at e
  obtain ⟨e1, e2⟩ := List.append_inj' e rfl
  obtain ⟨e3, -⟩ := List.append_inj' e1 rfl
  obtain ⟨-, e4⟩ := List.append_inj' e3 rfl
  injection e4 with e4
  injection e2 with e2
  split at e2 <;> split at e2 <;> omega
theorem nameF_ok {pre post : Str} {sh k : Nat} (h1 : LowL (tl pre)) (h2 : LowL (tl post)) (l : pre.length + post.length ≤ 6) : NmOk (nameF pre post sh k) := by
  refine ⟨?_, by rw [nameF_tl]; simp, ?_, by rw [TL.len_tl, nameF_tl]; simp only [List.length_append, List.length_singleton]; omega⟩
  · rw [nameF_tl]
    intro c m
    simp only [List.mem_append, List.mem_singleton] at m
    rcases m with ((m | m) | m) | m
    · exact h1 c m
    · omega
    · exact h2 c m
    · split at m <;> omega
  · rw [TL.len_tl, nameF_tl]
    simp only [List.length_append, List.length_singleton]
    have := TL.len_tl pre
    have := TL.len_tl post
    omega


theorem nameF_z {pre post : Str} {sh k : Nat} (h : k < 26) : (tl (nameF pre post sh k)).getLast? = some 122 := by
  rw [nameF_tl, if_pos h, List.getLast?_concat]

/-! ### _law_names -/
abbrev s__law_names : Stmt := top 26
abbrev N__law_names : List Str := ["_law_cell", "_law_many", "_law_letters", "_law_number", "_law_size", "_law_stem", "_law_at_here", "_law_shift", "_law_names_here", "_law_k", "_law_letter", "_law_word"]
theorem sc__law_names : FnScope N__law_names ["_law_cell", "_law_many"] (defScope s__law_names) := ⟨rfl, rfl, rfl, by decide +kernel, rfl, by decide +kernel, by decide +kernel⟩
def pr__law_names (K : PySem.W.Frag) : V → V → Hp → VK → XK → Prop := fun a0 a1 H Q E => ∃ (F : Hp) (R : Cells) (c : Int) (m : Nat), a0 = .int c ∧ a1 = .int (m : Nat) ∧ m ≤ 52 ∧ Sta F R H ∧ ∀ (f : Nat → Str) (l : Addr) (F' H' : Hp), Same F F' → F' l = some (.lst ((List.range m).map fun k => .str (f k))) → (∀ k, NmOk (f k)) → (∀ j k, j < 52 → k < 52 → f j = f k → j = k) → (∀ k, k < 26 → (tl (f k)).getLast? = some 122) → Sta F' R H' → Q (.ref l) H' 
abbrev sp__law_names (K : PySem.W.Frag) : Sp := Sp2 (pr__law_names K)
theorem ok__law_names {P : Program} {w : World} {K : PySem.W.Frag} {mg : Str → Option Value} {base : Heap} {f : Addr} {fd : FuncData} (F : FunD K "_law_names" "_law_names" (defArgs s__law_names) (defBody s__law_names) (defScope s__law_names) [] [] f fd) (T : Txt K mg) (d__law_mixed : Dn P w K mg base CX0 1 "_law_mixed" ["_law_cell", "_law_k"] [] (sp__law_mixed K)) : FnOk P w K mg base CX0 2 f fd ["_law_cell", "_law_many"] (sp__law_names K) := by
  refine F.ok sc__law_names (fun vs H Q E h => len2 h) (fun cdv A outer s H vs Q E hr h => ?_)
  obtain ⟨a0, a1, rfl, h⟩ := h
  have hu := hu_of hr
  refine ⟨_, PSs.nox ((pss_cons (ps_set (i := 2) sc__law_names.nd rfl (by first | exact Or.inl rfl | exact Or.inr rfl) pe_str)
      (pss_cons (ps_set (i := 3) sc__law_names.nd rfl (by first | exact Or.inl rfl | exact Or.inr rfl) (pe_d d__law_mixed (hr.mono (by decide)) rfl pass0 (pa_cons (pv 0) (pa_cons pe_int pa_nil))))
      (pss_cons (ps_set (i := 4) sc__law_names.nd rfl (by first | exact Or.inl rfl | exact Or.inr rfl) (pe_op op_mod (pv 3) pe_int))
      (pss_cons (ps_set (i := 5) sc__law_names.nd rfl (by first | exact Or.inl rfl | exact Or.inr rfl) (pe_op op_mulX (pe_op op_addX (pe_ix (ix_X hu) (pv 2) (pe_op op_mod (pe_op op_fdiv (pv 3) pe_int) pe_int) (fun _ _ => rfl)) (pe_ix (ix_X hu) (pv 2) (pe_op op_mod (pe_op op_fdiv (pv 3) pe_int) pe_int) (fun _ _ => rfl))) pe_int))
      (pss_cons (ps_set (i := 6) sc__law_names.nd rfl (by first | exact Or.inl rfl | exact Or.inr rfl) (pe_op op_mod (pe_op op_fdiv (pv 3) pe_int) (pe_op op_addX (pv 4) pe_int)))
      (pss_cons (ps_set (i := 7) sc__law_names.nd rfl (by first | exact Or.inl rfl | exact Or.inr rfl) (pe_op op_mod (pe_op op_fdiv (pv 3) pe_int) pe_int))
      (pss_cons (ps_set (i := 8) sc__law_names.nd rfl (by first | exact Or.inl rfl | exact Or.inr rfl) (pe_lst pa_nil))
      (pss_cons (ps_for PassesOwn.never rfl (pi_range1 rfl T.b_range (pa_cons (pv 1) pa_nil)) (pg_name (i := 9) sc__law_names.nd rfl (by first | exact Or.inl rfl | exact Or.inr rfl)) (pss_cons (ps_set (i := 10) sc__law_names.nd rfl (by first | exact Or.inl rfl | exact Or.inr rfl) (pe_ix (ix_X hu) (pv 2) (pe_op op_mod (pe_op op_addX (pv 7) (pv 9)) pe_int) (fun _ _ => rfl)))
      (pss_cons (ps_set (i := 11) sc__law_names.nd rfl (by first | exact Or.inl rfl | exact Or.inr rfl) (pe_op op_addX (pe_slice sl_X (pv 5) po_none (po_some (pv 6))) (pv 10)))
      (pss_one (ps_expr (pe_bm PySem.F.plainAttrs_list PySem.F.slot_list_append PySem.F.type_list_append mt_append (pv 8) (pa_cons (pe_op op_addX (pe_op op_addX (pv 11) (pe_slice sl_X (pv 5) (po_some (pv 6)) (po_some (pv 4)))) (pe_ix (ix_X hu) pe_str (pe_op op_fdiv (pv 9) pe_int) (fun _ _ => rfl))) pa_nil)))))))
      (pss_one (ps_ret (pv 8)))))))))))), ?_⟩
  refine go_start (σ := [some a0, some a1, none, none, none, none, none, none, none, none, none, none]) rfl ?_
  try dsimp only [cxOf, Cx.nox, Cx.wish, Cx.tr, Cx.suite]
  obtain ⟨F0, R0, c, m, rfl, rfl, hm, st0, hq⟩ := h
  walk_at "*"
  refine go_sp2 ⟨_, _, rfl, rfl, by omega, by omega, fun n n0 n1 => ?_⟩
  walk_at "*"
  refine go_xS (szl (Nat.le_of_ble_eq_true rfl)) (abc_atI (by omega) (by omega)) ?_
  walk_at "*"
  refine go_xS (szl (Nat.le_of_ble_eq_true rfl)) (abc_atI (by omega) (by omega)) ?_
  walk_at "*"
  refine go_addS (szl (by show 1 + 1 ≤ _; omega)) ?_
  walk_at "*"
  refine go_mulS two_ok ?_
  have hs : LowL (tl (Txt.mul ((⟨#[97 + (n / 7 % 26).toNat]⟩ : Str) ++ ⟨#[97 + (n / 182 % 26).toNat]⟩) 3)) ∧ (Txt.mul ((⟨#[97 + (n / 7 % 26).toNat]⟩ : Str) ++ ⟨#[97 + (n / 182 % 26).toNat]⟩) 3).length = 6 := by
    rw [TL.len_tl, two_mul]
    refine ⟨fun c m => ?_, rfl⟩
    simp only [List.mem_cons, List.not_mem_nil, or_false] at m
    omega
  generalize Txt.mul ((⟨#[97 + (n / 7 % 26).toNat]⟩ : Str) ++ ⟨#[97 + (n / 182 % 26).toNat]⟩) 3 = S at hs
  have s0 : 0 ≤ n % 7 ∧ n % 7 < 7 := by omega
  generalize n % 7 = sz at s0
  walk_at "*"
  have t0 : 0 ≤ n / 4732 % (sz + 1) ∧ n / 4732 % (sz + 1) ≤ sz := by
    have h1 := Int.emod_nonneg (n / 4732) (show sz + 1 ≠ 0 by omega)
    have h2 := Int.emod_lt_of_pos (n / 4732) (show 0 < sz + 1 by omega)
    omega
  generalize n / 4732 % (sz + 1) = at_ at t0
  have sh0 : ∃ sh : Nat, n / 40000 % 26 = (sh : Int) := ⟨(n / 40000 % 26).toNat, by omega⟩
  obtain ⟨sh, esh⟩ := sh0
  rw [esh]
  have l1 := cutS_low (lo := none) (hi := some at_) hs.1
  have l2 := cutS_low (lo := some at_) (hi := some sz) hs.1
  have l3 := cutS_len2 (z := S) (lo := at_) (hi := sz) t0.1 t0.2 (by rw [hs.2]; omega)
  have hS6 := hs.2
  walk_at "*"
  refine go_newLv st0 rfl fun l H1 st1 => ?_
  walk_at "*"
  rw [Int.toNat_natCast]
  refine ForW.range (fun i σ H' => ∃ v9 v10 v11, Sta F0 ((l, .lst ((List.range i).map fun k => .str (nameF (cutS S none (some at_)) (cutS S (some at_) (some sz)) sh k))) :: R0) H' ∧ σ = [some (.int c), some (.int (m : Nat)), some (.str "abcdefghijklmnopqrstuvwxyz"), some (.int n), some (.int sz), some (.str S), some (.int at_), some (.int (sh : Nat)), some (.ref l), v9, v10, v11])
    ⟨_, _, _, st1, rfl⟩ ?_ ?_
  · rintro i σ H2 hi ⟨v9, v10, v11, st2, rfl⟩
    clear st1
    rw [Int.zero_add]
    walk_at "*"
    refine go_xS (szl (Nat.le_of_ble_eq_true rfl)) (abc_atI (by omega) (by omega)) ?_
    rw [show (((sh : Int) + (i : Int)) % 26).toNat = (sh + i) % 26 by omega]
    walk_at "*"
    refine go_slS (szl (by omega)) ?_
    walk_at "*"
    refine go_addS (szl (by have : (⟨#[97 + (sh + i) % 26]⟩ : Str).length = 1 := rfl; omega)) ?_
    walk_at "*"
    refine go_slS (szl (by omega)) ?_
    walk_at "*"
    refine go_addS (szl (by
      have e1 : (⟨#[97 + (sh + i) % 26]⟩ : Str).length = 1 := rfl
      rw [TL.len_tl (cutS S none (some at_) ++ _), TL.tl_append, List.length_append, ← TL.len_tl, ← TL.len_tl]
      omega)) ?_
    walk_at "*"
    refine go_xS (szl (Nat.le_of_ble_eq_true rfl)) (zq_at (by omega)) ?_
    walk_at "*"
    refine go_addS (szl (by
      have e1 : (⟨#[97 + (sh + i) % 26]⟩ : Str).length = 1 := rfl
      have e2 : (⟨#[if i < 26 then 122 else 113]⟩ : Str).length = 1 := rfl
      rw [TL.len_tl (cutS S none (some at_) ++ _ ++ _), TL.tl_append, TL.tl_append, List.length_append, List.length_append, ← TL.len_tl, ← TL.len_tl, ← TL.len_tl]
      omega)) ?_
    walk_at "*"
    refine go_appendS st2 .rfl (by rw [List.length_map, List.length_range]; omega) fun H3 st3 => ?_
    walk_at "*"
    refine ⟨_, _, _, ?_, rfl⟩
    rw [List.range_succ, List.map_append]
    exact st3
  · rintro σ H2 ⟨v9, v10, v11, st2, rfl⟩
    walk_at "*"
    obtain ⟨F3, s3, e3, st3⟩ := st2.freeze .rfl
    exact hq _ l F3 _ s3 e3 (fun k => nameF_ok l1.1 l2.1 (by omega)) (fun j k hj hk => nameF_inj hj hk) (fun k hk => nameF_z hk) st3
theorem nd_ne {xs : List Str} (h : xs.Nodup) {i j : Nat} (hi : i < xs.length) (hj : j < xs.length) (ne : i ≠ j) : xs[i] ≠ xs[j] := by
  have p := List.pairwise_iff_getElem.mp h
  rcases Nat.lt_or_gt_of_ne ne with l | l
  · exact p i j hi hj l
  · exact fun z => p j i hj hi l z.symm


theorem menuIn {L : List Int} {r : Int} (h0 : 0 ≤ r) (h1 : r < L.length) (P : Int → Prop) (h : ∀ k ∈ L, P k) : ∃ k, L2.atI (L.map V.int) r = some (.int k) ∧ P k := by
  obtain ⟨k, e, m⟩ := menuI h0 h1
  exact ⟨k, e, h k m⟩
/-- a loop over an enumerated list, its body shown for any ends -/
theorem accEG {K : PySem.W.Frag} {σ : St} {H : Hp} {D : Ends} {α : Type} {a : Addr} (xs : List α) (emb : α → V) {g : TG} {tb : TS} (I : List α → St → Hp → Prop) (h0 : I [] σ H) (hG : ∀ pre σ H, I pre σ H → SqL K H a (xs.map emb))
    (hs : ∀ pre x post T σ H, xs = pre ++ x :: post → I pre σ H → H T = none → ∀ D' : Ends, (∀ σ H, I (pre ++ [x]) σ H → D'.nx σ H) → (∀ σ H, I (pre ++ [x]) σ H → D'.ct σ H) → (∀ v H, D.rt v H → D'.rt v H) → g (.ref T) σ (upd H T (.tup [.int (pre.length : Nat), emb x])) fun σ2 H2 => tb D' σ2 H2) (hd : ∀ σ H, I xs σ H → D.nx σ H) : ForW (Ite K a) g tb D σ H := by
  refine ForW.it (walk_enum (xs := xs.map emb)) (fun i => I (xs.take i)) h0 (fun i σ H _ h => hG _ σ H h) ?_ (fun σ H h => hd σ H (by rw [List.length_map, List.take_length] at h; exact h))
  rintro i x σ H4 H5 hi h ⟨T, y, u, rfl, hT, rfl, ey, eu⟩
  cases ey
  rw [List.length_map] at hi
  have eu : (xs.map emb)[i]? = some u := eu
  rw [List.getElem?_map, List.getElem?_eq_getElem hi] at eu
  cases eu
  have lp : (xs.take i).length = i := by rw [List.length_take]; omega
  have ep : xs = xs.take i ++ xs[i] :: xs.drop (i + 1) := by rw [← List.drop_eq_getElem_cons hi, List.take_append_drop]
  have et : xs.take (i + 1) = xs.take i ++ [xs[i]] := by rw [List.take_add_one, List.getElem?_eq_getElem hi]; rfl
  have := hs (xs.take i) xs[i] (xs.drop (i + 1)) T σ H4 ep h hT
  rw [lp, ← et] at this
  exact this _ (fun _ _ h => h) (fun _ _ h => h) (fun _ _ h => h)


/-- a game: runs and balls of the one, of the other -/
structure LG where
  (a : Str) (r n : Int) (b : Str) (s m : Int)
abbrev gL (g : LG) : List V := [.str g.a, .int g.r, .int g.n, .str g.b, .int g.s, .int g.m]
structure LGok (ns : List Str) (g : LG) : Prop where
  a : g.a ∈ ns
  b : g.b ∈ ns
  ne : g.a ≠ g.b
  r : 0 ≤ g.r ∧ g.r ≤ 9999
  s : 0 ≤ g.s ∧ g.s ≤ 9999
  n : 1 ≤ g.n ∧ g.n ≤ 9999
  m : 1 ≤ g.m ∧ g.m ≤ 9999
abbrev GS := List (Addr × LG)
abbrev lgL (gs : GS) : List V := gs.map fun x => V.ref x.1
abbrev gv (gs : GS) : List LG := gs.map Prod.snd
def GF (F : Hp) (gs : GS) : Prop := ∀ x ∈ gs, F x.1 = some (.tup (gL x.2))
theorem GF.same {F F' : Hp} {gs : GS} (h : GF F gs) (s : Same F F') : GF F' gs := fun x m => s _ _ (h x m)
theorem GF.snoc {F : Hp} {gs : GS} {q : Addr} {g : LG} (h : GF F gs) (hq : F q = some (.tup (gL g))) : GF F (gs ++ [(q, g)]) := fun x m => by
  rcases List.mem_append.mp m with m | m
  · exact h x m
  · rw [List.mem_singleton.mp m]; exact hq
theorem nd_at {ns : List Str} (nd : ns.Nodup) {i j : Nat} {x y : Str} (hi : ns[i]? = some x) (hj : ns[j]? = some y) (ne : i ≠ j) : x ≠ y := by
  obtain ⟨h1, rfl⟩ := List.getElem?_eq_some_iff.mp hi
  obtain ⟨h2, rfl⟩ := List.getElem?_eq_some_iff.mp hj
  exact nd_ne nd h1 h2 ne
theorem nm_at {ns : List Str} {r : Int} (h0 : 0 ≤ r) (h1 : r < ns.length) : ∃ z, L2.atI (ns.map V.str) r = some (.str z) ∧ ns[r.toNat]? = some z := by
  obtain ⟨k, rfl⟩ : ∃ k : Nat, r = (k : Int) := ⟨r.toNat, by omega⟩
  have hk : k < ns.length := by omega
  exact ⟨ns[k], atI_nat (by rw [List.getElem?_map, List.getElem?_eq_getElem hk]; rfl), by rw [Int.toNat_natCast, List.getElem?_eq_getElem hk]⟩
theorem two_ix {x n y : Int} (hn : 2 ≤ n) : ∃ i j : Nat, x % n = (i : Int) ∧ (x % n + 1 + y % (n - 1)) % n = (j : Int) ∧ (i : Int) < n ∧ (j : Int) < n ∧ i ≠ j := by
  have a0 := Int.emod_nonneg x (show n ≠ 0 by omega)
  have a1 := Int.emod_lt_of_pos x (show 0 < n by omega)
  have b0 := Int.emod_nonneg y (show n - 1 ≠ 0 by omega)
  have b1 := Int.emod_lt_of_pos y (show 0 < n - 1 by omega)
  generalize x % n = u at *
  generalize y % (n - 1) = w at *
  have c0 := Int.emod_nonneg (u + 1 + w) (show n ≠ 0 by omega)
  have c1 := Int.emod_lt_of_pos (u + 1 + w) (show 0 < n by omega)
  refine ⟨u.toNat, ((u + 1 + w) % n).toNat, by omega, by omega, by omega, by omega, fun e => ?_⟩
  by_cases h : u + 1 + w < n
  · rw [Int.emod_eq_of_lt (by omega) h] at e; omega
  · have e2 : (u + 1 + w) % n = u + 1 + w - n := by
      rw [← Int.emod_eq_of_lt (show 0 ≤ u + 1 + w - n by omega) (show u + 1 + w - n < n by omega)]
      exact (Int.sub_emod_right ..).symm
    rw [e2] at e; omega
def BRK : List Str := ["wins", "rate", "runs", "name"]
structure BrOk (bs : List Str) : Prop where
  ne : bs ≠ []
  nd : bs.Nodup
  sub : ∀ z ∈ bs, z ∈ BRK
  len : bs.length ≤ 4

/-! ### _law_small_game -/
abbrev s__law_small_game : Stmt := top 28
abbrev N__law_small_game : List Str := ["_law_names_here", "_law_n", "_law_one", "_law_two", "_law_runs", "_law_balls", "_law_against"]
theorem sc__law_small_game : FnScope N__law_small_game ["_law_names_here", "_law_n"] (defScope s__law_small_game) := ⟨rfl, rfl, rfl, by decide +kernel, rfl, by decide +kernel, by decide +kernel⟩
def pr__law_small_game (K : PySem.W.Frag) : V → V → Hp → VK → XK → Prop := fun a0 a1 H Q E => ∃ (F : Hp) (R : Cells) (l : Addr) (ns : List Str) (n : Int), a0 = .ref l ∧ a1 = .int n ∧ F l = some (.lst (ns.map V.str)) ∧ 2 ≤ ns.length ∧ ns.length ≤ 30 ∧ ns.Nodup ∧ Sta F R H ∧ ∀ (t : Addr) (g : LG) (F' H' : Hp), LGok ns g → Same F F' → F' t = some (.tup (gL g)) → Sta F' R H' → Q (.ref t) H' 
abbrev sp__law_small_game (K : PySem.W.Frag) : Sp := Sp2 (pr__law_small_game K)
theorem ok__law_small_game {P : Program} {w : World} {K : PySem.W.Frag} {mg : Str → Option Value} {base : Heap} {f : Addr} {fd : FuncData} (F : FunD K "_law_small_game" "_law_small_game" (defArgs s__law_small_game) (defBody s__law_small_game) (defScope s__law_small_game) [] [] f fd) (T : Txt K mg)  : FnOk P w K mg base CX0 1 f fd ["_law_names_here", "_law_n"] (sp__law_small_game K) := by
  refine F.ok sc__law_small_game (fun vs H Q E h => len2 h) (fun cdv A outer s H vs Q E hr h => ?_)
  obtain ⟨a0, a1, rfl, h⟩ := h
  have hu := hu_of hr
  refine ⟨_, PSs.nox ((pss_cons (ps_set (i := 2) sc__law_small_game.nd rfl (by first | exact Or.inl rfl | exact Or.inr rfl) (pe_op op_mod (pv 1) (pe_callB call_lenX (by rfl) T.b_len L2.A.boot_len (pa_cons (pv 0) pa_nil))))
      (pss_cons (ps_set (i := 3) sc__law_small_game.nd rfl (by first | exact Or.inl rfl | exact Or.inr rfl) (pe_op op_mod (pe_op op_addX (pe_op op_addX (pv 2) pe_int) (pe_op op_mod (pe_op op_fdiv (pv 1) pe_int) (pe_op op_sub (pe_callB call_lenX (by rfl) T.b_len L2.A.boot_len (pa_cons (pv 0) pa_nil)) pe_int))) (pe_callB call_lenX (by rfl) T.b_len L2.A.boot_len (pa_cons (pv 0) pa_nil))))
      (pss_cons (ps_set (i := 4) sc__law_small_game.nd rfl (by first | exact Or.inl rfl | exact Or.inr rfl) (pe_ix (ix_X hu) (pe_lst (pa_cons (pe_op op_mod (pe_op op_fdiv (pv 1) pe_int) pe_int) (pa_cons (pe_op op_mod (pe_op op_fdiv (pv 1) pe_int) pe_int) (pa_cons pe_int (pa_cons pe_int pa_nil))))) (pe_op op_mod (pe_op op_fdiv (pv 1) pe_int) pe_int) (fun _ _ => rfl)))
      (pss_cons (ps_set (i := 5) sc__law_small_game.nd rfl (by first | exact Or.inl rfl | exact Or.inr rfl) (pe_ix (ix_X hu) (pe_lst (pa_cons pe_int (pa_cons pe_int (pa_cons pe_int (pa_cons pe_int pa_nil))))) (pe_op op_mod (pe_op op_fdiv (pv 1) pe_int) pe_int) (fun _ _ => rfl)))
      (pss_cons (ps_set (i := 6) sc__law_small_game.nd rfl (by first | exact Or.inl rfl | exact Or.inr rfl) (pe_ix (ix_X hu) (pe_lst (pa_cons (pv 4) (pa_cons (pe_op op_mod (pe_op op_fdiv (pv 1) pe_int) pe_int) (pa_cons (pe_op op_mod (pe_op op_fdiv (pv 1) pe_int) pe_int) pa_nil)))) (pe_op op_mod (pe_op op_fdiv (pv 1) pe_int) pe_int) (fun _ _ => rfl)))
      (pss_one (ps_ret (pe_tup (pa_cons (pe_ix (ix_X hu) (pv 0) (pv 2) (fun _ _ => rfl)) (pa_cons (pv 4) (pa_cons (pv 5) (pa_cons (pe_ix (ix_X hu) (pv 0) (pv 3) (fun _ _ => rfl)) (pa_cons (pv 6) (pa_cons (pe_ix (ix_X hu) (pe_lst (pa_cons (pv 5) (pa_cons pe_int (pa_cons pe_int (pa_cons pe_int pa_nil))))) (pe_op op_mod (pe_op op_fdiv (pv 1) pe_int) pe_int) (fun _ _ => rfl)) pa_nil))))))))))))))), ?_⟩
  refine go_start (σ := [some a0, some a1, none, none, none, none, none]) rfl ?_
  try dsimp only [cxOf, Cx.nox, Cx.wish, Cx.tr, Cx.suite]
  obtain ⟨F, R, l, ns, n, rfl, rfl, hl, l2, l30, nd, st, hq⟩ := h
  have ll : (ns.map V.str).length = ns.length := List.length_map ..
  walk_at "*"
  rw [ll]
  walk_at "*"
  obtain ⟨i, j, ei, ej, hi, hj, ne⟩ := two_ix (x := n) (y := n / 8) (n := (ns.length : Int)) (by omega)
  rw [ej, ei]
  walk_at "*"
  refine go_newF st fun l1 F1 H1 s1 e1 st1 => ?_
  have hl := s1 _ _ hl
  clear st
  walk_at "*"
  obtain ⟨m1, em1, pm1⟩ := menuIn (L := [n / 100 % 4, n / 100 % 40, 9999, 0]) (r := n / 57 % 4) (by omega) (by show n / 57 % 4 < 4; omega) (fun k => 0 ≤ k ∧ k ≤ 9999) (by intro k hk; simp only [List.mem_cons, List.not_mem_nil, or_false] at hk; omega)
  refine go_xL (.of (st1.of e1)) em1 ?_
  clear em1 e1
  walk_at "*"
  refine go_newF st1 fun l2 F2 H2 s2 e2 st2 => ?_
  have hl := s2 _ _ hl
  clear st1
  walk_at "*"
  obtain ⟨m2, em2, pm2⟩ := menuIn (L := [1, 2, 3, 6]) (r := n / 4000 % 4) (by omega) (by show n / 4000 % 4 < 4; omega) (fun k => 1 ≤ k ∧ k ≤ 9999) (by intro k hk; simp only [List.mem_cons, List.not_mem_nil, or_false] at hk; omega)
  refine go_xL (.of (st2.of e2)) em2 ?_
  clear em2 e2
  walk_at "*"
  refine go_newF st2 fun l3 F3 H3 s3 e3 st3 => ?_
  have hl := s3 _ _ hl
  clear st2
  walk_at "*"
  obtain ⟨m3, em3, pm3⟩ := menuIn (L := [m1, n / 16000 % 4, n / 16000 % 40]) (r := n / 7 % 3) (by omega) (by show n / 7 % 3 < 3; omega) (fun k => 0 ≤ k ∧ k ≤ 9999) (by intro k hk; simp only [List.mem_cons, List.not_mem_nil, or_false] at hk; omega)
  refine go_xL (.of (st3.of e3)) em3 ?_
  clear em3 e3
  walk_at "*"
  obtain ⟨x, ex, kx⟩ := nm_at (ns := ns) (r := (i : Int)) (by omega) hi
  refine go_xL (.of (st3.of hl)) ex ?_
  walk_at "*"
  obtain ⟨y, ey, ky⟩ := nm_at (ns := ns) (r := (j : Int)) (by omega) hj
  refine go_xL (.of (st3.of hl)) ey ?_
  rw [Int.toNat_natCast] at kx ky
  walk_at "*"
  refine go_newF st3 fun l4 F4 H4 s4 e4 st4 => ?_
  have hl := s4 _ _ hl
  clear st3
  walk_at "*"
  obtain ⟨m4, em4, pm4⟩ := menuIn (L := [m2, 1, 6, 9999]) (r := n / 11 % 4) (by omega) (by show n / 11 % 4 < 4; omega) (fun k => 1 ≤ k ∧ k ≤ 9999) (by intro k hk; simp only [List.mem_cons, List.not_mem_nil, or_false] at hk; omega)
  refine go_xL (.of (st4.of e4)) em4 ?_
  clear em4 e4
  walk_at "*"
  rename_i t F5 H5 s5 e5 st5
  exact hq t ⟨x, m1, m2, y, m3, m4⟩ F5 _ ⟨List.mem_of_getElem? kx, List.mem_of_getElem? ky, nd_at nd kx ky ne, pm1, pm3, pm2, pm4⟩ (s1.trans (s2.trans (s3.trans (s4.trans s5)))) e5 st5

local macro_rules | `(tactic| walk_at "1") => `(tactic| first | ((with_reducible refine' go_I ?e ?_); (case e => exact wide_div (b := 70) (by decide +kernel) (by decide +kernel) (by decide) (by decide))) | fail)

local macro_rules | `(tactic| walk_at "1") => `(tactic| first | with_reducible refine Go.go ?_ | fail)

/-! ### _law_games -/
abbrev s__law_games : Stmt := top 29
abbrev N__law_games : List Str := ["_law_script", "_law_names_here", "_law_most", "_law_games_here", "_law_cell", "_law_x", "_law_k", "_law_one", "_law_two", "_law_mine"]
theorem sc__law_games : FnScope N__law_games ["_law_script", "_law_names_here", "_law_most"] (defScope s__law_games) := ⟨rfl, rfl, rfl, by decide +kernel, rfl, by decide +kernel, by decide +kernel⟩
def pr__law_games (K : PySem.W.Frag) : V → V → V → Hp → VK → XK → Prop := fun a0 a1 a2 H Q E => ∃ (F : Hp) (R : Cells) (sc l : Addr) (cs : List Int) (ns : List Str) (m : Nat), a0 = .ref sc ∧ a1 = .ref l ∧ a2 = .int (m : Nat) ∧ SqL K F sc (cs.map V.int) ∧ cs.length ≤ 63 ∧ m ≤ 100 ∧ F l = some (.lst (ns.map V.str)) ∧ 2 ≤ ns.length ∧ ns.length ≤ 30 ∧ ns.Nodup ∧ Sta F R H ∧ ∀ (t : Addr) (gs : GS) (F' H' : Hp), (∀ g ∈ gv gs, LGok ns g) → gs.length ≤ m → Same F F' → F' t = some (.lst (lgL gs)) → GF F' gs → Sta F' R H' → Q (.ref t) H' 
abbrev sp__law_games (K : PySem.W.Frag) : Sp := Sp3 (pr__law_games K)
theorem ok__law_games {P : Program} {w : World} {K : PySem.W.Frag} {mg : Str → Option Value} {base : Heap} {f : Addr} {fd : FuncData} (F : FunD K "_law_games" "_law_games" (defArgs s__law_games) (defBody s__law_games) (defScope s__law_games) [] [] f fd) (T : Txt K mg) (d__law_at : Dn P w K mg base CX0 1 "_law_at" ["_law_script", "_law_k"] [] (sp__law_at K)) (d__law_small_game : Dn P w K mg base CX0 1 "_law_small_game" ["_law_names_here", "_law_n"] [] (sp__law_small_game K)) (d__law_mixed : Dn P w K mg base CX0 1 "_law_mixed" ["_law_cell", "_law_k"] [] (sp__law_mixed K)) : FnOk P w K mg base CX0 2 f fd ["_law_script", "_law_names_here", "_law_most"] (sp__law_games K) := by
  refine F.ok sc__law_games (fun vs H Q E h => len3 h) (fun cdv A outer s H vs Q E hr h => ?_)
  obtain ⟨a0, a1, a2, rfl, h⟩ := h
  have hu := hu_of hr
  refine ⟨_, PSs.nox ((pss_cons (ps_set (i := 3) sc__law_games.nd rfl (by first | exact Or.inl rfl | exact Or.inr rfl) (pe_lst pa_nil))
      (pss_cons (ps_if (pt_cmpR (op_eqX hr.units) (pe_op op_mod (pe_d d__law_at (hr.mono (by decide)) rfl pass0 (pa_cons (pv 0) (pa_cons pe_int pa_nil))) pe_int) pe_int (nomark _)) (pss_cons (ps_for PassesOwn.never rfl (pi_enum (by rfl) T.b_enumerate (pa_cons (pe_slice sl_X (pe_slice sl_X (pv 0) (po_some pe_int) po_none) po_none (po_some (pv 2))) pa_nil)) (pg_tup (n := 2) rfl (pgs_cons (pg_name (i := 6) sc__law_games.nd rfl (by first | exact Or.inl rfl | exact Or.inr rfl)) (pgs_cons (pg_name (i := 4) sc__law_games.nd rfl (by first | exact Or.inl rfl | exact Or.inr rfl)) pgs_nil))) (pss_one (ps_expr (pe_bm PySem.F.plainAttrs_list PySem.F.slot_list_append PySem.F.type_list_append mt_append (pv 3) (pa_cons (pe_d d__law_small_game (hr.mono (by decide)) rfl pass0 (pa_cons (pv 1) (pa_cons (pe_d d__law_mixed (hr.mono (by decide)) rfl pass0 (pa_cons (pe_d d__law_mixed (hr.mono (by decide)) rfl pass0 (pa_cons (pv 4) (pa_cons (pv 6) pa_nil))) (pa_cons (pe_op op_addX (pv 6) pe_int) pa_nil))) pa_nil))) pa_nil)))))
      (pss_one (ps_ret (pv 3)))) pss_nil)
      (pss_cons (ps_for PassesOwn.never rfl (pi_X (pe_slice sl_X (pv 0) (po_some pe_int) po_none)) (pg_name (i := 4) sc__law_games.nd rfl (by first | exact Or.inl rfl | exact Or.inr rfl)) (pss_cons (ps_set (i := 5) sc__law_games.nd rfl (by first | exact Or.inl rfl | exact Or.inr rfl) (pv 4))
      (pss_one (ps_while PassesOwn.never (PW.pt (pw_and (pt_cmpR (op_neX hr.units) (pv 5) pe_int (nomark _)) (pw_and (pt_cmpR (op_neX hr.units) (pv 5) (pe_un un_neg pe_int) (nomark _)) (pw_and1 (pt_cmpR op_lt (pe_callB call_lenX (by rfl) T.b_len L2.A.boot_len (pa_cons (pv 3) pa_nil)) (pv 2) (nomark _)))))) (pss_cons (ps_set (i := 7) sc__law_games.nd rfl (by first | exact Or.inl rfl | exact Or.inr rfl) (pe_op op_mod (pv 5) (pe_callB call_lenX (by rfl) T.b_len L2.A.boot_len (pa_cons (pv 1) pa_nil))))
      (pss_cons (ps_set (i := 8) sc__law_games.nd rfl (by first | exact Or.inl rfl | exact Or.inr rfl) (pe_op op_mod (pe_op op_addX (pe_op op_addX (pv 7) pe_int) (pe_op op_mod (pe_op op_fdivW (pv 5) pe_int) (pe_op op_sub (pe_callB call_lenX (by rfl) T.b_len L2.A.boot_len (pa_cons (pv 1) pa_nil)) pe_int))) (pe_callB call_lenX (by rfl) T.b_len L2.A.boot_len (pa_cons (pv 1) pa_nil))))
      (pss_cons (ps_set (i := 9) sc__law_games.nd rfl (by first | exact Or.inl rfl | exact Or.inr rfl) (pe_tup (pa_cons (pe_ix (ix_X hu) (pv 1) (pv 7) (fun _ _ => rfl)) (pa_cons (pe_op op_mod (pe_op op_fdivW (pv 5) pe_int) pe_int) (pa_cons (pe_op op_addX pe_int (pe_op op_mod (pe_op op_fdivW (pv 5) pe_int) pe_int)) pa_nil)))))
      (pss_cons (ps_expr (pe_bm PySem.F.plainAttrs_list PySem.F.slot_list_append PySem.F.type_list_append mt_append (pv 3) (pa_cons (pe_op op_addX (pv 9) (pe_tup (pa_cons (pe_ix (ix_X hu) (pv 1) (pv 8) (fun _ _ => rfl)) (pa_cons (pe_op op_mod (pe_op op_fdivW (pv 5) pe_int) pe_int) (pa_cons (pe_op op_addX pe_int (pe_op op_mod (pe_op op_fdivW (pv 5) (pe_op op_mulX pe_int (pe_op op_pow pe_int pe_int))) pe_int)) pa_nil))))) pa_nil)))
      (pss_one (ps_set (i := 5) sc__law_games.nd rfl (by first | exact Or.inl rfl | exact Or.inr rfl) (pe_op op_fdivW (pv 5) (pe_op op_mulX pe_int (pe_op op_pow pe_int pe_int)))))))))))))
      (pss_one (ps_ret (pv 3))))))), ?_⟩
  refine go_start (σ := [some a0, some a1, some a2, none, none, none, none, none, none, none]) rfl ?_
  try dsimp only [cxOf, Cx.nox, Cx.wish, Cx.tr, Cx.suite]
  obtain ⟨F, R, sc, l, cs, ns, m, rfl, rfl, rfl, hS, lc, lm, hl, l2, l30, nd, st, hq⟩ := h
  walk_at "*"
  refine go_newLv st rfl fun gl H1 st1 => ?_
  clear st
  walk_at "*"
  refine go_sp2 ⟨sc, cs, 0, rfl, rfl, st1.seqL hS, lc, by omega, fun z => ?_⟩
  walk_at "*"
  rw [decI]
  obtain ⟨ms, ems, lms⟩ := cutV_map (ns := cs) (lo := some (2 : Int)) (hi := none)
  refine if2 (fun c => ?_) (fun c => ?_)
  · walk_at "*"
    refine go_slL (st1.seqL hS) ems ?_
    refine go_newF st1 fun u1 F2 H2 s2 e2 st2 => ?_
    walk_at "*"
    refine go_slL (.of (st2.of e2)) cut_takeA ?_
    refine go_newF st2 fun u2 F3 H3 s3 e3 st3 => ?_
    have hl := (s2.trans s3) _ _ hl
    clear st1 st2
    walk_at "*"
    refine go_enW (.of (st3.of e3)) ?_
    refine accEG (ms.take m) V.int (fun pre σ H' => ∃ (gs : GS) (F' : Hp) (v4 v6 : Option V), gs.length = pre.length ∧ (∀ g ∈ gv gs, LGok ns g) ∧ Same F3 F' ∧ GF F' gs ∧ Sta F' ((gl, .lst (lgL gs)) :: R) H' ∧ σ = [some (.ref sc), some (.ref l), some (.int (m : Nat)), some (.ref gl), v4, none, v6, none, none, none])
      ⟨[], F3, _, _, rfl, fun g h => (by cases h), .refl _, fun x h => (by cases h), st3, rfl⟩ (fun pre σ H' ⟨_, _, _, _, _, _, s', _, st', _⟩ => .of (st'.of (s' _ _ e3))) ?_ ?_
    · rintro pre x post T σ H4 ep ⟨gs, F4, v4, v6, lg, og, s4, gf, st4, rfl⟩ hT D' hnx hct hrt
      have lp : pre.length < m := by
        have := congrArg List.length ep
        rw [List.length_take, List.length_append, List.length_cons] at this
        omega
      obtain ⟨F5, s5, e5, st5⟩ := st4.newF hT (same_new (o := .tup [.int (pre.length : Nat), .int x]) hT) upd_same
      generalize upd H4 T (.tup [.int (pre.length : Nat), .int x]) = H5 at *
      clear st3 st4
      walk_at "*"
      refine go_sp2 ⟨_, _, rfl, rfl, by omega, by omega, fun r1 r10 r11 => ?_⟩
      walk_at "*"
      refine go_sp2 ⟨_, _, rfl, rfl, by omega, by omega, fun r2 r20 r21 => ?_⟩
      walk_at "*"
      refine go_sp2 ⟨F5, _, l, ns, r2, rfl, rfl, (s4.trans s5) _ _ hl, l2, l30, nd, st5, fun t g F6 H6 ok s6 e6 st6 => ?_⟩
      clear st5
      walk_at "*"
      rename_i H7 st7
      exact hnx _ _ ⟨gs ++ [(t, g)], F6, _, _, by rw [List.length_append, List.length_append, lg]; rfl, fun g' h' => by
        rw [show gv (gs ++ [(t, g)]) = gv gs ++ [g] by simp [gv], List.mem_append, List.mem_singleton] at h'
        rcases h' with h' | rfl
        · exact og _ h'
        · exact ok, s4.trans (s5.trans s6), (gf.same (s5.trans s6)).snoc e6, by rw [show lgL (gs ++ [(t, g)]) = lgL gs ++ [.ref t] by simp [lgL]]; exact st7, rfl⟩
    · rintro σ H4 ⟨gs, F4, v4, v6, lg, og, s4, gf, st4, rfl⟩
      clear st3
      obtain ⟨F5, s5, e5, st5⟩ := st4.freeze .rfl
      clear st4
      walk_at "*"
      exact hq gl gs F5 _ og (by rw [lg, List.length_take]; omega) (s2.trans (s3.trans (s4.trans s5))) e5 (gf.same s5) st5
  walk_at "*"
  refine go_slL (st1.seqL hS) ems ?_
  refine go_newF st1 fun u1 F2 H2 s2 e2 st2 => ?_
  have hl := s2 _ _ hl
  have ll : (ns.map V.str).length = ns.length := List.length_map ..
  clear st1
  walk_at "*"
  refine go_iL (.of (st2.of e2)) ?_
  obtain ⟨I, hI⟩ : ∃ I : Option V → St → Hp → Prop, I = fun v5 σ H' => ∃ (gs : GS) (F' : Hp) (v4 v7 v8 v9 : Option V), gs.length ≤ m ∧ (∀ g ∈ gv gs, LGok ns g) ∧ Same F2 F' ∧ GF F' gs ∧ Sta F' ((gl, .lst (lgL gs)) :: R) H' ∧ σ = [some (.ref sc), some (.ref l), some (.int (m : Nat)), some (.ref gl), v4, v5, none, v7, v8, v9] := ⟨_, rfl⟩
  refine accLO ms V.int (fun pre σ H' => ∃ v5, I v5 σ H') ⟨_, by rw [hI]; exact ⟨[], F2, _, _, _, _, Nat.zero_le _, fun g h => (by cases h), .refl _, fun x h => (by cases h), st2, rfl⟩⟩ (fun pre σ H' ⟨_, h⟩ => by rw [hI] at h; obtain ⟨_, _, _, _, _, _, _, _, s', _, st', _⟩ := h; exact .of (st'.of (s' _ _ e2))) ?_ ?_
  · rintro pre x σ H3 mx - ⟨v5, h⟩ D' hnx hct hrt
    rw [hI] at h
    obtain ⟨gs, F3, v4, v7, v8, v9, lg, og, s3, gf, st3, rfl⟩ := h
    clear st2
    walk_at "*"
    obtain ⟨W, hW⟩ : ∃ W : Nat → St → Hp → Prop, W = fun k σ H' => ∃ (gs : GS) (F' : Hp) (y : Int) (v7 v8 v9 : Option V), k = m - gs.length ∧ gs.length ≤ m ∧ (∀ g ∈ gv gs, LGok ns g) ∧ Same F2 F' ∧ GF F' gs ∧ Sta F' ((gl, .lst (lgL gs)) :: R) H' ∧ σ = [some (.ref sc), some (.ref l), some (.int (m : Nat)), some (.ref gl), some (.int x), some (.int y), none, v7, v8, v9] := ⟨_, rfl⟩
    refine ⟨W, ⟨m - gs.length, by rw [hW]; exact ⟨gs, F3, x, _, _, _, rfl, lg, og, s3, gf, st3, rfl⟩⟩, ?_⟩
    intro k σ H4 w
    rw [hW] at w
    obtain ⟨gs, F4, y, v7, v8, v9, hk, lg, og, s4, gf, st4, rfl⟩ := w
    have hl := s4 _ _ hl
    have lgl : (lgL gs).length = gs.length := List.length_map ..
    clear st3
    walk_at "*"
    rw [lgl]
    refine if2 (fun c => ?_) (fun c => ?_)
    · simp only [Bool.and_eq_true, decide_eq_true_eq] at c
      refine ⟨fun σ' H' => ∃ m', m' < k ∧ W m' σ' H', fun _ _ h => h, ?_⟩
      walk_at "*"
      rw [ll]
      walk_at "*"
      obtain ⟨i, j, ei, ej, hi, hj, ne⟩ := two_ix (x := y) (y := y / 8) (n := (ns.length : Int)) (by omega)
      rw [ej, ei]
      obtain ⟨z1, ez, kz⟩ := nm_at (ns := ns) (r := (i : Int)) (by omega) hi
      refine go_xL (.of (st4.of hl)) ez ?_
      walk_at "*"
      rename_i t5 F5 H5 s5 e5 st5
      have hl := s5 _ _ hl
      clear st4
      obtain ⟨z2, ez2, kz2⟩ := nm_at (ns := ns) (r := (j : Int)) (by omega) hj
      refine go_xL (.of (st5.of hl)) ez2 ?_
      walk_at "*"
      refine go_powI (by decide) ?_
      walk_at "*"
      rename_i t6 F6 H6 s6 e6 st6
      refine go_addT (.of (st6.of (s6 _ _ e5))) (.of (st6.of e6)) (szl (Nat.le_of_ble_eq_true rfl)) ?_
      refine go_newF st6 fun t7 F7 H7 s7 e7 st7 => ?_
      clear st5 st6
      walk_at "*"
      rename_i H8 st8
      refine go_powI (by decide) ?_
      walk_at "*"
      rw [Int.toNat_natCast] at kz kz2
      refine ⟨m - (gs.length + 1), by omega, ?_⟩
      rw [hW]
      have e7 : F7 t7 = some (.tup (gL ⟨z1, y / 64 % 10000, 1 + y / 640000 % 9999, z2, y / 6400000000 % 10000, 1 + y / (64 * 10 ^ Int.toNat 12) % 9999⟩)) := e7
      refine ⟨gs ++ [(t7, ⟨z1, y / 64 % 10000, 1 + y / 640000 % 9999, z2, y / 6400000000 % 10000, 1 + y / (64 * 10 ^ Int.toNat 12) % 9999⟩)], F7, _, _, _, _, by rw [List.length_append]; rfl, by rw [List.length_append, List.length_singleton]; omega, fun g' h' => ?_, s4.trans (s5.trans (s6.trans s7)), (gf.same (s5.trans (s6.trans s7))).snoc e7, ?_, rfl⟩
      · rw [show gv (gs ++ [(t7, ⟨z1, y / 64 % 10000, 1 + y / 640000 % 9999, z2, y / 6400000000 % 10000, 1 + y / (64 * 10 ^ Int.toNat 12) % 9999⟩)]) = gv gs ++ [⟨z1, y / 64 % 10000, 1 + y / 640000 % 9999, z2, y / 6400000000 % 10000, 1 + y / (64 * 10 ^ Int.toNat 12) % 9999⟩] by simp [gv], List.mem_append, List.mem_singleton] at h'
        rcases h' with h' | rfl
        · exact og _ h'
        · exact ⟨List.mem_of_getElem? kz, List.mem_of_getElem? kz2, nd_at nd kz kz2 ne, by dsimp only; omega, by dsimp only; omega, by dsimp only; omega, by dsimp only; omega⟩
      · rw [show ∀ u : Addr × LG, lgL (gs ++ [u]) = lgL gs ++ [.ref u.1] from fun u => by simp [lgL]]; exact st8
    · walk_at "*"
      exact hnx _ _ ⟨_, by rw [hI]; exact ⟨gs, F4, _, _, _, _, lg, og, s4, gf, st4, rfl⟩⟩
  · rintro σ H3 ⟨v5, h⟩
    rw [hI] at h
    obtain ⟨gs, F3, v4, v7, v8, v9, lg, og, s3, gf, st3, rfl⟩ := h
    clear st2
    obtain ⟨F5, s5, e5, st5⟩ := st3.freeze .rfl
    clear st3
    walk_at "*"
    exact hq gl gs F5 _ og lg (s2.trans (s3.trans s5)) e5 (gf.same s5) st5
/-! ### _law_breakers -/
abbrev s__law_breakers : Stmt := top 27
abbrev N__law_breakers : List Str := ["_law_n", "_law_some", "_law_told", "_law_k"]
theorem sc__law_breakers : FnScope N__law_breakers ["_law_n"] (defScope s__law_breakers) := ⟨rfl, rfl, rfl, by decide +kernel, rfl, by decide +kernel, by decide +kernel⟩
def pr__law_breakers (K : PySem.W.Frag) : V → Hp → VK → XK → Prop := fun a0 H Q E => ∃ (F : Hp) (R : Cells) (n : Int), a0 = .int n ∧ Sta F R H ∧ ∀ (t : Addr) (bs : List Str) (F' H' : Hp), BrOk bs → Same F F' → F' t = some (.lst (bs.map V.str)) → Sta F' R H' → Q (.ref t) H' 
abbrev sp__law_breakers (K : PySem.W.Frag) : Sp := Sp1 (pr__law_breakers K)
theorem ok__law_breakers {P : Program} {w : World} {K : PySem.W.Frag} {mg : Str → Option Value} {base : Heap} {f : Addr} {fd : FuncData} (F : FunD K "_law_breakers" "_law_breakers" (defArgs s__law_breakers) (defBody s__law_breakers) (defScope s__law_breakers) [] [] f fd) (T : Txt K mg)  : FnOk P w K mg base CX0 1 f fd ["_law_n"] (sp__law_breakers K) := by
  refine F.ok sc__law_breakers (fun vs H Q E h => len1 h) (fun cdv A outer s H vs Q E hr h => ?_)
  obtain ⟨a0, rfl, h⟩ := h
  have hu := hu_of hr
  refine ⟨_, PSs.nox ((pss_cons (ps_set (i := 1) sc__law_breakers.nd rfl (by first | exact Or.inl rfl | exact Or.inr rfl) (pe_lst (pa_cons pe_str (pa_cons pe_str (pa_cons pe_str (pa_cons pe_str pa_nil))))))
      (pss_cons (ps_set (i := 2) sc__law_breakers.nd rfl (by first | exact Or.inl rfl | exact Or.inr rfl) (pe_lst pa_nil))
      (pss_cons (ps_for PassesOwn.never rfl (pi_range1 rfl T.b_range (pa_cons (pe_op op_addX pe_int (pe_op op_mod (pv 0) pe_int)) pa_nil)) (pg_name (i := 3) sc__law_breakers.nd rfl (by first | exact Or.inl rfl | exact Or.inr rfl)) (pss_cons (ps_expr (pe_bm PySem.F.plainAttrs_list PySem.F.slot_list_append PySem.F.type_list_append mt_append (pv 2) (pa_cons (pe_bm PySem.F.plainAttrs_list PySem.F.slot_list_pop PySem.F.type_list_pop mt_popAt (pv 1) (pa_cons (pe_op op_mod (pe_op op_fdiv (pv 0) pe_int) (pe_callB call_lenX (by rfl) T.b_len L2.A.boot_len (pa_cons (pv 1) pa_nil))) pa_nil)) pa_nil)))
      (pss_one (ps_set (i := 0) sc__law_breakers.nd rfl (by first | exact Or.inl rfl | exact Or.inr rfl) (pe_op op_fdiv (pv 0) pe_int)))))
      (pss_one (ps_ret (pv 2))))))), ?_⟩
  refine go_start (σ := [some a0, none, none, none]) rfl ?_
  try dsimp only [cxOf, Cx.nox, Cx.wish, Cx.tr, Cx.suite]
  obtain ⟨F, R, n, rfl, st, hq⟩ := h
  walk_at "*"
  refine go_newLv st rfl fun sl H1 st1 => ?_
  walk_at "*"
  refine go_newLv st1 rfl fun tl' H2 st2 => ?_
  clear st st1
  walk_at "*"
  obtain ⟨mm, hm, m1, m4⟩ : ∃ mm : Nat, (1 + n % 4).toNat = mm ∧ 1 ≤ mm ∧ mm ≤ 4 := ⟨_, rfl, by omega, by omega⟩
  rw [hm]
  refine ForW.range (fun i σ H' => ∃ (ts ss : List Str) (y : Int) (v3 : Option V), (ts ++ ss).Perm BRK ∧ ts.length = i ∧ Sta F ((tl', .lst (ts.map V.str)) :: (sl, .lst (ss.map V.str)) :: R) H' ∧ σ = [some (.int y), some (.ref sl), some (.ref tl'), v3])
    ⟨[], BRK, n, _, .rfl, rfl, st2, rfl⟩ ?_ ?_
  · rintro i σ H3 hi ⟨ts, ss, y, v3, pm, lt, st3, rfl⟩
    have lsum : ts.length + ss.length = 4 := by rw [← List.length_append, pm.length_eq]; rfl
    have ls : (ss.map V.str).length = ss.length := List.length_map ..
    clear st2
    walk_at "*"
    rw [ls]
    walk_at "*"
    have b0 := Int.emod_nonneg (y / 4) (show (ss.length : Int) ≠ 0 by omega)
    have b1 := Int.emod_lt_of_pos (y / 4) (show 0 < (ss.length : Int) by omega)
    obtain ⟨k, ek⟩ : ∃ k : Nat, y / 4 % (ss.length : Int) = (k : Int) := ⟨(y / 4 % (ss.length : Int)).toNat, by omega⟩
    rw [ek]
    have hk : k < ss.length := by omega
    refine go_popS (l := sl) (xs := ss.map V.str) (k := k) st3 (.swap ..) (by rw [ls]; exact hk) (by omega) fun H4 st4 => ?_
    have st4 : Sta F ((tl', .lst (ts.map V.str)) :: (sl, .lst ((ss.map V.str).eraseIdx k)) :: R) H4 := st4.perm (.swap ..)
    clear st3
    walk_at "*"
    rename_i H5 st5
    refine ⟨ts ++ [ss[k]], ss.eraseIdx k, _, _, ?_, by rw [List.length_append, lt]; rfl, ?_, rfl⟩
    · refine List.Perm.trans ?_ pm
      rw [List.append_assoc]
      refine List.Perm.append_left ts ?_
      have e0 : ss = ss.take k ++ ss[k] :: ss.drop (k + 1) := by rw [← List.drop_eq_getElem_cons hk, List.take_append_drop]
      have e3 : (ss.take k ++ ss[k] :: ss.drop (k + 1)).Perm ([ss[k]] ++ (ss.take k ++ ss.drop (k + 1))) := List.perm_middle
      rw [List.eraseIdx_eq_take_drop_succ]
      exact e3.symm.trans (.of_eq e0.symm)
    · have e1 : (ss.map V.str).eraseIdx k = (ss.eraseIdx k).map V.str := by simp [List.eraseIdx_eq_take_drop_succ, List.map_take, List.map_drop]
      rw [e1] at st5
      rw [List.map_append]
      have e2 : (ss.map V.str)[k]'(by rw [ls]; exact hk) = V.str ss[k] := by simp
      rw [e2] at st5
      exact st5
  · rintro σ H3 ⟨ts, ss, y, v3, pm, lt, st3, rfl⟩
    clear st2
    obtain ⟨F4, s4, e4, st4⟩ := st3.freeze .rfl
    clear st3
    walk_at "*"
    have nd : (ts ++ ss).Nodup := pm.nodup_iff.mpr (show BRK.Nodup by decide +kernel)
    exact hq tl' ts F4 _ ⟨fun e => (by rw [e] at lt; simp at lt; omega), (List.nodup_append.mp nd).1, fun z mz => pm.mem_iff.mp (List.mem_append_left _ mz), by omega⟩ s4 e4 st4.tail
/-! ### _law_league -/
abbrev s__law_league : Stmt := top 30
abbrev N__law_league : List Str := ["_law_script", "_law_most", "_law_n", "_law_names_here", "_law_points"]
theorem sc__law_league : FnScope N__law_league ["_law_script", "_law_most"] (defScope s__law_league) := ⟨rfl, rfl, rfl, by decide +kernel, rfl, by decide +kernel, by decide +kernel⟩
def pr__law_league (K : PySem.W.Frag) : V → V → Hp → VK → XK → Prop := fun a0 a1 H Q E => ∃ (F : Hp) (R : Cells) (sc : Addr) (cs : List Int) (m : Nat), a0 = .ref sc ∧ a1 = .int (m : Nat) ∧ SqL K F sc (cs.map V.int) ∧ cs.length ≤ 63 ∧ m ≤ 100 ∧ Sta F R H ∧ ∀ (t pt bl gl : Addr) (p0 p1 p2 : Int) (bs ns : List Str) (gs : GS) (F' H' : Hp), (0 ≤ p0 ∧ p0 ≤ 9999) → (0 ≤ p1 ∧ p1 ≤ 9999) → (0 ≤ p2 ∧ p2 ≤ 9999) → BrOk bs → ns.Nodup → (∀ z ∈ ns, NmOk z ∧ (tl z).getLast? = some 122) → ns.length ≤ 8 → (∀ g ∈ gv gs, LGok ns g) → gs.length ≤ m → Same F F' → F' t = some (.tup [.ref pt, .ref bl, .ref gl]) → F' pt = some (.tup [.int p0, .int p1, .int p2]) → F' bl = some (.lst (bs.map V.str)) → F' gl = some (.lst (lgL gs)) → GF F' gs → Sta F' R H' → Q (.ref t) H' 
abbrev sp__law_league (K : PySem.W.Frag) : Sp := Sp2 (pr__law_league K)
theorem ok__law_league {P : Program} {w : World} {K : PySem.W.Frag} {mg : Str → Option Value} {base : Heap} {f : Addr} {fd : FuncData} (F : FunD K "_law_league" "_law_league" (defArgs s__law_league) (defBody s__law_league) (defScope s__law_league) [] [] f fd) (T : Txt K mg) (d__law_names : Dn P w K mg base CX0 2 "_law_names" ["_law_cell", "_law_many"] [] (sp__law_names K)) (d__law_at : Dn P w K mg base CX0 1 "_law_at" ["_law_script", "_law_k"] [] (sp__law_at K)) (d__law_breakers : Dn P w K mg base CX0 1 "_law_breakers" ["_law_n"] [] (sp__law_breakers K)) (d__law_games : Dn P w K mg base CX0 2 "_law_games" ["_law_script", "_law_names_here", "_law_most"] [] (sp__law_games K)) : FnOk P w K mg base CX0 3 f fd ["_law_script", "_law_most"] (sp__law_league K) := by
  refine F.ok sc__law_league (fun vs H Q E h => len2 h) (fun cdv A outer s H vs Q E hr h => ?_)
  obtain ⟨a0, a1, rfl, h⟩ := h
  have hu := hu_of hr
  refine ⟨_, PSs.nox ((pss_cons (ps_set (i := 2) sc__law_league.nd rfl (by first | exact Or.inl rfl | exact Or.inr rfl) (pe_op op_fdiv (pe_d d__law_at (hr.mono (by decide)) rfl pass0 (pa_cons (pv 0) (pa_cons pe_int pa_nil))) pe_int))
      (pss_cons (ps_set (i := 3) sc__law_league.nd rfl (by first | exact Or.inl rfl | exact Or.inr rfl) (pe_d d__law_names (hr.mono (by decide)) rfl pass0 (pa_cons (pe_d d__law_at (hr.mono (by decide)) rfl pass0 (pa_cons (pv 0) (pa_cons pe_int pa_nil))) (pa_cons (pe_op op_addX pe_int (pe_op op_mod (pv 2) pe_int)) pa_nil))))
      (pss_cons (ps_set (i := 4) sc__law_league.nd rfl (by first | exact Or.inl rfl | exact Or.inr rfl) (pe_tup (pa_cons (pe_ix (ix_X hu) (pe_lst (pa_cons pe_int (pa_cons pe_int (pa_cons pe_int (pa_cons (pe_op op_mod (pe_op op_fdiv (pv 2) pe_int) pe_int) pa_nil))))) (pe_op op_mod (pe_op op_fdiv (pv 2) pe_int) pe_int) (fun _ _ => rfl)) (pa_cons (pe_op op_mod (pe_op op_fdiv (pv 2) pe_int) pe_int) (pa_cons (pe_ix (ix_X hu) (pe_lst (pa_cons pe_int (pa_cons (pe_op op_mod (pe_op op_fdiv (pv 2) pe_int) pe_int) pa_nil))) (pe_op op_mod (pe_op op_fdiv (pv 2) pe_int) pe_int) (fun _ _ => rfl)) pa_nil)))))
      (pss_one (ps_ret (pe_tup (pa_cons (pv 4) (pa_cons (pe_d d__law_breakers (hr.mono (by decide)) rfl pass0 (pa_cons (pe_op op_fdiv (pv 2) pe_int) pa_nil)) (pa_cons (pe_d d__law_games (hr.mono (by decide)) rfl pass0 (pa_cons (pv 0) (pa_cons (pv 3) (pa_cons (pv 1) pa_nil)))) pa_nil)))))))))), ?_⟩
  refine go_start (σ := [some a0, some a1, none, none, none]) rfl ?_
  try dsimp only [cxOf, Cx.nox, Cx.wish, Cx.tr, Cx.suite]
  obtain ⟨F, R, sc, cs, m, rfl, rfl, hS, lc, lm, st, hq⟩ := h
  walk_at "*"
  refine go_sp2 ⟨sc, cs, 0, rfl, rfl, st.seqL hS, lc, by omega, fun z0 => ?_⟩
  walk_at "*"
  generalize z0 / 2 = n
  refine go_sp2 ⟨sc, cs, 1, rfl, rfl, st.seqL hS, lc, by omega, fun z1 => ?_⟩
  walk_at "*"
  obtain ⟨k, ek, k2, k8⟩ : ∃ k : Nat, 2 + n % 7 = (k : Int) ∧ 2 ≤ k ∧ k ≤ 8 := ⟨(2 + n % 7).toNat, by omega, by omega, by omega⟩
  rw [ek]
  refine go_sp2 ⟨F, R, z1, k, rfl, rfl, by omega, st, fun f l F1 H1 s1 e1 nok inj nz st1 => ?_⟩
  clear st
  have e1 : F1 l = some (.lst (((List.range k).map f).map V.str)) := by rw [e1, List.map_map]; rfl
  have hS := seqL_same hS s1
  have nsok : ∀ z ∈ (List.range k).map f, NmOk z ∧ (tl z).getLast? = some 122 := fun z mz => by
    obtain ⟨i, mi, rfl⟩ := List.mem_map.mp mz
    have := List.mem_range.mp mi
    exact ⟨nok i, nz i (by omega)⟩
  have nd : ((List.range k).map f).Nodup := by
    rw [List.nodup_iff_pairwise_ne, List.pairwise_map]
    refine (List.pairwise_lt_range).imp_of_mem fun {i j} mi mj h e => ?_
    have := inj i j (by have := List.mem_range.mp mi; omega) (by have := List.mem_range.mp mj; omega) e
    omega
  have lns : ((List.range k).map f).length = k := by simp
  generalize (List.range k).map f = ns at *
  walk_at "*"
  obtain ⟨q0, eq0, pq0⟩ := menuIn (L := [2, 3, 0, n / 7 % 10000]) (r := n / 70000 % 4) (by omega) (by show n / 70000 % 4 < 4; omega) (fun k => 0 ≤ k ∧ k ≤ 9999) (by intro k hk; simp only [List.mem_cons, List.not_mem_nil, or_false] at hk; omega)
  refine go_newF st1 fun l2 F2 H2 s2 e2 st2 => ?_
  clear st1
  walk_at "*"
  refine go_xL (.of (st2.of e2)) eq0 ?_
  walk_at "*"
  obtain ⟨q2, eq2, pq2⟩ := menuIn (L := [0, n / 7000000 % 10000]) (r := n / 70 % 2) (by omega) (by show n / 70 % 2 < 2; omega) (fun k => 0 ≤ k ∧ k ≤ 9999) (by intro k hk; simp only [List.mem_cons, List.not_mem_nil, or_false] at hk; omega)
  refine go_newF st2 fun l3 F3 H3 s3 e3 st3 => ?_
  clear st2
  walk_at "*"
  refine go_xL (.of (st3.of e3)) eq2 ?_
  walk_at "*"
  rename_i pt F4 H4 s4 e4 st4
  have s14 := s2.trans (s3.trans s4)
  clear st3
  refine go_sp1 ⟨F4, R, _, rfl, st4, fun bl bs F5 H5 bok s5 e5 st5 => ?_⟩
  clear st4
  walk_at "*"
  refine go_sp3 ⟨F5, R, sc, l, cs, ns, m, rfl, rfl, rfl, seqL_same hS (s14.trans s5), lc, lm, (s14.trans s5) _ _ e1, by omega, by omega, nd, st5, fun gl gs F6 H6 gok lg s6 e6 gf st6 => ?_⟩
  clear st5
  walk_at "*"
  rename_i t F7 H7 s7 e7 st7
  exact hq t pt bl gl q0 (n / 700000 % 10000) q2 bs ns gs F7 _ pq0 (by omega) pq2 bok nd nsok (by omega) gok lg (s1.trans (s14.trans (s5.trans (s6.trans s7)))) e7 ((s5.trans (s6.trans s7)) _ _ e4) ((s6.trans s7) _ _ e5) (s7 _ _ e6) (gf.same s7) st7

open NumText
def allIn (w z : Str) : Bool := w.cps.toList.all fun c => decide (c ∈ z.cps.toList)
theorem not_all {w z : Str} {i c : Nat} (h : w.cps.toList[i]? = some c) (n : ¬ c ∈ z.cps.toList) : allIn w z = false := by
  unfold allIn
  rw [List.all_eq_false]
  exact ⟨c, List.mem_of_getElem? h, by simpa using n⟩
theorem yes_all {w z : Str} (h : ∀ (j c : Nat), j < w.cps.toList.length → w.cps.toList[j]? = some c → c ∈ z.cps.toList) : allIn w z = true := by
  unfold allIn
  rw [List.all_eq_true]
  intro c m
  obtain ⟨j, hj, e⟩ := List.mem_iff_getElem.mp m
  exact decide_eq_true (h j c hj (by rw [← e]; exact List.getElem?_eq_getElem hj))
def badN (w : Str) : Bool := !(decide (1 ≤ (w.length : Int)) && decide ((w.length : Int) ≤ 4)) || (!allIn w "0123456789" || (Txt.startswith w "0" && !decide (w = "0")))
def valN (w : Str) : Int := ((digitsVal w.cps.toList : Nat) : Int)
def numV (w : Str) : V := if badN w = true then .non else .int (valN w)
theorem digs_ok : ∀ c ∈ (Str.ofString "0123456789").cps.toList, 48 ≤ c ∧ c ≤ 57 := by decide +kernel
theorem find_ok : ∀ c ∈ (Str.ofString "0123456789").cps.toList, Txt.find "0123456789" ⟨#[c]⟩ = ((c - 48 : Nat) : Int) := by decide +kernel
theorem all_digits {w : Str} (h : allIn w "0123456789" = true) : AllDigits w.cps.toList := fun c m => digs_ok c (by
  unfold allIn at h
  rw [List.all_eq_true] at h
  exact of_decide_eq_true (h c m))
theorem read_ok {w : Str} (h : allIn w "0123456789" = true) (h1 : 1 ≤ (w.length : Int)) (h2 : (w.length : Int) ≤ 4) : intText? w = some (valN w) :=
  intText_digits (all_digits h) (fun e => by
    have : w.length = w.cps.toList.length := (Array.length_toList ..).symm
    rw [e] at this
    simp at this
    omega) (by omega)
theorem starts0 {w : Str} {c : Nat} {cs : List Nat} (h : w.cps.toList = c :: cs) : Txt.startswith w "0" = decide (c = 48) := by
  unfold Txt.startswith
  rw [StrLaws.subAt_eq, h]
  have e : w.length = (c :: cs).length := by rw [← h]; exact (Array.length_toList ..).symm
  rw [e]
  have z : (Str.ofString "0").cps.toList = [48] := by decide +kernel
  have z1 : (Str.ofString "0").length = 1 := by decide +kernel
  rw [z, z1]
  simp [Bool.beq_eq_decide_eq]

/-! ### all_of -/
abbrev s_all_of : Stmt := top 11
abbrev N_all_of : List Str := ["word", "some", "sign"]
theorem sc_all_of : FnScope N_all_of ["word", "some"] (defScope s_all_of) := ⟨rfl, rfl, rfl, by decide +kernel, rfl, by decide +kernel, by decide +kernel⟩
def pr_all_of (K : PySem.W.Frag) : V → V → Hp → VK → XK → Prop := fun a0 a1 H Q E => ∃ w z : Str, a0 = .str w ∧ a1 = .str z ∧ Q (.bl (allIn w z)) H
abbrev sp_all_of (K : PySem.W.Frag) : Sp := Sp2 (pr_all_of K)
theorem ok_all_of {P : Program} {w : World} {K : PySem.W.Frag} {mg : Str → Option Value} {base : Heap} {f : Addr} {fd : FuncData} (F : FunD K "all_of" "all_of" (defArgs s_all_of) (defBody s_all_of) (defScope s_all_of) [] [] f fd) (T : Txt K mg)  : FnOk P w K mg base CX0 1 f fd ["word", "some"] (sp_all_of K) := by
  refine F.ok sc_all_of (fun vs H Q E h => len2 h) (fun cdv A outer s H vs Q E hr h => ?_)
  obtain ⟨a0, a1, rfl, h⟩ := h
  have hu := hu_of hr
  refine ⟨_, PSs.nox ((pss_cons (ps_for PassesOwn.never rfl (pi_X (pv 0)) (pg_name (i := 2) sc_all_of.nd rfl (by first | exact Or.inl rfl | exact Or.inr rfl)) (pss_one (ps_if (pt_cmpR (op_notInX hu) (pv 2) (pv 1) (by rfl)) (pss_one (ps_ret pe_bl)) pss_nil)))
      (pss_one (ps_ret pe_bl)))), ?_⟩
  refine go_start (σ := [some a0, some a1, none]) rfl ?_
  try dsimp only [cxOf, Cx.nox, Cx.wish, Cx.tr, Cx.suite]
  obtain ⟨w, z, rfl, rfl, hq⟩ := h
  walk_at "*"
  refine go_iS ?_
  refine ForW.str (fun i σ H' => H' = H ∧ (∀ (j c : Nat), j < i → w.cps.toList[j]? = some c → c ∈ z.cps.toList) ∧ ∃ v, σ = [some (.str w), some (.str z), v]) ⟨rfl, by omega, _, rfl⟩ ?_ ?_
  · rintro i c σ H' hi ⟨rfl, hm, v, rfl⟩
    walk_at "*"
    refine go_ninSg ?_
    walk_at "*"
    refine if2 (fun k => ?_) (fun k => ?_)
    · walk_at "*"
      exact ret_V (by rw [not_all hi (by simpa using k)]) hq
    · walk_at "*"
      refine ⟨rfl, fun j d hj hd => ?_, _, rfl⟩
      by_cases e : j = i
      · subst e
        rw [hi] at hd
        obtain rfl := Option.some.inj hd
        simpa using k
      · exact hm j d (by omega) hd
  · rintro σ H' ⟨rfl, hm, v, rfl⟩
    walk_at "*"
    exact ret_V (by rw [yes_all hm]) hq

open TL (tl)
/-- a number within bounds -/
def numO (w : Str) (lo hi : Int) : Option Int := if badN w = true then none else if valN w < lo then none else if valN w > hi then none else some (valN w)
def optV : Option Int → V
  | none => .non
  | some i => .int i
theorem numL_head {n : Nat} (h : 1 ≤ n) : ∃ c l, TL.numL n = c :: l ∧ 49 ≤ c ∧ c ≤ 57 := by
  induction n using Nat.strongRecOn with
  | _ n ih =>
    by_cases h9 : n < 10
    · exact ⟨48 + n, [], TL.numL_lt h9, by omega, by omega⟩
    · obtain ⟨c, l, e, h1, h2⟩ := ih (n / 10) (by omega) (by omega)
      exact ⟨c, l ++ [48 + n % 10], by rw [TL.numL_step (by omega), e]; rfl, h1, h2⟩
theorem numO_num {n : Nat} {lo hi : Int} (h : n ≤ 9999) (h1 : lo ≤ (n : Int)) (h2 : (n : Int) ≤ hi) : numO (Str.ofString (toString ((n : Nat) : Int))) lo hi = some (n : Int) := by
  have et := TL.tl_num n
  have hv : valN (Str.ofString (toString ((n : Nat) : Int))) = (n : Int) := by
    unfold valN
    rw [show (Str.ofString (toString ((n : Nat) : Int))).cps.toList = TL.numL n from et, TL.numL_val]
  have hl : (Str.ofString (toString ((n : Nat) : Int))).length ≤ 4 := by rw [TL.len_tl, et]; exact TL.numL_len (by decide) (by omega)
  have hl1 : 1 ≤ (Str.ofString (toString ((n : Nat) : Int))).length := by
    rw [TL.len_tl, et]
    exact List.length_pos_iff.mpr (TL.numL_ne n)
  have hd : allIn (Str.ofString (toString ((n : Nat) : Int))) "0123456789" = true := by
    unfold allIn
    rw [List.all_eq_true]
    intro c m
    have m2 : c ∈ TL.numL n := by rw [← et]; exact m
    have r := TL.numL_digits n c m2
    refine decide_eq_true ?_
    rw [show (Str.ofString "0123456789").cps.toList = [48, 49, 50, 51, 52, 53, 54, 55, 56, 57] by decide +kernel]
    simp
    omega
  have hb : badN (Str.ofString (toString ((n : Nat) : Int))) = false := by
    unfold badN
    rw [decide_eq_true (by omega), decide_eq_true (by omega), hd]
    by_cases h9 : n < 10
    · have e1 : (Str.ofString (toString ((n : Nat) : Int))) = ⟨#[48 + n]⟩ := TL.ext_tl (by rw [et, TL.numL_lt h9])
      by_cases z : n = 0
      · subst z; decide +kernel
      · rw [starts0 (c := 48 + n) (cs := []) (by rw [e1]), decide_eq_false (by omega)]; rfl
    · obtain ⟨c, l, e1, h1, h2⟩ := numL_head (n := n) (by omega)
      rw [starts0 (c := c) (cs := l) (by rw [← e1]; exact et), decide_eq_false (by omega)]; rfl
  unfold numO
  rw [hb, hv, if_neg (by decide), if_neg (by omega), if_neg (by omega)]
/-- a row: no line end, not long -/
structure RowOk (r : Str) : Prop where
  nl : 10 ∉ tl r
  len : r.length ≤ 400
/-- a pair of a number and words, laid away from f, new for N -/
def RowAt (f : Addr) (N H : Hp) (v : V) (e : Nat × List Str) : Prop := ∃ a q, (q ≠ f ∧ N q = none) ∧ v = .ref a ∧ H a = some (.tup [.int (e.1 : Nat), .ref q]) ∧ H q = some (.lst (e.2.map V.str))
theorem RowAt.same {f : Addr} {N H H' : Hp} {v : V} {e : Nat × List Str} (h : RowAt f N H v e) (s : Same H H') : RowAt f N H' v e := by
  obtain ⟨a, q, h0, h1, h2, h3⟩ := h
  exact ⟨a, q, h0, h1, s _ _ h2, s _ _ h3⟩
theorem RowAt.mut {f : Addr} {N H : Hp} {v : V} {e : Nat × List Str} {xs ys : List V} (h : RowAt f N H v e) (hf : H f = some (.lst xs)) : RowAt f N (upd H f (.lst ys)) v e := by
  obtain ⟨a, q, h0, h1, h2, h3⟩ := h
  refine ⟨a, q, h0, h1, ?_, by rw [upd_ne h0.1]; exact h3⟩
  rw [upd_ne (by rintro rfl; rw [hf] at h2; cases h2)]
  exact h2
/-- the pairs of a list -/
def RowsAt (N H : Hp) (p : Addr) (L : List (Nat × List Str)) : Prop := ∃ vs, H p = some (.lst vs) ∧ All2 (RowAt p N H) vs L
theorem RowsAt.same {p : Addr} {N H H' : Hp} {L : List (Nat × List Str)} (h : RowsAt N H p L) (s : Same H H') : RowsAt N H' p L := by
  obtain ⟨vs, h1, h2⟩ := h
  exact ⟨vs, s _ _ h1, h2.mono fun _ _ r => r.same s⟩
theorem spl_len : ∀ {l acc : List Nat}, (TL.spl [32] 0 acc l).length ≤ l.length + 1
  | [], acc => by rw [TL.spl_nil]; exact Nat.le_refl _
  | c :: l, acc => by
    by_cases h : c = 32
    · subst h
      rw [TL.spl_hit (by rfl)]
      show (TL.spl [32] 0 [] l).length + 1 ≤ _
      have := spl_len (l := l) (acc := [])
      rw [List.length_cons]; omega
    · rw [TL.spl_miss (TL.pre_of_head _ _ h)]
      have := spl_len (l := l) (acc := acc ++ [c])
      rw [List.length_cons]; omega
theorem split_len (r : Str) : (Txt.split r " ").length ≤ r.length + 1 := by
  rw [split_blank, List.length_map, TL.len_tl]
  exact spl_len
theorem spl_part_len : ∀ {l acc w : List Nat}, w ∈ TL.spl [32] 0 acc l → w.length ≤ acc.length + l.length
  | [], acc, w, h => by rw [TL.spl_nil] at h; rw [List.mem_singleton.mp h]; exact Nat.le_add_right _ _
  | c :: l, acc, w, h => by
    rw [List.length_cons]
    by_cases z : c = 32
    · subst z
      rw [TL.spl_hit (by rfl)] at h
      rcases List.mem_cons.mp h with rfl | h
      · omega
      · have := spl_part_len (l := l) (acc := []) h
        rw [List.length_nil] at this
        omega
    · rw [TL.spl_miss (TL.pre_of_head _ _ z)] at h
      have := spl_part_len h
      rw [List.length_append, List.length_singleton] at this
      omega
theorem words_len {r w : Str} (h : w ∈ rwds r) : w.length ≤ r.length := by
  obtain ⟨l, hl, rfl⟩ := List.mem_map.mp h
  have := spl_part_len (List.mem_filter.mp hl).1
  rw [TL.len_tl, TL.len_tl]
  rw [List.length_nil, Nat.zero_add] at this
  exact this

/-! ### number_in -/
abbrev s_number_in : Stmt := top 14
abbrev N_number_in : List Str := ["word"]
theorem sc_number_in : FnScope N_number_in ["word"] (defScope s_number_in) := ⟨rfl, rfl, rfl, by decide +kernel, rfl, by decide +kernel, by decide +kernel⟩
def pr_number_in (K : PySem.W.Frag) : V → Hp → VK → XK → Prop := fun a0 H Q E => ∃ w : Str, a0 = .str w ∧ w.length ≤ 600 ∧ Q (numV w) H
abbrev sp_number_in (K : PySem.W.Frag) : Sp := Sp1 (pr_number_in K)
theorem ok_number_in {P : Program} {w : World} {K : PySem.W.Frag} {mg : Str → Option Value} {base : Heap} {f : Addr} {fd : FuncData} (F : FunD K "number_in" "number_in" (defArgs s_number_in) (defBody s_number_in) (defScope s_number_in) [] [] f fd) (T : Txt K mg) (d_all_of : Dn P w K mg base CX0 1 "all_of" ["word", "some"] [] (sp_all_of K)) : FnOk P w K mg base CX0 2 f fd ["word"] (sp_number_in K) := by
  refine F.ok sc_number_in (fun vs H Q E h => len1 h) (fun cdv A outer s H vs Q E hr h => ?_)
  obtain ⟨a0, rfl, h⟩ := h
  have hu := hu_of hr
  refine ⟨_, PSs.nox ((pss_cons (ps_if (PW.pt (pw_or (pt_not (pt_chain op_le op_le pe_int (pe_callB call_lenX (by rfl) T.b_len L2.A.boot_len (pa_cons (pv 0) pa_nil)) (pe_glob (v := .int 4) rfl T.g_MOST_FIGURES.choose_spec ⟨_, rfl⟩))) (pw_or1 (pt_not (pt_truX (pe_d d_all_of (hr.mono (by decide)) rfl pass0 (pa_cons (pv 0) (pa_cons pe_str pa_nil)))))))) (pss_one (ps_ret pe_non)) pss_nil)
      (pss_cons (ps_if (PW.pt (pw_and (pt_truX (pe_bm PySem.F.plainAttrs_str PySem.F.slot_str_startswith PySem.F.type_str_startswith mt_startswith (pv 0) (pa_cons pe_str pa_nil))) (pw_and1 (pt_cmpR (op_neX hr.units) (pv 0) pe_str (nomark _))))) (pss_one (ps_ret pe_non)) pss_nil)
      (pss_one (ps_ret (pe_callTy call_intX (by rfl) T.b_int L2.A.boot_int (pa_cons (pv 0) pa_nil))))))), ?_⟩
  refine go_start (σ := [some a0]) rfl ?_
  try dsimp only [cxOf, Cx.nox, Cx.wish, Cx.tr, Cx.suite]
  obtain ⟨w, rfl, hw, hq⟩ := h
  walk_at "*"
  refine if2 (fun c1 => ?_) (fun c1 => ?_)
  · have e1 := of_decide_eq_true c1
    walk_at "*"
    refine if2 (fun c2 => ?_) (fun c2 => ?_)
    · walk_at "*"
      exact ret_V (by unfold numV; rw [if_pos (by unfold badN; rw [c1]; rw [Bool.not_eq_true'] at c2; rw [c2]; rfl)]) hq
    · walk_at "*"
      rw [Bool.not_eq_false'] at c2
      have e2 := of_decide_eq_true c2
      refine go_sp2 ⟨w, _, rfl, rfl, ?_⟩
      walk_at "*"
      refine if2 (fun c3 => ?_) (fun c3 => ?_)
      · walk_at "*"
        exact ret_V (by unfold numV; rw [if_pos (by unfold badN; rw [c3, Bool.true_or, Bool.or_true])]) hq
      · walk_at "*"
        refine ⟨w, _, rfl, rfl, ?_⟩
        walk_at "*"
        refine if2 (fun c4 => ?_) (fun c4 => ?_)
        · walk_at "*"
          replace c4 : (Txt.startswith w "0" && !decide (w = "0")) = true := by rw [dec_str] at c4; simpa using c4
          exact ret_V (by unfold numV; rw [if_pos (by unfold badN; rw [c4, Bool.or_true, Bool.or_true])]) hq
        · walk_at "*"
          replace c4 : (Txt.startswith w "0" && !decide (w = "0")) = false := by rw [dec_str] at c4; simpa using c4
          refine go_intS (read_ok (by simpa using c3) e1 e2) (by omega) ?_
          exact ret_V (by unfold numV; rw [if_neg (by unfold badN; rw [c1, c2, c3, c4]; decide)]) hq
  · walk_at "*"
    exact ret_V (by unfold numV; rw [if_pos (by unfold badN; rw [c1]; rfl)]) hq

def az : Str := "abcdefghijklmnopqrstuvwxyz"
def HEADS : List Str := Txt.split "over overs spell wide noball side innings follow team player start bat bye leg no nobye rope out" " "
def OTHERS : List Str := Txt.split "bowled caught before stumped hit run strike other in bowl hurt swap declare close left played points" " "
def kwB (w : Str) : Bool := inV (.str w) (HEADS.map V.str) || (inV (.str w) (OTHERS.map V.str) || decide (w = "breaker"))
def nameB (w : Str) : Bool := decide (1 ≤ (w.length : Int)) && decide ((w.length : Int) ≤ 8) && (allIn w az && !kwB w)
def KWS : List Str := HEADS ++ OTHERS ++ [("breaker" : Str)]
theorem kws_len : KWS.length = 36 := by decide +kernel
theorem kws_short : ∀ w ∈ KWS, w.length ≤ 20 := by decide +kernel
theorem inV_app {x : V} {xs ys : List V} : inV x (xs ++ ys) = (inV x xs || inV x ys) := by unfold inV; rw [List.any_append]
theorem kw_ok (w : Str) : inV (.str w) (KWS.map V.str) = kwB w := by
  unfold KWS kwB
  rw [List.map_append, List.map_append, inV_app, inV_app, Bool.or_assoc]
  congr 2
  simp [inV, eqV, Bool.beq_eq_decide_eq, eq_comm]
theorem flat_strs (xs : List Str) : (xs.map V.str).all flatV = true := by
  rw [List.all_eq_true]
  intro v m
  obtain ⟨i, _, rfl⟩ := List.mem_map.mp m
  rfl

/-! ### is_keyword -/
abbrev s_is_keyword : Stmt := top 12
abbrev N_is_keyword : List Str := ["word", "heads", "others"]
theorem sc_is_keyword : FnScope N_is_keyword ["word"] (defScope s_is_keyword) := ⟨rfl, rfl, rfl, by decide +kernel, rfl, by decide +kernel, by decide +kernel⟩
def pr_is_keyword (K : PySem.W.Frag) : V → Hp → VK → XK → Prop := fun a0 H Q E => ∃ w : Str, a0 = .str w ∧ ∀ H', Same H H' → Q (.bl (kwB w)) H' 
abbrev sp_is_keyword (K : PySem.W.Frag) : Sp := Sp1 (pr_is_keyword K)
theorem ok_is_keyword {P : Program} {w : World} {K : PySem.W.Frag} {mg : Str → Option Value} {base : Heap} {f : Addr} {fd : FuncData} (F : FunD K "is_keyword" "is_keyword" (defArgs s_is_keyword) (defBody s_is_keyword) (defScope s_is_keyword) [] [] f fd) (T : Txt K mg)  : FnOk P w K mg base CX0 1 f fd ["word"] (sp_is_keyword K) := by
  refine F.ok sc_is_keyword (fun vs H Q E h => len1 h) (fun cdv A outer s H vs Q E hr h => ?_)
  obtain ⟨a0, rfl, h⟩ := h
  have hu := hu_of hr
  refine ⟨_, PSs.nox ((pss_cons (ps_set (i := 1) sc_is_keyword.nd rfl (by first | exact Or.inl rfl | exact Or.inr rfl) pe_str)
      (pss_cons (ps_set (i := 2) sc_is_keyword.nd rfl (by first | exact Or.inl rfl | exact Or.inr rfl) pe_str)
      (pss_one (ps_ret (pe_or (pe_cmpR (op_inX hu) (pv 0) (pe_bm PySem.F.plainAttrs_str PySem.F.slot_str_split PySem.F.type_str_split mt_split (pv 1) (pa_cons pe_str pa_nil)) (by rfl)) (pe_or (pe_cmpR (op_inX hu) (pv 0) (pe_bm PySem.F.plainAttrs_str PySem.F.slot_str_split PySem.F.type_str_split mt_split (pv 2) (pa_cons pe_str pa_nil)) (by rfl)) (pe_one (pe_cmpR (op_eqX hr.units) (pv 0) pe_str (nomark _)))))))))), ?_⟩
  refine go_start (σ := [some a0, none, none]) rfl ?_
  try dsimp only [cxOf, Cx.nox, Cx.wish, Cx.tr, Cx.suite]
  obtain ⟨w, rfl, hq⟩ := h
  walk_at "*"
  refine go_split (by decide) (Nat.le_of_ble_eq_true rfl) ?_
  refine go_new fun l1 H1 n1 s1 e1 => ?_
  walk_at "*"
  refine go_inL (.of e1) rfl (flat_strs _) ?_
  walk_at "*"
  refine if2 (fun c => ?_) (fun c => ?_)
  · exact ret_V (by unfold kwB HEADS; rw [c]; rfl) (hq _ s1)
  walk_at "*"
  refine go_split (by decide) (Nat.le_of_ble_eq_true rfl) ?_
  refine go_new fun l2 H2 n2 s2 e2 => ?_
  walk_at "*"
  refine go_inL (.of e2) rfl (flat_strs _) ?_
  walk_at "*"
  exact ret_V (by unfold kwB; rw [show inV (.str w) (HEADS.map V.str) = false from c, Bool.false_or, dec_str]; rfl) (hq _ (s1.trans s2))
/-! ### is_name -/
abbrev s_is_name : Stmt := top 13
abbrev N_is_name : List Str := ["word"]
theorem sc_is_name : FnScope N_is_name ["word"] (defScope s_is_name) := ⟨rfl, rfl, rfl, by decide +kernel, rfl, by decide +kernel, by decide +kernel⟩
def pr_is_name (K : PySem.W.Frag) : V → Hp → VK → XK → Prop := fun a0 H Q E => ∃ w : Str, a0 = .str w ∧ w.length ≤ 1000 ∧ ∀ H', Same H H' → Q (.bl (nameB w)) H' 
abbrev sp_is_name (K : PySem.W.Frag) : Sp := Sp1 (pr_is_name K)
theorem ok_is_name {P : Program} {w : World} {K : PySem.W.Frag} {mg : Str → Option Value} {base : Heap} {f : Addr} {fd : FuncData} (F : FunD K "is_name" "is_name" (defArgs s_is_name) (defBody s_is_name) (defScope s_is_name) [] [] f fd) (T : Txt K mg) (d_all_of : Dn P w K mg base CX0 1 "all_of" ["word", "some"] [] (sp_all_of K)) (d_is_keyword : Dn P w K mg base CX0 1 "is_keyword" ["word"] [] (sp_is_keyword K)) : FnOk P w K mg base CX0 2 f fd ["word"] (sp_is_name K) := by
  refine F.ok sc_is_name (fun vs H Q E h => len1 h) (fun cdv A outer s H vs Q E hr h => ?_)
  obtain ⟨a0, rfl, h⟩ := h
  have hu := hu_of hr
  refine ⟨_, PSs.nox ((pss_one (ps_ret (pe_and (pe_chain op_le op_le pe_int (pe_callB call_lenX (by rfl) T.b_len L2.A.boot_len (pa_cons (pv 0) pa_nil)) pe_int) (pe_and (pe_d d_all_of (hr.mono (by decide)) rfl pass0 (pa_cons (pv 0) (pa_cons pe_str pa_nil))) (pe_one (pe_not (pe_d d_is_keyword (hr.mono (by decide)) rfl pass0 (pa_cons (pv 0) pa_nil))))))))), ?_⟩
  refine go_start (σ := [some a0]) rfl ?_
  try dsimp only [cxOf, Cx.nox, Cx.wish, Cx.tr, Cx.suite]
  obtain ⟨w, rfl, hw, hq⟩ := h
  walk_at "*"
  refine if2 (fun c1 => ?_) (fun c1 => ?_)
  · walk_at "*"
    refine if2 (fun c2 => ?_) (fun c2 => ?_)
    · walk_at "*"
      refine go_sp2 ⟨w, _, rfl, rfl, ?_⟩
      walk_at "*"
      refine if2 (fun c3 => ?_) (fun c3 => ?_)
      · walk_at "*"
        refine go_sp1 ⟨w, rfl, fun H1 s1 => ?_⟩
        walk_at "*"
        exact ret_V (by unfold nameB; rw [c1, c2, show allIn w az = true from c3]; rfl) (hq _ s1)
      · exact ret_V (by unfold nameB; rw [c1, c2, show allIn w az = false from c3]; rfl) (hq _ (.refl _))
    · walk_at "*"
      exact ret_V (by unfold nameB; rw [c1, c2]; rfl) (hq _ (.refl _))
  · walk_at "*"
    exact ret_V (by unfold nameB; rw [c1]; rfl) (hq _ (.refl _))
/-! ### BadRow.__init__ -/
abbrev s_BadRow_init : Stmt := inClass (top 2) 0
abbrev N_BadRow_init : List Str := ["self", "words", "place"]
theorem sc_BadRow_init : FnScope N_BadRow_init ["self", "words", "place"] (defScope s_BadRow_init) := ⟨rfl, rfl, rfl, by decide +kernel, rfl, by decide +kernel, by decide +kernel⟩
def pr_BadRow_init (K : PySem.W.Frag) : V → V → V → Hp → VK → XK → Prop := fun a0 a1 a2 H Q E => IniW (He.ga K "BadRow") [("place", a2)] a0 H Q
abbrev sp_BadRow_init (K : PySem.W.Frag) : Sp := Sp3 (pr_BadRow_init K)
theorem ok_BadRow_init {P : Program} {w : World} {K : PySem.W.Frag} {mg : Str → Option Value} {base : Heap} {f : Addr} {fd : FuncData} (F : FunD K "__init__" "BadRow.__init__" (defArgs s_BadRow_init) (defBody s_BadRow_init) (defScope s_BadRow_init) [] [] f fd) (T : Txt K mg)  : FnOk P w K mg base CX0 1 f fd ["self", "words", "place"] (sp_BadRow_init K) := by
  refine F.ok sc_BadRow_init (fun vs H Q E h => len3 h) (fun cdv A outer s H vs Q E hr h => ?_)
  obtain ⟨a0, a1, a2, rfl, h⟩ := h
  have hu := hu_of hr
  refine ⟨_, PSs.nox ((pss_cons (ps_expr (pe_binit rfl T.c_BookError T.bi_BookError (pa_cons (pv 0) (pa_cons (pv 1) pa_nil))))
      (pss_one (ps_ost (pv 0) (pv 2))))), ?_⟩
  have nf_BadRow_place := T.nf_BadRow_place
  refine go_start (σ := [some a0, some a1, some a2]) rfl ?_
  try dsimp only [cxOf, Cx.nox, Cx.wish, Cx.tr, Cx.suite]
  obtain ⟨a, rfl, ha, hq⟩ := h
  walk_at "*"
  refine go_veIW T.oex_BadRow ha rfl ?_
  walk_at "*"
  refine go_ost1 T.oex_BadRow T.nf_BadRow_place ha fun d H1 hd k1 e1 e2 => ?_
  walk_at "*"
  exact hq d _ hd k1 e1 e2
theorem rz_BadRow_2 {K : PySem.W.Frag} {v1 v2 : V} {H1 : Hp} {Q : XK} (h : ∀ d H', H1 d = none → Same H1 H' → H' d = some (.xd [("place", v2)]) → Q (.ref (He.ga K "BadRow")) (some d) H') : MkOW (He.ga K "BadRow") (sp_BadRow_init K) [] [v1, v2] H1 Q := go_mkOW _ rfl (fun a H Q h => ⟨_, _, _, rfl, h⟩) h
/-! ### Misplaced.__init__ -/
abbrev s_Misplaced_init : Stmt := inClass (top 3) 0
abbrev N_Misplaced_init : List Str := ["self", "words", "place"]
theorem sc_Misplaced_init : FnScope N_Misplaced_init ["self", "words", "place"] (defScope s_Misplaced_init) := ⟨rfl, rfl, rfl, by decide +kernel, rfl, by decide +kernel, by decide +kernel⟩
def pr_Misplaced_init (K : PySem.W.Frag) : V → V → V → Hp → VK → XK → Prop := fun a0 a1 a2 H Q E => IniW (He.ga K "Misplaced") [("place", a2)] a0 H Q
abbrev sp_Misplaced_init (K : PySem.W.Frag) : Sp := Sp3 (pr_Misplaced_init K)
theorem ok_Misplaced_init {P : Program} {w : World} {K : PySem.W.Frag} {mg : Str → Option Value} {base : Heap} {f : Addr} {fd : FuncData} (F : FunD K "__init__" "Misplaced.__init__" (defArgs s_Misplaced_init) (defBody s_Misplaced_init) (defScope s_Misplaced_init) [] [] f fd) (T : Txt K mg)  : FnOk P w K mg base CX0 1 f fd ["self", "words", "place"] (sp_Misplaced_init K) := by
  refine F.ok sc_Misplaced_init (fun vs H Q E h => len3 h) (fun cdv A outer s H vs Q E hr h => ?_)
  obtain ⟨a0, a1, a2, rfl, h⟩ := h
  have hu := hu_of hr
  refine ⟨_, PSs.nox ((pss_cons (ps_expr (pe_binit rfl T.c_BookError T.bi_BookError (pa_cons (pv 0) (pa_cons (pv 1) pa_nil))))
      (pss_one (ps_ost (pv 0) (pv 2))))), ?_⟩
  have nf_Misplaced_place := T.nf_Misplaced_place
  refine go_start (σ := [some a0, some a1, some a2]) rfl ?_
  try dsimp only [cxOf, Cx.nox, Cx.wish, Cx.tr, Cx.suite]
  obtain ⟨a, rfl, ha, hq⟩ := h
  walk_at "*"
  refine go_veIW T.oex_Misplaced ha rfl ?_
  walk_at "*"
  refine go_ost1 T.oex_Misplaced T.nf_Misplaced_place ha fun d H1 hd k1 e1 e2 => ?_
  walk_at "*"
  exact hq d _ hd k1 e1 e2
theorem rz_Misplaced_2 {K : PySem.W.Frag} {v1 v2 : V} {H1 : Hp} {Q : XK} (h : ∀ d H', H1 d = none → Same H1 H' → H' d = some (.xd [("place", v2)]) → Q (.ref (He.ga K "Misplaced")) (some d) H') : MkOW (He.ga K "Misplaced") (sp_Misplaced_init K) [] [v1, v2] H1 Q := go_mkOW _ rfl (fun a H Q h => ⟨_, _, _, rfl, h⟩) h
/-! ### Unfinished.__init__ -/
abbrev s_Unfinished_init : Stmt := inClass (top 5) 0
abbrev N_Unfinished_init : List Str := ["self", "words", "place"]
theorem sc_Unfinished_init : FnScope N_Unfinished_init ["self", "words", "place"] (defScope s_Unfinished_init) := ⟨rfl, rfl, rfl, by decide +kernel, rfl, by decide +kernel, by decide +kernel⟩
def pr_Unfinished_init (K : PySem.W.Frag) : V → V → V → Hp → VK → XK → Prop := fun a0 a1 a2 H Q E => IniW (He.ga K "Unfinished") [("place", a2)] a0 H Q
abbrev sp_Unfinished_init (K : PySem.W.Frag) : Sp := Sp3 (pr_Unfinished_init K)
theorem ok_Unfinished_init {P : Program} {w : World} {K : PySem.W.Frag} {mg : Str → Option Value} {base : Heap} {f : Addr} {fd : FuncData} (F : FunD K "__init__" "Unfinished.__init__" (defArgs s_Unfinished_init) (defBody s_Unfinished_init) (defScope s_Unfinished_init) [] [] f fd) (T : Txt K mg)  : FnOk P w K mg base CX0 1 f fd ["self", "words", "place"] (sp_Unfinished_init K) := by
  refine F.ok sc_Unfinished_init (fun vs H Q E h => len3 h) (fun cdv A outer s H vs Q E hr h => ?_)
  obtain ⟨a0, a1, a2, rfl, h⟩ := h
  have hu := hu_of hr
  refine ⟨_, PSs.nox ((pss_cons (ps_expr (pe_binit rfl T.c_BookError T.bi_BookError (pa_cons (pv 0) (pa_cons (pv 1) pa_nil))))
      (pss_one (ps_ost (pv 0) (pv 2))))), ?_⟩
  have nf_Unfinished_place := T.nf_Unfinished_place
  refine go_start (σ := [some a0, some a1, some a2]) rfl ?_
  try dsimp only [cxOf, Cx.nox, Cx.wish, Cx.tr, Cx.suite]
  obtain ⟨a, rfl, ha, hq⟩ := h
  walk_at "*"
  refine go_veIW T.oex_Unfinished ha rfl ?_
  walk_at "*"
  refine go_ost1 T.oex_Unfinished T.nf_Unfinished_place ha fun d H1 hd k1 e1 e2 => ?_
  walk_at "*"
  exact hq d _ hd k1 e1 e2
theorem rz_Unfinished_2 {K : PySem.W.Frag} {v1 v2 : V} {H1 : Hp} {Q : XK} (h : ∀ d H', H1 d = none → Same H1 H' → H' d = some (.xd [("place", v2)]) → Q (.ref (He.ga K "Unfinished")) (some d) H') : MkOW (He.ga K "Unfinished") (sp_Unfinished_init K) [] [v1, v2] H1 Q := go_mkOW _ rfl (fun a H Q h => ⟨_, _, _, rfl, h⟩) h

/-- the numbers that words write -/
def numsO (ws : List Str) : Option (List Int) := if ws.any badN = true then none else some (ws.map valN)
theorem numsO_vals {ws : List Str} {ns : List Int} (h : numsO ws = some ns) : ws.map numV = ns.map V.int ∧ ns.length = ws.length := by
  unfold numsO at h
  split at h
  · cases h
  · rename_i c
    cases h
    refine ⟨?_, List.length_map ..⟩
    rw [List.map_map]
    refine List.map_congr_left fun w m => ?_
    have : ¬ badN w = true := fun z => c (List.any_eq_true.mpr ⟨w, m, z⟩)
    exact if_neg this
theorem numsO_none {ws : List Str} : inV .non (ws.map numV) = (numsO ws).isNone := by
  have : inV .non (ws.map numV) = ws.any badN := by
    unfold inV
    rw [List.any_map]
    congr 1
    funext w
    show eqV (numV w) .non = badN w
    unfold numV
    cases badN w <;> rfl
  rw [this]
  unfold numsO
  cases ws.any badN <;> rfl
theorem numV_flat {w : Str} : flatV (numV w) = true := by
  unfold numV
  split <;> rfl
def ptsO (r : List Str) : Option (Int × Int × Int) := match numsO r with
  | some [a, b, c] => some (a, b, c)
  | _ => none
def brkB (r : List Str) : Bool := !decide (r = []) && (decide r.Nodup && r.all fun w => decide (w ∈ BRK))
def gmO : List Str → Option LG
  | [a, r, n, b, s, m] => if (nameB a && (nameB b && !decide (a = b))) = true then (match numsO [r, n, s, m] with
      | some [x, y, z, u] => if y = 0 ∨ u = 0 then none else some ⟨a, x, y, b, z, u⟩
      | _ => none) else none
  | _ => none
inductive LRow
  | pts (a b c : Int)
  | brk (bs : List Str)
  | gm (g : LG)
def rowL : List Str → Option LRow
  | [] => none
  | w :: r => if w = "points" then (ptsO r).map fun t => .pts t.1 t.2.1 t.2.2 else if w = "breaker" then (if brkB r = true then some (.brk r) else none) else if w = "played" then (gmO r).map .gm else none
/-- the heads of a text so far -/
inductive PHd
  | h0
  | h1 (a b c : Int)
  | h2 (a b c : Int) (bs : List Str)
inductive LgOut
  | ok (a b c : Int) (bs : List Str) (gs : List LG)
  | bad (n : Nat)
  | mis (n : Nat)
  | unf
def readLg : List (Nat × List Str) → PHd → List LG → LgOut
  | [], .h2 a b c bs, gs => .ok a b c bs gs
  | [], _, _ => .unf
  | e :: r, hd, gs => match rowL e.2 with
    | none => .bad e.1
    | some (.pts a b c) => match hd with
      | .h0 => readLg r (.h1 a b c) gs
      | _ => .mis e.1
    | some (.brk bs) => match hd with
      | .h1 a b c => readLg r (.h2 a b c bs) gs
      | _ => .mis e.1
    | some (.gm g) => match hd with
      | .h2 a b c bs => readLg r (.h2 a b c bs) (gs ++ [g])
      | _ => .mis e.1
/-- the heads with their places -/
inductive AHd
  | h0
  | h1 (t : Addr) (a b c : Int)
  | h2 (t : Addr) (a b c : Int) (l : Addr) (bs : List Str)
def AHd.p : AHd → PHd
  | .h0 => .h0
  | .h1 _ a b c => .h1 a b c
  | .h2 _ a b c _ bs => .h2 a b c bs
def AHd.v : AHd → List V
  | .h0 => []
  | .h1 t _ _ _ => [.ref t]
  | .h2 t _ _ _ l _ => [.ref t, .ref l]
def AHd.C : AHd → Cells
  | .h2 _ _ _ _ l bs => [(l, .lst (bs.map V.str))]
  | _ => []
def AHd.F (F : Hp) : AHd → Prop
  | .h0 => True
  | .h1 t a b c => F t = some (.tup [.int a, .int b, .int c])
  | .h2 t a b c _ _ => F t = some (.tup [.int a, .int b, .int c])
theorem AHd.F.same {F F' : Hp} (s : Same F F') : ∀ {h : AHd}, h.F F → h.F F'
  | .h0, _ => trivial
  | .h1 .., h => s _ _ h
  | .h2 .., h => s _ _ h
theorem gm6 {r : List Str} (h : r.length ≠ 6) : gmO r = none := by
  match r with
  | [] => rfl
  | [_] => rfl
  | [_, _] => rfl
  | [_, _, _] => rfl
  | [_, _, _, _] => rfl
  | [_, _, _, _, _] => rfl
  | [_, _, _, _, _, _] => exact absurd rfl h
  | _ :: _ :: _ :: _ :: _ :: _ :: _ :: _ => rfl

/-! ### numbers_of -/
abbrev s_numbers_of : Stmt := top 17
abbrev N_numbers_of : List Str := ["words", "numbers", "word"]
theorem sc_numbers_of : FnScope N_numbers_of ["words"] (defScope s_numbers_of) := ⟨rfl, rfl, rfl, by decide +kernel, rfl, by decide +kernel, by decide +kernel⟩
def pr_numbers_of (K : PySem.W.Frag) : V → Hp → VK → XK → Prop := fun a0 H Q E => ∃ (F : Hp) (R : Cells) (q : Addr) (ws : List Str), a0 = .ref q ∧ F q = some (.lst (ws.map V.str)) ∧ (∀ w ∈ ws, w.length ≤ 600) ∧ ws.length ≤ 1000 ∧ Sta F R H ∧
  (numsO ws = none → ∀ F' H', Same F F' → Sta F' R H' → Q .non H') ∧ (∀ ns, numsO ws = some ns → ∀ p F' H', Same F F' → F' p = some (.lst (ns.map V.int)) → Sta F' R H' → Q (.ref p) H')
abbrev sp_numbers_of (K : PySem.W.Frag) : Sp := Sp1 (pr_numbers_of K)
theorem ok_numbers_of {P : Program} {w : World} {K : PySem.W.Frag} {mg : Str → Option Value} {base : Heap} {f : Addr} {fd : FuncData} (F : FunD K "numbers_of" "numbers_of" (defArgs s_numbers_of) (defBody s_numbers_of) (defScope s_numbers_of) [] [] f fd) (T : Txt K mg) (d_number_in : Dn P w K mg base CX0 2 "number_in" ["word"] [] (sp_number_in K)) : FnOk P w K mg base CX0 3 f fd ["words"] (sp_numbers_of K) := by
  refine F.ok sc_numbers_of (fun vs H Q E h => len1 h) (fun cdv A outer s H vs Q E hr h => ?_)
  obtain ⟨a0, rfl, h⟩ := h
  have hu := hu_of hr
  refine ⟨_, PSs.nox ((pss_cons (ps_setLc (i := 1) (own := [("word", 2)]) rfl sc_numbers_of.nd rfl rfl (sw_true rfl rfl rfl (by decide +kernel)) (pi_X (pv 0)) (blkOk_by (N := N_numbers_of) (sc := defScope s_numbers_of) (own := [("word", 2)]) (by decide +kernel)) (fun _ _ _ _ _ => (pg_name (i := 2) sc_numbers_of.nd rfl (by first | exact Or.inl rfl | exact Or.inr rfl))) (fun _ _ _ _ _ => pts_nil) (fun _ _ _ _ _ => (pe_d d_number_in (hr.mono (by decide)) rfl pass0 (pa_cons (pv 2) pa_nil))))
      (pss_cons (ps_if (pt_cmpR (op_inX hu) pe_non (pv 1) (by rfl)) (pss_one (ps_ret pe_non)) pss_nil)
      (pss_one (ps_ret (pv 1)))))), ?_⟩
  refine go_start (σ := [some a0, none, none]) rfl ?_
  try dsimp only [cxOf, Cx.nox, Cx.wish, Cx.tr, Cx.suite]
  obtain ⟨F, R, q, ws, rfl, hw, hl, ln, st, hq1, hq2⟩ := h
  walk_at "*"
  refine go_iL (.of (st.of hw)) ?_
  refine LcW.accL ws V.str (fun pre => pre.map numV) (by omega) st (fun F' H' s' st' => .of (st'.of (s' _ _ hw))) rfl ?_ ?_
  · rintro A pre w F1 H1 mw s1 st1 yes no hy hn
    refine go_name rfl ⟨rfl, ?_⟩
    walk_at "*"
    refine go_sp1 ⟨w, rfl, hl w mw, ?_⟩
    exact hy _ _ _ (by rw [List.map_append]; rfl) (.refl _) st1
  rintro A F1 H1 s1 st1
  obtain ⟨F2, s2, e2, st2⟩ := st1.freeze .rfl
  have fl : (ws.map numV).all flatV = true := by
    rw [List.all_map, List.all_eq_true]
    exact fun w _ => numV_flat
  clear st1
  walk_at "*"
  refine go_inL (.of (st2.of e2)) rfl fl ?_
  rw [numsO_none]
  walk_at "*"
  cases hn : numsO ws with
  | none =>
    refine ite_T rfl ?_
    walk_at "*"
    exact hq1 hn F2 _ (s1.trans s2) st2
  | some ns =>
    refine ite_F (by simp) ?_
    walk_at "*"
    exact hq2 ns hn A F2 _ (s1.trans s2) (by rw [e2, (numsO_vals hn).1]) st2
/-! ### points_row -/
abbrev s_points_row : Stmt := top 18
abbrev N_points_row : List Str := ["words", "numbers"]
theorem sc_points_row : FnScope N_points_row ["words"] (defScope s_points_row) := ⟨rfl, rfl, rfl, by decide +kernel, rfl, by decide +kernel, by decide +kernel⟩
def pr_points_row (K : PySem.W.Frag) : V → Hp → VK → XK → Prop := fun a0 H Q E => ∃ (F : Hp) (R : Cells) (q : Addr) (w0 : Str) (r ws : List Str), a0 = .ref q ∧ ws = w0 :: r ∧ F q = some (.lst (ws.map V.str)) ∧ (∀ w ∈ ws, w.length ≤ 600) ∧ ws.length ≤ 1000 ∧ Sta F R H ∧
  (ptsO r = none → ∀ F' H', Same F F' → Sta F' R H' → Q .non H') ∧ (∀ a b c, ptsO r = some (a, b, c) → ∀ t F' H', Same F F' → F' t = some (.tup [.int a, .int b, .int c]) → Sta F' R H' → Q (.ref t) H')
abbrev sp_points_row (K : PySem.W.Frag) : Sp := Sp1 (pr_points_row K)
theorem ok_points_row {P : Program} {w : World} {K : PySem.W.Frag} {mg : Str → Option Value} {base : Heap} {f : Addr} {fd : FuncData} (F : FunD K "points_row" "points_row" (defArgs s_points_row) (defBody s_points_row) (defScope s_points_row) [] [] f fd) (T : Txt K mg) (d_numbers_of : Dn P w K mg base CX0 3 "numbers_of" ["words"] [] (sp_numbers_of K)) : FnOk P w K mg base CX0 4 f fd ["words"] (sp_points_row K) := by
  refine F.ok sc_points_row (fun vs H Q E h => len1 h) (fun cdv A outer s H vs Q E hr h => ?_)
  obtain ⟨a0, rfl, h⟩ := h
  have hu := hu_of hr
  refine ⟨_, PSs.nox ((pss_cons (ps_set (i := 1) sc_points_row.nd rfl (by first | exact Or.inl rfl | exact Or.inr rfl) (pe_d d_numbers_of (hr.mono (by decide)) rfl pass0 (pa_cons (pe_slice sl_X (pv 0) (po_some pe_int) po_none) pa_nil)))
      (pss_cons (ps_if (PW.pt (pw_or (pt_cmpR op_isX (pv 1) pe_non (nomark _)) (pw_or1 (pt_cmpR (op_neX hr.units) (pe_callB call_lenX (by rfl) T.b_len L2.A.boot_len (pa_cons (pv 1) pa_nil)) pe_int (nomark _))))) (pss_one (ps_ret pe_non)) pss_nil)
      (pss_one (ps_ret (pe_callTy call_tupO (by rfl) T.b_tuple L2.A.boot_tuple (pa_cons (pv 1) pa_nil))))))), ?_⟩
  refine go_start (σ := [some a0, none]) rfl ?_
  try dsimp only [cxOf, Cx.nox, Cx.wish, Cx.tr, Cx.suite]
  obtain ⟨F, R, q, w0, r, ws, rfl, rfl, hw, hl, ln, st, hq1, hq2⟩ := h
  rw [List.length_cons] at ln
  walk_at "*"
  refine go_slL (.of (st.of hw)) (lo := some ((1 : Nat) : Int)) (hi := none) (ys := r.map V.str) (cut_drop (by simp)) ?_
  refine go_newF st fun b F2 H2 s2 e2 st2 => ?_
  clear st
  walk_at "*"
  refine go_sp1 ⟨F2, R, b, r, rfl, e2, fun w m => hl w (List.mem_cons_of_mem _ m), by omega, st2, fun hn F3 H3 s3 st3 => ?_, fun ns hn p F3 H3 s3 e3 st3 => ?_⟩
  · walk_at "*"
    exact hq1 (by unfold ptsO; rw [hn]) F3 _ (s2.trans s3) st3
  · clear st2
    walk_at "*"
    rw [List.length_map]
    match ns, hn, e3 with
    | [a, b', c], hn, e3 =>
      refine ite_F (by simp) ?_
      walk_at "*"
      refine go_tupL (.of (st3.of e3)) ?_
      refine go_newF st3 fun t F4 H4 s4 e4 st4 => ?_
      exact hq2 a b' c (by unfold ptsO; rw [hn]) t F4 _ (s2.trans (s3.trans s4)) e4 st4
    | [], hn, _ | [_], hn, _ | [_, _], hn, _ =>
      refine ite_T (by simp) ?_
      walk_at "*"
      exact hq1 (by unfold ptsO; rw [hn]) F3 _ (s2.trans s3) st3
    | _ :: _ :: _ :: _ :: _, hn, _ =>
      refine ite_T (by simp; omega) ?_
      walk_at "*"
      exact hq1 (by unfold ptsO; rw [hn]) F3 _ (s2.trans s3) st3
/-! ### breaker_row -/
abbrev s_breaker_row : Stmt := top 19
abbrev N_breaker_row : List Str := ["words", "some", "word"]
theorem sc_breaker_row : FnScope N_breaker_row ["words"] (defScope s_breaker_row) := ⟨rfl, rfl, rfl, by decide +kernel, rfl, by decide +kernel, by decide +kernel⟩
def pr_breaker_row (K : PySem.W.Frag) : V → Hp → VK → XK → Prop := fun a0 H Q E => ∃ (F : Hp) (R : Cells) (q : Addr) (w0 : Str) (r ws : List Str), a0 = .ref q ∧ ws = w0 :: r ∧ F q = some (.lst (ws.map V.str)) ∧ (∀ w ∈ ws, w.length ≤ 600) ∧ ws.length ≤ 1000 ∧ Sta F R H ∧ ws.length ≤ 401 ∧
  (brkB r = false → ∀ F' H', Same F F' → Sta F' R H' → Q .non H') ∧ (brkB r = true → ∀ t F' H', Same F F' → Sta F' ((t, .lst (r.map V.str)) :: R) H' → Q (.ref t) H')
abbrev sp_breaker_row (K : PySem.W.Frag) : Sp := Sp1 (pr_breaker_row K)
theorem ok_breaker_row {P : Program} {w : World} {K : PySem.W.Frag} {mg : Str → Option Value} {base : Heap} {f : Addr} {fd : FuncData} (F : FunD K "breaker_row" "breaker_row" (defArgs s_breaker_row) (defBody s_breaker_row) (defScope s_breaker_row) [] [] f fd) (T : Txt K mg)  : FnOk P w K mg base CX0 1 f fd ["words"] (sp_breaker_row K) := by
  refine F.ok sc_breaker_row (fun vs H Q E h => len1 h) (fun cdv A outer s H vs Q E hr h => ?_)
  obtain ⟨a0, rfl, h⟩ := h
  have hu := hu_of hr
  refine ⟨_, PSs.nox ((pss_cons (ps_set (i := 1) sc_breaker_row.nd rfl (by first | exact Or.inl rfl | exact Or.inr rfl) (pe_slice sl_X (pv 0) (po_some pe_int) po_none))
      (pss_cons (ps_if (PW.pt (pw_or (pt_cmpR (op_eqX hr.units) (pe_callB call_lenX (by rfl) T.b_len L2.A.boot_len (pa_cons (pv 1) pa_nil)) pe_int (nomark _)) (pw_or (pt_cmpR op_lt (pe_lenS rfl (by rfl) T.b_len (by rfl) T.b_set (pv 1)) (pe_callB call_lenX (by rfl) T.b_len L2.A.boot_len (pa_cons (pv 1) pa_nil)) (nomark _)) (pw_or1 (pt_not (pt_truX (pe_callB (cr_all rfl) (by rfl) T.b_all L2.A.boot_all (pa_cons (pe_lc (own := [("word", 2)]) rfl sc_breaker_row.nd (pi_X (pv 1)) (blkOk_by (N := N_breaker_row) (sc := defScope s_breaker_row) (own := [("word", 2)]) (by decide +kernel)) (fun _ _ _ _ _ => (pg_name (i := 2) sc_breaker_row.nd rfl (by first | exact Or.inl rfl | exact Or.inr rfl))) (fun _ _ _ _ _ => pts_nil) (fun _ _ _ _ _ => (pe_cmpR (op_inK (K := K) rfl hu) (pv 2) (pe_glob (v := .ref (He.ga K "BREAKERS")) rfl T.g_BREAKERS rfl) (by rfl)))) pa_nil)))))))) (pss_one (ps_ret pe_non)) pss_nil)
      (pss_one (ps_ret (pe_callTy call_listO (by rfl) T.b_list L2.A.boot_list (pa_cons (pv 1) pa_nil))))))), ?_⟩
  have tc_BREAKERS := T.tc_BREAKERS
  refine go_start (σ := [some a0, none, none]) rfl ?_
  try dsimp only [cxOf, Cx.nox, Cx.wish, Cx.tr, Cx.suite]
  obtain ⟨F, R, q, w0, r, ws, rfl, rfl, hw, hl, -, st, ln, hq1, hq2⟩ := h
  rw [List.length_cons] at ln
  walk_at "*"
  refine go_slL (.of (st.of hw)) (lo := some ((1 : Nat) : Int)) (hi := none) (ys := r.map V.str) (cut_drop (by simp)) ?_
  refine go_newF st fun b F2 H2 s2 e2 st2 => ?_
  clear st
  walk_at "*"
  rw [List.length_map]
  refine if2 (fun c => ?_) (fun c => ?_)
  · walk_at "*"
    have c : r.length = 0 := by simpa using c
    exact hq1 (by rw [List.length_eq_zero_iff.mp c]; rfl) F2 _ s2 st2
  have rn : r ≠ [] := fun z => by rw [z] at c; simp at c
  walk_at "*"
  refine go_lset (.of (st2.of e2)) (by omega) ?_
  walk_at "*"
  rw [List.length_map]
  refine if2 (fun c => ?_) (fun c => ?_)
  · walk_at "*"
    have c : cntT r r.length < r.length := by simpa using c
    exact hq1 (by unfold brkB; rw [decide_eq_false (cntT_lt.mp c), Bool.false_and, Bool.and_false]) F2 _ s2 st2
  have nd : r.Nodup := by
    have c : ¬ cntT r r.length < r.length := by simpa using c
    rw [cntT_lt] at c
    exact Decidable.not_not.mp c
  walk_at "*"
  refine go_iL (.of (st2.of e2)) ?_
  refine LcW.accL r V.str (fun pre => (pre.map fun w => decide (w ∈ BRK)).map V.bl) (by omega) st2 (fun F' H' s' st' => .of (st'.of (s' _ _ e2))) rfl ?_ ?_
  · rintro A pre w F3 H3 mw s3 st3 yes no hy hn
    refine go_name rfl ⟨rfl, ?_⟩
    walk_at "*"
    refine go_inT (xs := BRK.map V.str) (tc_BREAKERS _) rfl (by decide +kernel) ?_
    rw [inv_ss]
    exact hy _ _ _ (by rw [List.map_append, List.map_append]; rfl) (.refl _) st3
  rintro A F3 H3 s3 st3
  walk_at "*"
  refine go_all (.of (st3.get (.head _))) ?_
  walk_at "*"
  have eb : brkB r = (r.map fun w => decide (w ∈ BRK)).all id := by
    unfold brkB
    rw [decide_eq_false rn, decide_eq_true nd, List.all_map]; rfl
  rw [← eb]
  refine if2 (fun c => ?_) (fun c => ?_)
  · walk_at "*"
    exact hq1 (by simpa using c) F3 _ (s2.trans s3) st3.tail
  walk_at "*"
  refine go_listL (.of (st3.of (s3 _ _ e2))) ?_
  refine go_newLv st3.tail rfl fun t H4 st4 => ?_
  exact hq2 (by simpa using c) t F3 _ (s2.trans s3) st4
/-! ### game_row -/
abbrev s_game_row : Stmt := top 20
abbrev N_game_row : List Str := ["words", "numbers"]
theorem sc_game_row : FnScope N_game_row ["words"] (defScope s_game_row) := ⟨rfl, rfl, rfl, by decide +kernel, rfl, by decide +kernel, by decide +kernel⟩
def pr_game_row (K : PySem.W.Frag) : V → Hp → VK → XK → Prop := fun a0 H Q E => ∃ (F : Hp) (R : Cells) (q : Addr) (w0 : Str) (r ws : List Str), a0 = .ref q ∧ ws = w0 :: r ∧ F q = some (.lst (ws.map V.str)) ∧ (∀ w ∈ ws, w.length ≤ 600) ∧ ws.length ≤ 1000 ∧ Sta F R H ∧
  (gmO r = none → ∀ F' H', Same F F' → Sta F' R H' → Q .non H') ∧ (∀ g, gmO r = some g → ∀ t F' H', Same F F' → F' t = some (.tup (gL g)) → Sta F' R H' → Q (.ref t) H')
abbrev sp_game_row (K : PySem.W.Frag) : Sp := Sp1 (pr_game_row K)
theorem ok_game_row {P : Program} {w : World} {K : PySem.W.Frag} {mg : Str → Option Value} {base : Heap} {f : Addr} {fd : FuncData} (F : FunD K "game_row" "game_row" (defArgs s_game_row) (defBody s_game_row) (defScope s_game_row) [] [] f fd) (T : Txt K mg) (d_numbers_of : Dn P w K mg base CX0 3 "numbers_of" ["words"] [] (sp_numbers_of K)) (d_is_name : Dn P w K mg base CX0 2 "is_name" ["word"] [] (sp_is_name K)) : FnOk P w K mg base CX0 4 f fd ["words"] (sp_game_row K) := by
  refine F.ok sc_game_row (fun vs H Q E h => len1 h) (fun cdv A outer s H vs Q E hr h => ?_)
  obtain ⟨a0, rfl, h⟩ := h
  have hu := hu_of hr
  refine ⟨_, PSs.nox ((pss_cons (ps_if (PW.pt (pw_or (pt_cmpR (op_neX hr.units) (pe_callB call_lenX (by rfl) T.b_len L2.A.boot_len (pa_cons (pv 0) pa_nil)) pe_int (nomark _)) (pw_or (pt_not (pt_truX (pe_d d_is_name (hr.mono (by decide)) rfl pass0 (pa_cons (pe_ix (ix_X hu) (pv 0) pe_int (fun _ _ => rfl)) pa_nil)))) (pw_or (pt_not (pt_truX (pe_d d_is_name (hr.mono (by decide)) rfl pass0 (pa_cons (pe_ix (ix_X hu) (pv 0) pe_int (fun _ _ => rfl)) pa_nil)))) (pw_or1 (pt_cmpR (op_eqX hr.units) (pe_ix (ix_X hu) (pv 0) pe_int (fun _ _ => rfl)) (pe_ix (ix_X hu) (pv 0) pe_int (fun _ _ => rfl)) (nomark _))))))) (pss_one (ps_ret pe_non)) pss_nil)
      (pss_cons (ps_set (i := 1) sc_game_row.nd rfl (by first | exact Or.inl rfl | exact Or.inr rfl) (pe_d d_numbers_of (hr.mono (by decide)) rfl pass0 (pa_cons (pe_op op_addX (pe_slice sl_X (pv 0) (po_some pe_int) (po_some pe_int)) (pe_slice sl_X (pv 0) (po_some pe_int) po_none)) pa_nil)))
      (pss_cons (ps_if (PW.pt (pw_or (pt_cmpR op_isX (pv 1) pe_non (nomark _)) (pw_or (pt_cmpR (op_eqX hr.units) (pe_ix (ix_X hu) (pv 1) pe_int (fun _ _ => rfl)) pe_int (nomark _)) (pw_or1 (pt_cmpR (op_eqX hr.units) (pe_ix (ix_X hu) (pv 1) pe_int (fun _ _ => rfl)) pe_int (nomark _)))))) (pss_one (ps_ret pe_non)) pss_nil)
      (pss_one (ps_ret (pe_tup (pa_cons (pe_ix (ix_X hu) (pv 0) pe_int (fun _ _ => rfl)) (pa_cons (pe_ix (ix_X hu) (pv 1) pe_int (fun _ _ => rfl)) (pa_cons (pe_ix (ix_X hu) (pv 1) pe_int (fun _ _ => rfl)) (pa_cons (pe_ix (ix_X hu) (pv 0) pe_int (fun _ _ => rfl)) (pa_cons (pe_ix (ix_X hu) (pv 1) pe_int (fun _ _ => rfl)) (pa_cons (pe_ix (ix_X hu) (pv 1) pe_int (fun _ _ => rfl)) pa_nil))))))))))))), ?_⟩
  refine go_start (σ := [some a0, none]) rfl ?_
  try dsimp only [cxOf, Cx.nox, Cx.wish, Cx.tr, Cx.suite]
  obtain ⟨F, R, q, w0, r, ws, rfl, rfl, hw, hl, -, st, hq1, hq2⟩ := h
  walk_at "*"
  rw [List.length_map]
  by_cases l6 : r.length = 6
  case neg =>
    refine ite_T (by simp; omega) ?_
    walk_at "*"
    exact hq1 (gm6 l6) F _ (.refl _) st
  obtain ⟨a, x, y, b, z, u, rfl⟩ : ∃ a x y b z u, r = [a, x, y, b, z, u] := by
    match r, l6 with
    | [a, x, y, b, z, u], _ => exact ⟨a, x, y, b, z, u, rfl⟩
  refine ite_F (show (!decide (V.int (7 : Int) = V.int 7)) = false by decide) ?_
  have e0 : gmO [a, x, y, b, z, u] = if (nameB a && (nameB b && !decide (a = b))) = true then (match numsO [x, y, z, u] with
        | some [x, y, z, u] => if y = 0 ∨ u = 0 then none else some ⟨a, x, y, b, z, u⟩
        | _ => none) else none := rfl
  have h1 : ∀ w ∈ [a, x, y, b, z, u], w.length ≤ 600 := fun w m => hl w (List.mem_cons_of_mem _ m)
  walk_at "*"
  refine go_sp1 ⟨a, rfl, by have := h1 a (by simp); omega, fun H1 s1 => ?_⟩
  have st1 := st.same s1
  clear st
  cases ca : nameB a with
  | false =>
    walk_at "*"
    exact hq1 (by rw [e0, ca]; rfl) F _ (.refl _) st1
  | true =>
  walk_at "*"
  refine go_sp1 ⟨b, rfl, by have := h1 b (by simp); omega, fun H2 s2 => ?_⟩
  have st2 := st1.same s2
  clear st1
  cases cb : nameB b with
  | false =>
    walk_at "*"
    exact hq1 (by rw [e0, ca, cb]; rfl) F _ (.refl _) st2
  | true =>
  walk_at "*"
  rw [dec_str]
  refine if2 (fun c => ?_) (fun c => ?_)
  · walk_at "*"
    exact hq1 (by rw [e0, ca, cb, decide_eq_true (of_decide_eq_true c)]; rfl) F _ (.refl _) st2
  rw [ca, cb, decide_eq_false (of_decide_eq_false c)] at e0
  replace e0 : gmO [a, x, y, b, z, u] = (match numsO [x, y, z, u] with
        | some [x, y, z, u] => if y = 0 ∨ u = 0 then none else some ⟨a, x, y, b, z, u⟩
        | _ => none) := e0
  walk_at "*"
  refine go_slL (.of (st2.of hw)) (lo := some ((2 : Nat) : Int)) (hi := some ((4 : Nat) : Int)) (ys := [x, y].map V.str) rfl ?_
  refine go_newF st2 fun b1 F3 H3 s3 e3 st3 => ?_
  clear st2
  walk_at "*"
  refine go_slL (.of (st3.of (s3 _ _ hw))) (lo := some ((5 : Nat) : Int)) (hi := none) (ys := [z, u].map V.str) rfl ?_
  refine go_newF st3 fun b2 F4 H4 s4 e4 st4 => ?_
  clear st3
  refine go_addL (st4.of (s4 _ _ e3)) (st4.of e4) (szl (Nat.le_of_ble_eq_true rfl)) ?_
  refine go_newF st4 fun b3 F5 H5 s5 e5 st5 => ?_
  clear st4
  walk_at "*"
  refine go_sp1 ⟨F5, R, b3, [x, y, z, u], rfl, e5, fun w m => h1 w (by simp only [List.mem_cons, List.not_mem_nil, or_false] at m ⊢; rcases m with rfl | rfl | rfl | rfl <;> simp), by simp, st5, fun hn F6 H6 s6 st6 => ?_, fun ns hn p F6 H6 s6 e6 st6 => ?_⟩
  · walk_at "*"
    exact hq1 (by rw [e0, hn]) F6 _ (s3.trans (s4.trans (s5.trans s6))) st6
  have l4 := (numsO_vals hn).2
  obtain ⟨i1, i2, i3, i4, rfl⟩ : ∃ i1 i2 i3 i4, ns = [i1, i2, i3, i4] := by
    match ns, l4 with
    | [i1, i2, i3, i4], _ => exact ⟨i1, i2, i3, i4, rfl⟩
  rw [hn] at e0
  replace e0 : gmO [a, x, y, b, z, u] = if i2 = 0 ∨ i4 = 0 then none else some ⟨a, i1, i2, b, i3, i4⟩ := e0
  clear st5
  walk_at "*"
  rw [dec_int, dec_int]
  refine if2 (fun c => ?_) (fun c => ?_)
  · walk_at "*"
    exact hq1 (by rw [e0, if_pos (by simpa using c)]) F6 _ (s3.trans (s4.trans (s5.trans s6))) st6
  · walk_at "*"
    rename_i t F7 H7 s7 e7 st7
    exact hq2 _ (by rw [e0, if_neg (by simpa using c)]) t F7 _ (s3.trans (s4.trans (s5.trans (s6.trans s7)))) e7 st7
/-! ### league_row -/
abbrev s_league_row : Stmt := top 21
abbrev N_league_row : List Str := ["words", "place", "told"]
theorem sc_league_row : FnScope N_league_row ["words", "place"] (defScope s_league_row) := ⟨rfl, rfl, rfl, by decide +kernel, rfl, by decide +kernel, by decide +kernel⟩
def pr_league_row (K : PySem.W.Frag) : V → V → Hp → VK → XK → Prop := fun a0 a1 H Q E => ∃ (F : Hp) (R : Cells) (q : Addr) (ws : List Str) (pl : Int), a0 = .ref q ∧ a1 = .int pl ∧ ws ≠ [] ∧ F q = some (.lst (ws.map V.str)) ∧ (∀ w ∈ ws, w.length ≤ 600) ∧ ws.length ≤ 401 ∧ Sta F R H ∧
  (∀ a b c, rowL ws = some (.pts a b c) → ∀ t F' H', Same F F' → F' t = some (.tup [.int a, .int b, .int c]) → Sta F' R H' → Q (.ref t) H') ∧
  (∀ bs, rowL ws = some (.brk bs) → ∀ t F' H', Same F F' → Sta F' ((t, .lst (bs.map V.str)) :: R) H' → Q (.ref t) H') ∧
  (∀ g, rowL ws = some (.gm g) → ∀ t F' H', Same F F' → F' t = some (.tup (gL g)) → Sta F' R H' → Q (.ref t) H') ∧
  (rowL ws = none → ∀ d F' H', Same F F' → F' d = some (.xd [("place", .int pl)]) → Sta F' R H' → E (.ref (He.ga K "BadRow")) (some d) H' )
abbrev sp_league_row (K : PySem.W.Frag) : Sp := Sp2 (pr_league_row K)
theorem ok_league_row {P : Program} {w : World} {K : PySem.W.Frag} {mg : Str → Option Value} {base : Heap} {f : Addr} {fd : FuncData} (F : FunD K "league_row" "league_row" (defArgs s_league_row) (defBody s_league_row) (defScope s_league_row) [] [] f fd) (T : Txt K mg) (d_points_row : Dn P w K mg base CX0 4 "points_row" ["words"] [] (sp_points_row K)) (d_breaker_row : Dn P w K mg base CX0 1 "breaker_row" ["words"] [] (sp_breaker_row K)) (d_game_row : Dn P w K mg base CX0 4 "game_row" ["words"] [] (sp_game_row K)) (x_BadRow_2 : XkD P w K mg base 1 (He.ga K "BadRow") "BadRow" ["self", "words", "place"] [] (sp_BadRow_init K)) : FnOk P w K mg base (L2.CX P w) 5 f fd ["words", "place"] (sp_league_row K) := by
  refine F.ok sc_league_row (fun vs H Q E h => len2 h) (fun cdv A outer s H vs Q E hr h => ?_)
  obtain ⟨a0, a1, rfl, h⟩ := h
  have hu := hu_of hr
  refine ⟨_, ((pss_cons (ps_set (i := 2) sc_league_row.nd rfl (by first | exact Or.inl rfl | exact Or.inr rfl) pe_non)
      (pss_cons (ps_if (pt_cmpR (op_eqX hr.units) (pe_ix (ix_X hu) (pv 0) pe_int (fun _ _ => rfl)) pe_str (nomark _)) (pss_one (ps_set (i := 2) sc_league_row.nd rfl (by first | exact Or.inl rfl | exact Or.inr rfl) (pe_d d_points_row (hr.mono (by decide)) rfl pass0 (pa_cons (pv 0) pa_nil)))) (pss_one (ps_if (pt_cmpR (op_eqX hr.units) (pe_ix (ix_X hu) (pv 0) pe_int (fun _ _ => rfl)) pe_str (nomark _)) (pss_one (ps_set (i := 2) sc_league_row.nd rfl (by first | exact Or.inl rfl | exact Or.inr rfl) (pe_d d_breaker_row (hr.mono (by decide)) rfl pass0 (pa_cons (pv 0) pa_nil)))) (pss_one (ps_if (pt_cmpR (op_eqX hr.units) (pe_ix (ix_X hu) (pv 0) pe_int (fun _ _ => rfl)) pe_str (nomark _)) (pss_one (ps_set (i := 2) sc_league_row.nd rfl (by first | exact Or.inl rfl | exact Or.inr rfl) (pe_d d_game_row (hr.mono (by decide)) rfl pass0 (pa_cons (pv 0) pa_nil)))) pss_nil)))))
      (pss_cons (ps_if (pt_cmpR op_isX (pv 2) pe_non (nomark _)) (pss_one (ps_raise rfl (takes_of rfl rfl rfl rfl) (pmk_x x_BadRow_2 (hr.mono (by decide)) rfl (pa_cons pe_str (pa_cons (pv 1) pa_nil))))) pss_nil)
      (pss_one (ps_ret (pv 2))))))), ?_⟩
  refine go_start (σ := [some a0, some a1, none]) rfl ?_
  try dsimp only [cxOf, Cx.nox, Cx.wish, Cx.tr, Cx.suite]
  obtain ⟨F, R, q, ws, pl, rfl, rfl, wne, hw, hl, ln, st, hq1, hq2, hq3, hq4⟩ := h
  rcases ws with _ | ⟨w0, r⟩
  · exact absurd rfl wne
  have e0 : rowL (w0 :: r) = if w0 = "points" then (ptsO r).map fun t => .pts t.1 t.2.1 t.2.2 else if w0 = "breaker" then (if brkB r = true then some (.brk r) else none) else if w0 = "played" then (gmO r).map .gm else none := rfl
  walk_at "*"
  rw [dec_str]
  by_cases k1 : w0 = "points"
  · refine ite_T (decide_eq_true k1) ?_
    rw [if_pos k1] at e0
    walk_at "*"
    refine go_sp1 ⟨F, R, q, w0, r, _, rfl, rfl, hw, hl, by omega, st, fun hn F1 H1 s1 st1 => ?_, fun a b c hn t F1 H1 s1 e1 st1 => ?_⟩
    · walk_at "*"
      refine rz_BadRow_2 fun d H5 nd sd ed => ?_
      obtain ⟨F5, s5, e5, st5⟩ := st1.newF nd sd ed
      exact hq4 (by rw [e0, hn]; rfl) d F5 H5 (s1.trans s5) e5 st5
    · walk_at "*"
      exact hq1 a b c (by rw [e0, hn]; rfl) t F1 _ s1 e1 st1
  refine ite_F (decide_eq_false k1) ?_
  rw [if_neg k1] at e0
  walk_at "*"
  rw [dec_str]
  by_cases k2 : w0 = "breaker"
  · refine ite_T (decide_eq_true k2) ?_
    rw [if_pos k2] at e0
    walk_at "*"
    refine go_sp1 ⟨F, R, q, w0, r, _, rfl, rfl, hw, hl, by omega, st, ln, fun hn F1 H1 s1 st1 => ?_, fun hn t F1 H1 s1 st1 => ?_⟩
    · walk_at "*"
      refine rz_BadRow_2 fun d H5 nd sd ed => ?_
      obtain ⟨F5, s5, e5, st5⟩ := st1.newF nd sd ed
      exact hq4 (by rw [e0, hn]; rfl) d F5 H5 (s1.trans s5) e5 st5
    · walk_at "*"
      exact hq2 r (by rw [e0, hn]; rfl) t F1 _ s1 st1
  refine ite_F (decide_eq_false k2) ?_
  rw [if_neg k2] at e0
  walk_at "*"
  rw [dec_str]
  by_cases k3 : w0 = "played"
  · refine ite_T (decide_eq_true k3) ?_
    rw [if_pos k3] at e0
    walk_at "*"
    refine go_sp1 ⟨F, R, q, w0, r, _, rfl, rfl, hw, hl, by omega, st, fun hn F1 H1 s1 st1 => ?_, fun g hn t F1 H1 s1 e1 st1 => ?_⟩
    · walk_at "*"
      refine rz_BadRow_2 fun d H5 nd sd ed => ?_
      obtain ⟨F5, s5, e5, st5⟩ := st1.newF nd sd ed
      exact hq4 (by rw [e0, hn]; rfl) d F5 H5 (s1.trans s5) e5 st5
    · walk_at "*"
      exact hq3 g (by rw [e0, hn]; rfl) t F1 _ s1 e1 st1
  refine ite_F (decide_eq_false k3) ?_
  rw [if_neg k3] at e0
  walk_at "*"
  refine rz_BadRow_2 fun d H5 nd sd ed => ?_
  obtain ⟨F5, s5, e5, st5⟩ := st.newF nd sd ed
  exact hq4 (e0) d F5 H5 (s5) e5 st5

section
variable {n : Nat} {ws : List Str} {r : List (Nat × List Str)} {hd : PHd} {gs : List LG}
theorem rl_bad (h : rowL ws = none) : readLg ((n, ws) :: r) hd gs = .bad n := by unfold readLg; rw [h]
theorem rl_pts {a b c : Int} (h : rowL ws = some (.pts a b c)) : readLg ((n, ws) :: r) hd gs = (match hd with
      | .h0 => readLg r (.h1 a b c) gs
      | _ => .mis n) := by
  conv => lhs; unfold readLg
  (rw [h]) <;> cases hd <;> rfl
theorem rl_brk {bs : List Str} (h : rowL ws = some (.brk bs)) : readLg ((n, ws) :: r) hd gs = (match hd with
      | .h1 a b c => readLg r (.h2 a b c bs) gs
      | _ => .mis n) := by
  conv => lhs; unfold readLg
  (rw [h]) <;> cases hd <;> rfl
theorem rl_gm {g : LG} (h : rowL ws = some (.gm g)) : readLg ((n, ws) :: r) hd gs = (match hd with
      | .h2 a b c bs => readLg r (.h2 a b c bs) (gs ++ [g])
      | _ => .mis n) := by
  conv => lhs; unfold readLg
  (rw [h]) <;> cases hd <;> rfl
theorem rl_nil : readLg [] hd gs = (match hd with
      | .h2 a b c bs => .ok a b c bs gs
      | _ => .unf) := by cases hd <;> rfl
/-- the first word tells the kind -/
def _root_.L2.Toy.LRow.w : LRow → Str
  | .pts .. => "points"
  | .brk _ => "breaker"
  | .gm _ => "played"
theorem row_head {ws : List Str} {t : LRow} (h : rowL ws = some t) : ∃ r, ws = t.w :: r := by
  match ws, h with
  | w :: r, h =>
    have h : (if w = "points" then (ptsO r).map fun t => .pts t.1 t.2.1 t.2.2 else if w = "breaker" then (if brkB r = true then some (.brk r) else none) else if w = "played" then (gmO r).map .gm else none) = some t := h
    split at h
    · rename_i e
      cases q : ptsO r with
      | none => rw [q] at h; cases h
      | some x => rw [q] at h; cases h; exact ⟨r, by rw [e]; rfl⟩
    · split at h
      · rename_i e
        split at h
        · cases h; exact ⟨r, by rw [e]; rfl⟩
        · cases h
      · split at h
        · rename_i e
          cases q : gmO r with
          | none => rw [q] at h; cases h
          | some x => rw [q] at h; cases h; exact ⟨r, by rw [e]; rfl⟩
        · cases h
end

/-! ### read_league -/
abbrev s_read_league : Stmt := top 22
abbrev N_read_league : List Str := ["text", "heads", "games", "rows", "place", "row", "words", "told", "word"]
theorem sc_read_league : FnScope N_read_league ["text"] (defScope s_read_league) := ⟨rfl, rfl, rfl, by decide +kernel, rfl, by decide +kernel, by decide +kernel⟩
def pr_read_league (K : PySem.W.Frag) : V → Hp → VK → XK → Prop := fun a0 H Q E => ∃ (F : Hp) (R : Cells) (rows : List Str), a0 = .str (Txt.join "\n" rows) ∧ (∀ r ∈ rows, RowOk r) ∧ rows.length ≤ 300 ∧ Sta F R H ∧
  (∀ a b c bs gs, readLg (wr 1 rows) .h0 [] = .ok a b c bs gs → ∀ t tp tb tg F' H' (xs : GS), gv xs = gs → Same F F' → F' t = some (.tup [.ref tp, .ref tb, .ref tg]) → F' tp = some (.tup [.int a, .int b, .int c]) → GF F' xs → Sta F' ((tb, .lst (bs.map V.str)) :: (tg, .lst (lgL xs)) :: R) H' → Q (.ref t) H') ∧
  (∀ n, readLg (wr 1 rows) .h0 [] = .bad n → (∀ d F' H', Same F F' → F' d = some (.xd [("place", .int (n : Nat))]) → Sta F' R H' → E (.ref (He.ga K "BadRow")) (some d) H')) ∧ (∀ n, readLg (wr 1 rows) .h0 [] = .mis n → (∀ d F' H', Same F F' → F' d = some (.xd [("place", .int (n : Nat))]) → Sta F' R H' → E (.ref (He.ga K "Misplaced")) (some d) H')) ∧
  (readLg (wr 1 rows) .h0 [] = .unf → ∀ n, n = (if rows = [] then 1 else rows.length) → (∀ d F' H', Same F F' → F' d = some (.xd [("place", .int (n : Nat))]) → Sta F' R H' → E (.ref (He.ga K "Unfinished")) (some d) H'))
abbrev sp_read_league (K : PySem.W.Frag) : Sp := Sp1 (pr_read_league K)
theorem ok_read_league {P : Program} {w : World} {K : PySem.W.Frag} {mg : Str → Option Value} {base : Heap} {f : Addr} {fd : FuncData} (F : FunD K "read_league" "read_league" (defArgs s_read_league) (defBody s_read_league) (defScope s_read_league) [] [] f fd) (T : Txt K mg) (d_league_row : Dn P w K mg base (L2.CX P w) 5 "league_row" ["words", "place"] [] (sp_league_row K)) (x_Misplaced_2 : XkD P w K mg base 1 (He.ga K "Misplaced") "Misplaced" ["self", "words", "place"] [] (sp_Misplaced_init K)) (x_Unfinished_2 : XkD P w K mg base 1 (He.ga K "Unfinished") "Unfinished" ["self", "words", "place"] [] (sp_Unfinished_init K)) : FnOk P w K mg base (L2.CX P w) 6 f fd ["text"] (sp_read_league K) := by
  refine F.ok sc_read_league (fun vs H Q E h => len1 h) (fun cdv A outer s H vs Q E hr h => ?_)
  obtain ⟨a0, rfl, h⟩ := h
  have hu := hu_of hr
  refine ⟨_, ((pss_cons (ps_set (i := 1) sc_read_league.nd rfl (by first | exact Or.inl rfl | exact Or.inr rfl) (pe_lst pa_nil))
      (pss_cons (ps_set (i := 2) sc_read_league.nd rfl (by first | exact Or.inl rfl | exact Or.inr rfl) (pe_lst pa_nil))
      (pss_cons (ps_set (i := 3) sc_read_league.nd rfl (by first | exact Or.inl rfl | exact Or.inr rfl) (pe_bm PySem.F.plainAttrs_str PySem.F.slot_str_split PySem.F.type_str_split mt_split (pv 0) (pa_cons pe_str pa_nil)))
      (pss_cons (ps_for (passes_of rfl) rfl (pi_enumS (by rfl) T.b_enumerate (pa_cons (pv 3) pa_nil) (pk_cons pe_int pk_nil)) (pg_tup (n := 2) rfl (pgs_cons (pg_name (i := 4) sc_read_league.nd rfl (by first | exact Or.inl rfl | exact Or.inr rfl)) (pgs_cons (pg_name (i := 5) sc_read_league.nd rfl (by first | exact Or.inl rfl | exact Or.inr rfl)) pgs_nil))) (pss_cons (ps_setLc (i := 6) (own := [("word", 8)]) rfl sc_read_league.nd rfl rfl (sw_true rfl rfl rfl (by decide +kernel)) (pi_X (pe_bm PySem.F.plainAttrs_str PySem.F.slot_str_split PySem.F.type_str_split mt_split (pv 5) (pa_cons pe_str pa_nil))) (blkOk_by (N := N_read_league) (sc := defScope s_read_league) (own := [("word", 8)]) (by decide +kernel)) (fun _ _ _ _ _ => (pg_name (i := 8) sc_read_league.nd rfl (by first | exact Or.inl rfl | exact Or.inr rfl))) (fun _ _ _ _ _ => pts_one (pt_cmpR (op_neK (K := K) rfl hr.units) (pv 8) pe_str (nomark _))) (fun _ _ _ _ _ => (pv 8)))
      (pss_one (ps_if (pt_cmpR op_gt (pe_callB call_lenX (by rfl) T.b_len L2.A.boot_len (pa_cons (pv 6) pa_nil)) pe_int (nomark _)) (pss_cons (ps_set (i := 7) sc_read_league.nd rfl (by first | exact Or.inl rfl | exact Or.inr rfl) (pe_dS d_league_row (hr.mono (by decide)) rfl (fun σ => passAt (takes_of rfl rfl rfl rfl) σ) (pa_cons (pv 6) (pa_cons (pv 4) pa_nil))))
      (pss_cons (ps_if (pt_cmpR (op_neX hr.units) (pe_bm PySem.F.plainAttrs_list PySem.F.slot_list_index PySem.F.type_list_index mt_index (pe_lst (pa_cons pe_str (pa_cons pe_str (pa_cons pe_str pa_nil)))) (pa_cons (pe_ix (ix_X hu) (pv 6) pe_int (fun _ _ => rfl)) pa_nil)) (pe_callB call_lenX (by rfl) T.b_len L2.A.boot_len (pa_cons (pv 1) pa_nil)) (nomark _)) (pss_one (ps_raise rfl (takes_of rfl rfl rfl rfl) (pmk_x x_Misplaced_2 (hr.mono (by decide)) rfl (pa_cons pe_str (pa_cons (pv 4) pa_nil))))) pss_nil)
      (pss_one (ps_if (pt_cmpR (op_eqX hr.units) (pe_ix (ix_X hu) (pv 6) pe_int (fun _ _ => rfl)) pe_str (nomark _)) (pss_one (ps_expr (pe_bm PySem.F.plainAttrs_list PySem.F.slot_list_append PySem.F.type_list_append mt_append (pv 2) (pa_cons (pv 7) pa_nil)))) (pss_one (ps_expr (pe_bm PySem.F.plainAttrs_list PySem.F.slot_list_append PySem.F.type_list_append mt_append (pv 1) (pa_cons (pv 7) pa_nil)))))))) pss_nil))))
      (pss_cons (ps_if (pt_cmpR op_lt (pe_callB call_lenX (by rfl) T.b_len L2.A.boot_len (pa_cons (pv 1) pa_nil)) pe_int (nomark _)) (pss_one (ps_raise rfl (takes_of rfl rfl rfl rfl) (pmk_x x_Unfinished_2 (hr.mono (by decide)) rfl (pa_cons pe_str (pa_cons (pe_callB call_lenX (by rfl) T.b_len L2.A.boot_len (pa_cons (pv 3) pa_nil)) pa_nil))))) pss_nil)
      (pss_one (ps_ret (pe_tup (pa_cons (pe_ix (ix_X hu) (pv 1) pe_int (fun _ _ => rfl)) (pa_cons (pe_ix (ix_X hu) (pv 1) pe_int (fun _ _ => rfl)) (pa_cons (pv 2) pa_nil)))))))))))), ?_⟩
  refine go_start (σ := [some a0, none, none, none, none, none, none, none, none]) rfl ?_
  try dsimp only [cxOf, Cx.nox, Cx.wish, Cx.tr, Cx.suite]
  obtain ⟨F, R, rows, rfl, hr, hn, st, hq1, hq2, hq3, hq4⟩ := h
  walk_at "*"
  refine go_newLv st rfl fun hl H1 st1 => ?_
  clear st
  walk_at "*"
  refine go_newLv st1 rfl fun gl H2 st2 => ?_
  clear st1
  walk_at "*"
  have tl : (Txt.join "\n" rows).length ≤ 1000000 := by
    have := text_len (rows := rows) (L := 400) fun r m => (hr r m).len
    omega
  refine go_split2 (by decide) tl ?_
  refine go_newF st2 fun l F3 H3 s3 e3 st3 => ?_
  have ew := wr_join fun r m => (hr r m).nl
  rw [rows_join fun r m => (hr r m).nl] at e3 ew
  have hR : ∀ r ∈ (if rows = [] then [("" : Str)] else rows), RowOk r := by
    intro r m
    split at m
    · rw [List.mem_singleton.mp m]; exact ⟨by decide +kernel, by decide +kernel⟩
    · exact hr r m
  have hRn : (if rows = [] then [("" : Str)] else rows).length ≤ 300 := by
    split
    · decide
    · exact hn
  have hRc : (if rows = [] then 1 else rows.length) = (if rows = [] then [("" : Str)] else rows).length := by split <;> rfl
  rw [← ew] at hq1 hq2 hq3 hq4
  rw [hRc] at hq4
  generalize (if rows = [] then [("" : Str)] else rows) = Rs at e3 hR hRn hq1 hq2 hq3 hq4
  clear st2
  walk_at "*"
  refine go_enSL (.of (st3.of e3)) (by omega) ?_
  refine ForW.it (walk_en (xs := Rs.map V.str)) (fun i σ H' => ∃ (hd : AHd) (xs : GS) (F' : Hp) (v4 v5 v6 v7 : Option V), Same F3 F' ∧ hd.F F' ∧ GF F' xs ∧ xs.length ≤ i ∧ Sta F' ((hl, .lst hd.v) :: (gl, .lst (lgL xs)) :: (hd.C ++ R)) H' ∧ readLg (wr 1 Rs) .h0 [] = readLg (wr (1 + i) (Rs.drop i)) hd.p (gv xs) ∧ σ = [some (.str (Txt.join "\n" rows)), some (.ref hl), some (.ref gl), some (.ref l), v4, v5, v6, v7, none])
    ⟨.h0, [], F3, _, _, _, _, .refl _, trivial, fun x m => (by cases m), Nat.le_refl _, st3.perm (.swap ..), rfl, rfl⟩ (fun i σ H' _ ⟨_, _, _, _, _, _, _, s', _, _, _, st', _⟩ => .of (st'.of (s' _ _ e3))) ?_ ?_
  · rintro i x σ H4 H5 hi ⟨hd, xs, F4, v4, v5, v6, v7, s4, hdf, gf, xl, st4, rx, rfl⟩ ⟨T, y, u, rfl, hT, rfl, ey, eu⟩
    cases ey
    rw [List.length_map] at hi
    have eu2 : (Rs.map V.str)[i]? = some u := eu
    rw [List.getElem?_map, List.getElem?_eq_getElem hi] at eu2
    cases eu2
    have ro := hR _ (List.getElem_mem hi)
    rw [List.drop_eq_getElem_cons hi] at rx
    generalize Rs[i] = r at ro rx hT ⊢
    have sT : Same H4 (upd H4 T (.tup [.int (1 + (i : Nat)), .str r])) := same_new hT
    have eT : (upd H4 T (.tup [.int (1 + (i : Nat)), .str r])) T = some (.tup [.int (1 + (i : Nat)), .str r]) := upd_same
    have st5 := st4.same sT
    generalize upd H4 T (.tup [.int (1 + (i : Nat)), .str r]) = H5 at st5 eT ⊢
    clear st3 st4
    walk_at "*"
    refine go_split2 (by decide) (by have := ro.len; omega) ?_
    refine go_newF st5 fun sp F6 H6 s6 e6 st6 => ?_
    walk_at "*"
    refine go_iL (.of (st6.of e6)) ?_
    refine LcW.accL (Txt.split r " ") V.str (fun pre => (pre.filter fun w : Str => !decide (w = "")).map V.str) (by have := split_len r; have := ro.len; omega) st6 (fun F' H' s' st' => .of (st'.of (s' _ _ e6))) rfl ?_ ?_
    · rintro A pre w F7 H7 mw s7 st7 yes no hy hn
      refine go_name rfl ⟨rfl, ?_⟩
      walk_at "*"
      refine if2 (fun c => ?_) (fun c => ?_)
      · have c := nd_false c
        walk_at "*"
        refine hy _ _ _ ?_ (.refl _) st7
        rw [List.filter_append, List.map_append, List.filter_cons, if_pos (by simpa using c)]; rfl
      · have c := nd_true c
        refine hn _ _ ?_ (.refl _) st7
        rw [List.filter_append, List.filter_cons, if_neg (by simpa using c)]; simp
    rintro A F7 H7 s7 st7
    rw [split_words] at st7
    obtain ⟨F8, s8, e8, st8⟩ := st7.freeze .rfl
    clear st5 st6 st7
    have sF := s6.trans (s7.trans s8)
    have wl : (∀ w ∈ rwds r, w.length ≤ 600) ∧ (rwds r).length ≤ 401 := by
      refine ⟨fun w m => ?_, ?_⟩
      · have := words_len m
        have := ro.len
        omega
      · unfold rwds
        rw [List.length_map]
        have h1 := List.length_filter_le (fun w => !w.isEmpty) (TL.spl [32] 0 [] (TL.tl r))
        have h2 := spl_len (l := TL.tl r) (acc := [])
        have h3 := ro.len
        rw [TL.len_tl] at h3
        unfold L2.A.wl
        omega
    have ewr : wr (1 + i) (r :: Rs.drop (i + 1)) = if rwds r = [] then wr (1 + (i + 1)) (Rs.drop (i + 1)) else (1 + i, rwds r) :: wr (1 + (i + 1)) (Rs.drop (i + 1)) := rfl
    rw [ewr] at rx
    have hdf := hdf.same sF
    have gf := gf.same sF
    have s48 := s4.trans sF
    have s38 := s3.trans s48
    walk_at "*"
    rw [List.length_map]
    by_cases c0 : rwds r = []
    · rw [if_pos c0] at rx
      refine ite_F (by rw [c0]; rfl) ?_
      walk_at "*"
      exact ⟨hd, xs, F8, _, _, _, _, s48, hdf, gf, by omega, st8, rx, rfl⟩
    rw [if_neg c0] at rx
    refine ite_T (by have := List.length_pos_iff.mpr c0; simpa using this) ?_
    have place : (1 : Int) + (i : Int) = ((1 + i : Nat) : Int) := by omega
    rw [place] at eT ⊢
    walk_at "*"
    refine go_sp2 ⟨F8, _, A, rwds r, _, rfl, rfl, c0, e8, wl.1, wl.2, st8, fun a b c hw t F9 H9 s9 e9 st9 => ?_, fun bs hw t F9 H9 s9 st9 => ?_, fun g hw t F9 H9 s9 e9 st9 => ?_, fun hw d F9 H9 s9 e9 st9 => ?_⟩
    · obtain ⟨r0, er⟩ := row_head hw
      have eA := s9 _ _ e8
      rw [er] at eA
      change F9 A = some (.lst (((("points" : Str)) :: r0).map V.str)) at eA
      rcases hd with _ | ⟨tp, a', b', c'⟩ | ⟨tp, a', b', c', tb, bs'⟩
      · have st9 : Sta F9 ((hl, .lst []) :: (gl, .lst (lgL xs)) :: R) H9 := st9
        walk_at "*"
        refine go_newF st9 fun il F10 H10 s10 e10 st10 => ?_
        have s310 := s38.trans (s9.trans s10)
        have s410 := s48.trans (s9.trans s10)
        have gf10 := gf.same (s9.trans s10)
        have eA := s10 _ _ eA
        clear st9
        walk_at "*"
        refine go_index (y := .str "points") (j := 0) (.of (st10.of e10)) rfl rfl rfl (by decide +kernel) ?_ ?_
        · intro m z hm hz
          omega
        walk_at "*"
        refine ite_F (by simp) ?_
        walk_at "*"
        refine ite_F (by decide +kernel) ?_
        walk_at "*"
        rename_i H12 st12
        exact ⟨.h1 t a b c, xs, F10, _, _, _, _, s410, s10 _ _ e9, gf10, by omega, st12, rx.trans ((rl_pts hw).trans rfl), rfl⟩
      · have st9 : Sta F9 ((hl, .lst [.ref tp]) :: (gl, .lst (lgL xs)) :: R) H9 := st9
        walk_at "*"
        refine go_newF st9 fun il F10 H10 s10 e10 st10 => ?_
        have s310 := s38.trans (s9.trans s10)
        have s410 := s48.trans (s9.trans s10)
        have gf10 := gf.same (s9.trans s10)
        have eA := s10 _ _ eA
        clear st9
        walk_at "*"
        refine go_index (y := .str "points") (j := 0) (.of (st10.of e10)) rfl rfl rfl (by decide +kernel) ?_ ?_
        · intro m z hm hz
          omega
        walk_at "*"
        refine ite_T (by simp) ?_
        walk_at "*"
        refine rz_Misplaced_2 fun d H12 nd sd ed => ?_
        obtain ⟨F12, s12, e12, st12⟩ := st10.newF nd sd ed
        exact hq3 (1 + i) (rx.trans ((rl_pts hw).trans rfl)) d F12 H12 (s310.trans s12) e12 st12.tail.tail
      · have st9 : Sta F9 ((hl, .lst [.ref tp, .ref tb]) :: (gl, .lst (lgL xs)) :: (tb, .lst (bs'.map V.str)) :: R) H9 := st9
        walk_at "*"
        refine go_newF st9 fun il F10 H10 s10 e10 st10 => ?_
        have s310 := s38.trans (s9.trans s10)
        have s410 := s48.trans (s9.trans s10)
        have gf10 := gf.same (s9.trans s10)
        have eA := s10 _ _ eA
        clear st9
        walk_at "*"
        refine go_index (y := .str "points") (j := 0) (.of (st10.of e10)) rfl rfl rfl (by decide +kernel) ?_ ?_
        · intro m z hm hz
          omega
        walk_at "*"
        refine ite_T (by simp) ?_
        walk_at "*"
        refine rz_Misplaced_2 fun d H12 nd sd ed => ?_
        obtain ⟨F12, s12, e12, st12⟩ := st10.newF nd sd ed
        exact hq3 (1 + i) (rx.trans ((rl_pts hw).trans rfl)) d F12 H12 (s310.trans s12) e12 st12.tail.tail.tail
    · obtain ⟨r0, er⟩ := row_head hw
      have eA := s9 _ _ e8
      rw [er] at eA
      change F9 A = some (.lst (((("breaker" : Str)) :: r0).map V.str)) at eA
      rcases hd with _ | ⟨tp, a, b, c⟩ | ⟨tp, a, b, c, tb, bs'⟩
      · have st9 : Sta F9 ((t, .lst (bs.map V.str)) :: (hl, .lst []) :: (gl, .lst (lgL xs)) :: R) H9 := st9
        walk_at "*"
        refine go_newF st9 fun il F10 H10 s10 e10 st10 => ?_
        have s310 := s38.trans (s9.trans s10)
        have s410 := s48.trans (s9.trans s10)
        have gf10 := gf.same (s9.trans s10)
        have eA := s10 _ _ eA
        clear st9
        walk_at "*"
        refine go_index (y := .str "breaker") (j := 1) (.of (st10.of e10)) rfl rfl rfl (by decide +kernel) ?_ ?_
        · intro m z hm hz
          match m, hm with
          | 0, _ => cases hz; decide +kernel
        walk_at "*"
        refine ite_T (by simp) ?_
        walk_at "*"
        refine rz_Misplaced_2 fun d H12 nd sd ed => ?_
        obtain ⟨F12, s12, e12, st12⟩ := st10.newF nd sd ed
        exact hq3 (1 + i) (rx.trans ((rl_brk hw).trans rfl)) d F12 H12 (s310.trans s12) e12 st12.tail.tail.tail
      · have st9 : Sta F9 ((t, .lst (bs.map V.str)) :: (hl, .lst [.ref tp]) :: (gl, .lst (lgL xs)) :: R) H9 := st9
        walk_at "*"
        refine go_newF st9 fun il F10 H10 s10 e10 st10 => ?_
        have s310 := s38.trans (s9.trans s10)
        have s410 := s48.trans (s9.trans s10)
        have gf10 := gf.same (s9.trans s10)
        have eA := s10 _ _ eA
        clear st9
        walk_at "*"
        refine go_index (y := .str "breaker") (j := 1) (.of (st10.of e10)) rfl rfl rfl (by decide +kernel) ?_ ?_
        · intro m z hm hz
          match m, hm with
          | 0, _ => cases hz; decide +kernel
        walk_at "*"
        refine ite_F (by simp) ?_
        walk_at "*"
        refine ite_F (by decide +kernel) ?_
        walk_at "*"
        rename_i H12 st12
        have st13 : Sta F10 ((hl, .lst [.ref tp, .ref t]) :: (gl, .lst (lgL xs)) :: (t, .lst (bs.map V.str)) :: R) H12 := st12.perm (.cons _ (.swap ..))
        exact ⟨.h2 tp a b c t bs, xs, F10, _, _, _, _, s410, (s9.trans s10) _ _ hdf, gf10, by omega, st13, rx.trans ((rl_brk hw).trans rfl), rfl⟩
      · have st9 : Sta F9 ((t, .lst (bs.map V.str)) :: (hl, .lst [.ref tp, .ref tb]) :: (gl, .lst (lgL xs)) :: (tb, .lst (bs'.map V.str)) :: R) H9 := st9
        walk_at "*"
        refine go_newF st9 fun il F10 H10 s10 e10 st10 => ?_
        have s310 := s38.trans (s9.trans s10)
        have s410 := s48.trans (s9.trans s10)
        have gf10 := gf.same (s9.trans s10)
        have eA := s10 _ _ eA
        clear st9
        walk_at "*"
        refine go_index (y := .str "breaker") (j := 1) (.of (st10.of e10)) rfl rfl rfl (by decide +kernel) ?_ ?_
        · intro m z hm hz
          match m, hm with
          | 0, _ => cases hz; decide +kernel
        walk_at "*"
        refine ite_T (by simp) ?_
        walk_at "*"
        refine rz_Misplaced_2 fun d H12 nd sd ed => ?_
        obtain ⟨F12, s12, e12, st12⟩ := st10.newF nd sd ed
        exact hq3 (1 + i) (rx.trans ((rl_brk hw).trans rfl)) d F12 H12 (s310.trans s12) e12 st12.tail.tail.tail.tail
    · obtain ⟨r0, er⟩ := row_head hw
      have eA := s9 _ _ e8
      rw [er] at eA
      change F9 A = some (.lst (((("played" : Str)) :: r0).map V.str)) at eA
      rcases hd with _ | ⟨tp, a, b, c⟩ | ⟨tp, a, b, c, tb, bs'⟩
      · have st9 : Sta F9 ((hl, .lst []) :: (gl, .lst (lgL xs)) :: R) H9 := st9
        walk_at "*"
        refine go_newF st9 fun il F10 H10 s10 e10 st10 => ?_
        have s310 := s38.trans (s9.trans s10)
        have s410 := s48.trans (s9.trans s10)
        have gf10 := gf.same (s9.trans s10)
        have eA := s10 _ _ eA
        clear st9
        walk_at "*"
        refine go_index (y := .str "played") (j := 2) (.of (st10.of e10)) rfl rfl rfl (by decide +kernel) ?_ ?_
        · intro m z hm hz
          match m, hm with
          | 0, _ => cases hz; decide +kernel
          | 1, _ => cases hz; decide +kernel
        walk_at "*"
        refine ite_T (by simp) ?_
        walk_at "*"
        refine rz_Misplaced_2 fun d H12 nd sd ed => ?_
        obtain ⟨F12, s12, e12, st12⟩ := st10.newF nd sd ed
        exact hq3 (1 + i) (rx.trans ((rl_gm hw).trans rfl)) d F12 H12 (s310.trans s12) e12 st12.tail.tail
      · have st9 : Sta F9 ((hl, .lst [.ref tp]) :: (gl, .lst (lgL xs)) :: R) H9 := st9
        walk_at "*"
        refine go_newF st9 fun il F10 H10 s10 e10 st10 => ?_
        have s310 := s38.trans (s9.trans s10)
        have s410 := s48.trans (s9.trans s10)
        have gf10 := gf.same (s9.trans s10)
        have eA := s10 _ _ eA
        clear st9
        walk_at "*"
        refine go_index (y := .str "played") (j := 2) (.of (st10.of e10)) rfl rfl rfl (by decide +kernel) ?_ ?_
        · intro m z hm hz
          match m, hm with
          | 0, _ => cases hz; decide +kernel
          | 1, _ => cases hz; decide +kernel
        walk_at "*"
        refine ite_T (by simp) ?_
        walk_at "*"
        refine rz_Misplaced_2 fun d H12 nd sd ed => ?_
        obtain ⟨F12, s12, e12, st12⟩ := st10.newF nd sd ed
        exact hq3 (1 + i) (rx.trans ((rl_gm hw).trans rfl)) d F12 H12 (s310.trans s12) e12 st12.tail.tail
      · have st9 : Sta F9 ((hl, .lst [.ref tp, .ref tb]) :: (gl, .lst (lgL xs)) :: (tb, .lst (bs'.map V.str)) :: R) H9 := st9
        walk_at "*"
        refine go_newF st9 fun il F10 H10 s10 e10 st10 => ?_
        have s310 := s38.trans (s9.trans s10)
        have s410 := s48.trans (s9.trans s10)
        have gf10 := gf.same (s9.trans s10)
        have eA := s10 _ _ eA
        clear st9
        walk_at "*"
        refine go_index (y := .str "played") (j := 2) (.of (st10.of e10)) rfl rfl rfl (by decide +kernel) ?_ ?_
        · intro m z hm hz
          match m, hm with
          | 0, _ => cases hz; decide +kernel
          | 1, _ => cases hz; decide +kernel
        walk_at "*"
        refine ite_F (by simp) ?_
        walk_at "*"
        refine ite_T (by decide +kernel) ?_
        walk_at "*"
        rename_i H12 st12
        refine ⟨.h2 tp a b c tb bs', xs ++ [(t, g)], F10, _, _, _, _, s410, (s9.trans s10) _ _ hdf, gf10.snoc (s10 _ _ e9), by rw [List.length_append]; simp; omega, ?_, rx.trans ((rl_gm hw).trans ?_), rfl⟩
        · rw [show lgL (xs ++ [(t, g)]) = lgL xs ++ [.ref t] by simp [lgL]]; exact st12.perm (.swap ..)
        · rw [show gv (xs ++ [(t, g)]) = gv xs ++ [g] by simp [gv]]; rfl
    · rcases hd with _ | ⟨tp, a, b, c⟩ | ⟨tp, a, b, c, tb, bs'⟩
      · exact hq2 (1 + i) (rx.trans (rl_bad hw)) d F9 H9 (s38.trans s9) e9 st9.tail.tail
      · exact hq2 (1 + i) (rx.trans (rl_bad hw)) d F9 H9 (s38.trans s9) e9 st9.tail.tail
      · exact hq2 (1 + i) (rx.trans (rl_bad hw)) d F9 H9 (s38.trans s9) e9 st9.tail.tail.tail
  rintro σ H4 ⟨hd, xs, F4, v4, v5, v6, v7, s4, hdf, gf, xl, st4, rx, rfl⟩
  rw [List.length_map, List.drop_length] at rx
  have rx := rx.trans rl_nil
  have e4 := st4.of (s4 _ _ e3)
  clear st3
  rcases hd with _ | ⟨tp, a, b, c⟩ | ⟨tp, a, b, c, tb, bs'⟩
  · have st4 : Sta F4 ((hl, .lst []) :: (gl, .lst (lgL xs)) :: R) H4 := st4
    walk_at "*"
    refine ite_T (by simp) ?_
    walk_at "*"
    refine rz_Unfinished_2 fun d H5 nd sd ed => ?_
    obtain ⟨F5, s5, e5, st5⟩ := st4.newF nd sd ed
    exact hq4 rx _ rfl d F5 H5 (s3.trans (s4.trans s5)) (by rw [e5, List.length_map]) st5.tail.tail
  · have st4 : Sta F4 ((hl, .lst [.ref tp]) :: (gl, .lst (lgL xs)) :: R) H4 := st4
    walk_at "*"
    refine ite_T (by simp) ?_
    walk_at "*"
    refine rz_Unfinished_2 fun d H5 nd sd ed => ?_
    obtain ⟨F5, s5, e5, st5⟩ := st4.newF nd sd ed
    exact hq4 rx _ rfl d F5 H5 (s3.trans (s4.trans s5)) (by rw [e5, List.length_map]) st5.tail.tail
  · have st4 : Sta F4 ((hl, .lst [.ref tp, .ref tb]) :: (gl, .lst (lgL xs)) :: (tb, .lst (bs'.map V.str)) :: R) H4 := st4
    walk_at "*"
    refine ite_F (by simp) ?_
    walk_at "*"
    rename_i t F5 H5 s5 e5 st5
    exact hq1 a b c bs' _ rx t tp tb gl F5 _ xs rfl (s3.trans (s4.trans s5)) e5 (s5 _ _ hdf) (gf.same s5) (st5.tail.perm (.swap ..))

theorem kept_all : Txt.split ((Str.ofString "over overs spell wide noball side innings follow team player start bat bye leg no nobye rope" ++ Str.ofString " out bowled caught before stumped hit run strike other in bowl hurt swap declare close") ++ Str.ofString " left played points breaker") " " = KWS := by decide +kernel
def numB (w : Str) (least : Int) : Bool := !badN w && decide (valN w ≥ least)


theorem one0 {c : Nat} : ((⟨#[c]⟩ : Str) = "0") ↔ c = 48 := by
  have e : (Str.ofString "0") = ⟨#[48]⟩ := by decide +kernel
  rw [e]
  constructor
  · intro h
    have := congrArg (fun z : Str => z.cps.toList) h
    simpa using this
  · rintro rfl; rfl

/-! ### _law_is_number -/
abbrev s__law_is_number : Stmt := top 32
abbrev N__law_is_number : List Str := ["_law_word", "_law_least", "_law_sign"]
theorem sc__law_is_number : FnScope N__law_is_number ["_law_word", "_law_least"] (defScope s__law_is_number) := ⟨rfl, rfl, rfl, by decide +kernel, rfl, by decide +kernel, by decide +kernel⟩
def pr__law_is_number (K : PySem.W.Frag) : V → V → Hp → VK → XK → Prop := fun a0 a1 H Q E => ∃ (w : Str) (least : Int), a0 = .str w ∧ a1 = .int least ∧ w.length ≤ 600 ∧ ∀ H', Same H H' → Q (.bl (numB w least)) H' 
abbrev sp__law_is_number (K : PySem.W.Frag) : Sp := Sp2 (pr__law_is_number K)
theorem ok__law_is_number {P : Program} {w : World} {K : PySem.W.Frag} {mg : Str → Option Value} {base : Heap} {f : Addr} {fd : FuncData} (F : FunD K "_law_is_number" "_law_is_number" (defArgs s__law_is_number) (defBody s__law_is_number) (defScope s__law_is_number) [] [] f fd) (T : Txt K mg)  : FnOk P w K mg base CX0 1 f fd ["_law_word", "_law_least"] (sp__law_is_number K) := by
  refine F.ok sc__law_is_number (fun vs H Q E h => len2 h) (fun cdv A outer s H vs Q E hr h => ?_)
  obtain ⟨a0, a1, rfl, h⟩ := h
  have hu := hu_of hr
  refine ⟨_, PSs.nox ((pss_cons (ps_if (PW.pt (pw_or (pt_not (pt_chain op_le op_le pe_int (pe_callB call_lenX (by rfl) T.b_len L2.A.boot_len (pa_cons (pv 0) pa_nil)) pe_int)) (pw_or1 (pt_not (pt_truX (pe_callB (cr_all rfl) (by rfl) T.b_all L2.A.boot_all (pa_cons (pe_lc (own := [("_law_sign", 2)]) rfl sc__law_is_number.nd (pi_X (pv 0)) (blkOk_by (N := N__law_is_number) (sc := defScope s__law_is_number) (own := [("_law_sign", 2)]) (by decide +kernel)) (fun _ _ _ _ _ => (pg_name (i := 2) sc__law_is_number.nd rfl (by first | exact Or.inl rfl | exact Or.inr rfl))) (fun _ _ _ _ _ => pts_nil) (fun _ _ _ _ _ => (pe_cmpR (op_inK (K := K) rfl hu) (pv 2) pe_str (by rfl)))) pa_nil))))))) (pss_one (ps_ret pe_bl)) pss_nil)
      (pss_one (ps_ret (pe_and (pe_or (pe_cmpR (op_neX hr.units) (pe_ix (ix_X hu) (pv 0) pe_int (fun _ _ => rfl)) pe_str (nomark _)) (pe_one (pe_cmpR (op_eqX hr.units) (pv 0) pe_str (nomark _)))) (pe_one (pe_cmpR op_ge (pe_callTy call_intX (by rfl) T.b_int L2.A.boot_int (pa_cons (pv 0) pa_nil)) (pv 1) (nomark _)))))))), ?_⟩
  refine go_start (σ := [some a0, some a1, none]) rfl ?_
  try dsimp only [cxOf, Cx.nox, Cx.wish, Cx.tr, Cx.suite]
  obtain ⟨w, least, rfl, rfl, hw, hq⟩ := h
  have hl : w.length = w.cps.toList.length := (Array.length_toList ..).symm
  walk_at "*"
  by_cases l1 : 1 ≤ w.length
  case neg =>
    refine ite_F (decide_eq_false (by omega)) ?_
    walk_at "*"
    exact ret_V (by unfold numB badN; rw [decide_eq_false (show ¬ 1 ≤ (w.length : Int) by omega)]; rfl) (hq _ (.refl _))
  refine ite_T (decide_eq_true (by omega)) ?_
  walk_at "*"
  by_cases l2 : w.length ≤ 4
  case neg =>
    refine ite_T (by simp; omega) ?_
    walk_at "*"
    exact ret_V (by unfold numB badN; rw [decide_eq_false (show ¬ (w.length : Int) ≤ 4 by omega), Bool.and_false]; rfl) (hq _ (.refl _))
  refine ite_F (by simp; omega) ?_
  have d1 : decide (1 ≤ (w.length : Int)) = true := decide_eq_true (by omega)
  have d2 : decide ((w.length : Int) ≤ 4) = true := decide_eq_true (by omega)
  walk_at "*"
  refine go_iS ?_
  refine LcW.it walk_str (fun D i ys H' => Same H H' ∧ ys = (((w.cps.toList.take i).map fun c => decide (c ∈ (Str.ofString "0123456789").cps.toList)).map V.bl)) (by rw [← Array.length_toList]; omega) (fun D hD => ⟨same_new hD, rfl⟩) (fun _ _ _ _ _ _ _ _ => trivial) ?_ ?_
  · rintro D i x ys H4 H5 hD hi hl' e ⟨s, rfl⟩ ⟨rfl, c, ec, rfl⟩ yes no hy hn
    have ec : w.cps.toList[i]? = some c := by simpa using ec
    refine go_name rfl ⟨rfl, ?_⟩
    walk_at "*"
    refine go_inSg ?_
    walk_at "*"
    exact hy _ _ e ⟨same_mut s hD, by rw [List.take_add_one, ec, List.map_append, List.map_append]; rfl⟩
  rintro D ys H4 hD e _ ⟨s4, rfl⟩
  rw [show w.cps.size = w.cps.toList.length by simp, List.take_length] at e
  walk_at "*"
  refine go_all (.of e) ?_
  have ea : ((w.cps.toList.map fun c => decide (c ∈ (Str.ofString "0123456789").cps.toList)).all id) = allIn w "0123456789" := by rw [List.all_map]; rfl
  rw [ea]
  walk_at "*"
  refine if2 (fun c3 => ?_) (fun c3 => ?_)
  · walk_at "*"
    exact ret_V (by unfold numB badN; rw [c3, Bool.true_or, Bool.or_true]; rfl) (hq _ s4)
  have c3 : allIn w "0123456789" = true := by simpa using c3
  obtain ⟨c, cs, ec⟩ : ∃ c cs, w.cps.toList = c :: cs := by
    cases h : w.cps.toList with
    | nil => rw [h] at hl; simp at hl; omega
    | cons c cs => exact ⟨c, cs, rfl⟩
  have st := starts0 ec
  walk_at "*"
  refine go_xS (szl (by omega)) (show atI w.cps.toList 0 = some c by rw [ec]; simp [atI, ixN]) ?_
  walk_at "*"
  have e0 : (decide ((⟨#[c]⟩ : Str) = "0") && !decide (w = "0")) = (Txt.startswith w "0" && !decide (w = "0")) := by
    rw [st]
    congr 1
    rw [decide_eq_decide]
    exact one0
  have eb : badN w = (Txt.startswith w "0" && !decide (w = "0")) := by unfold badN; rw [d1, d2, c3]; simp
  rw [← e0] at eb
  have done : badN w = false → ∀ {H' : Hp}, Same H H' → Q (.bl (decide (valN w ≥ least))) H' := fun hb {H'} s' => by
    have := hq H' s'
    unfold numB at this
    rwa [hb, Bool.not_false, Bool.true_and] at this
  rw [dec_str]
  by_cases k0 : (⟨#[c]⟩ : Str) = "0"
  case neg =>
    refine ite_T (by simp [k0]) ?_
    walk_at "*"
    refine go_intS (read_ok c3 (by omega) (by omega)) (by omega) ?_
    walk_at "*"
    exact done (by rw [eb, decide_eq_false k0]; rfl) s4
  refine ite_F (by simp [k0]) ?_
  walk_at "*"
  rw [dec_str]
  by_cases kz : w = "0"
  case neg =>
    refine ite_F (decide_eq_false kz) ?_
    exact ret_V (by unfold numB; rw [eb, decide_eq_true k0, decide_eq_false kz]; rfl) (hq _ s4)
  refine ite_T (decide_eq_true kz) ?_
  walk_at "*"
  refine go_intS (read_ok c3 (by omega) (by omega)) (by omega) ?_
  walk_at "*"
  exact done (by rw [eb, decide_eq_true kz, Bool.not_true, Bool.and_false]) s4
/-! ### _law_is_name -/
abbrev s__law_is_name : Stmt := top 31
abbrev N__law_is_name : List Str := ["_law_word", "_law_kept", "_law_sign"]
theorem sc__law_is_name : FnScope N__law_is_name ["_law_word"] (defScope s__law_is_name) := ⟨rfl, rfl, rfl, by decide +kernel, rfl, by decide +kernel, by decide +kernel⟩
def pr__law_is_name (K : PySem.W.Frag) : V → Hp → VK → XK → Prop := fun a0 H Q E => ∃ w : Str, a0 = .str w ∧ w.length ≤ 600 ∧ ∀ H', Same H H' → Q (.bl (nameB w)) H' 
abbrev sp__law_is_name (K : PySem.W.Frag) : Sp := Sp1 (pr__law_is_name K)
theorem ok__law_is_name {P : Program} {w : World} {K : PySem.W.Frag} {mg : Str → Option Value} {base : Heap} {f : Addr} {fd : FuncData} (F : FunD K "_law_is_name" "_law_is_name" (defArgs s__law_is_name) (defBody s__law_is_name) (defScope s__law_is_name) [] [] f fd) (T : Txt K mg)  : FnOk P w K mg base CX0 1 f fd ["_law_word"] (sp__law_is_name K) := by
  refine F.ok sc__law_is_name (fun vs H Q E h => len1 h) (fun cdv A outer s H vs Q E hr h => ?_)
  obtain ⟨a0, rfl, h⟩ := h
  have hu := hu_of hr
  refine ⟨_, PSs.nox ((pss_cons (ps_set (i := 1) sc__law_is_name.nd rfl (by first | exact Or.inl rfl | exact Or.inr rfl) pe_str)
      (pss_cons (ps_set (i := 1) sc__law_is_name.nd rfl (by first | exact Or.inl rfl | exact Or.inr rfl) (pe_op op_addX (pv 1) pe_str))
      (pss_cons (ps_set (i := 1) sc__law_is_name.nd rfl (by first | exact Or.inl rfl | exact Or.inr rfl) (pe_op op_addX (pv 1) pe_str))
      (pss_cons (ps_if (PW.pt (pw_or (pt_not (pt_chain op_le op_le pe_int (pe_callB call_lenX (by rfl) T.b_len L2.A.boot_len (pa_cons (pv 0) pa_nil)) pe_int)) (pw_or1 (pt_cmpR (op_inX hu) (pv 0) (pe_bm PySem.F.plainAttrs_str PySem.F.slot_str_split PySem.F.type_str_split mt_split (pv 1) (pa_cons pe_str pa_nil)) (by rfl))))) (pss_one (ps_ret pe_bl)) pss_nil)
      (pss_one (ps_ret (pe_callB (cr_all rfl) (by rfl) T.b_all L2.A.boot_all (pa_cons (pe_lc (own := [("_law_sign", 2)]) rfl sc__law_is_name.nd (pi_X (pv 0)) (blkOk_by (N := N__law_is_name) (sc := defScope s__law_is_name) (own := [("_law_sign", 2)]) (by decide +kernel)) (fun _ _ _ _ _ => (pg_name (i := 2) sc__law_is_name.nd rfl (by first | exact Or.inl rfl | exact Or.inr rfl))) (fun _ _ _ _ _ => pts_nil) (fun _ _ _ _ _ => (pe_cmpR (op_inK (K := K) rfl hu) (pv 2) pe_str (by rfl)))) pa_nil))))))))), ?_⟩
  refine go_start (σ := [some a0, none, none]) rfl ?_
  try dsimp only [cxOf, Cx.nox, Cx.wish, Cx.tr, Cx.suite]
  obtain ⟨w, rfl, hw, hq⟩ := h
  have hl : w.length = w.cps.toList.length := (Array.length_toList ..).symm
  walk_at "*"
  refine go_addS (szl (Nat.le_of_ble_eq_true (by decide +kernel))) ?_
  walk_at "*"
  refine go_addS (szl (Nat.le_of_ble_eq_true (by decide +kernel))) ?_
  walk_at "*"
  by_cases l1 : 1 ≤ w.length
  case neg =>
    refine ite_F (decide_eq_false (by omega)) ?_
    walk_at "*"
    exact ret_V (by unfold nameB; rw [decide_eq_false (show ¬ 1 ≤ (w.length : Int) by omega)]; rfl) (hq _ (.refl _))
  refine ite_T (decide_eq_true (by omega)) ?_
  walk_at "*"
  by_cases l2 : w.length ≤ 8
  case neg =>
    refine ite_T (by simp; omega) ?_
    walk_at "*"
    exact ret_V (by unfold nameB; rw [decide_eq_false (show ¬ (w.length : Int) ≤ 8 by omega), Bool.and_false]; rfl) (hq _ (.refl _))
  refine ite_F (by simp; omega) ?_
  have d1 : decide (1 ≤ (w.length : Int)) = true := decide_eq_true (by omega)
  have d2 : decide ((w.length : Int) ≤ 8) = true := decide_eq_true (by omega)
  walk_at "*"
  refine go_split2 (by decide) (Nat.le_of_ble_eq_true rfl) ?_
  refine go_new fun l1 H1 n1 s1 e1 => ?_
  rw [kept_all] at e1
  walk_at "*"
  refine go_inL (.of e1) rfl (flat_strs _) ?_
  rw [kw_ok]
  walk_at "*"
  refine if2 (fun c3 => ?_) (fun c3 => ?_)
  · walk_at "*"
    exact ret_V (by unfold nameB; rw [c3, Bool.not_true, Bool.and_false, Bool.and_false]) (hq _ s1)
  walk_at "*"
  refine go_iS ?_
  refine LcW.it walk_str (fun D i ys H' => Same H H' ∧ ys = (((w.cps.toList.take i).map fun c => decide (c ∈ (Str.ofString "abcdefghijklmnopqrstuvwxyz").cps.toList)).map V.bl)) (by rw [← Array.length_toList]; omega) (fun D hD => ⟨s1.trans (same_new hD), rfl⟩) (fun _ _ _ _ _ _ _ _ => trivial) ?_ ?_
  · rintro D i x ys H4 H5 hD hi hl' e ⟨s, rfl⟩ ⟨rfl, c, ec, rfl⟩ yes no hy hn
    have ec : w.cps.toList[i]? = some c := by simpa using ec
    refine go_name rfl ⟨rfl, ?_⟩
    walk_at "*"
    refine go_inSg ?_
    walk_at "*"
    exact hy _ _ e ⟨same_mut s (s1.free hD), by rw [List.take_add_one, ec, List.map_append, List.map_append]; rfl⟩
  rintro D ys H4 hD e _ ⟨s4, rfl⟩
  rw [show w.cps.size = w.cps.toList.length by simp, List.take_length] at e
  walk_at "*"
  refine go_all (.of e) ?_
  have ea : ((w.cps.toList.map fun c => decide (c ∈ (Str.ofString "abcdefghijklmnopqrstuvwxyz").cps.toList)).all id) = allIn w "abcdefghijklmnopqrstuvwxyz" := by rw [List.all_map]; rfl
  rw [ea]
  exact ret_V (by unfold nameB; rw [c3, d1, d2]; simp; rfl) (hq _ s4)

theorem nonneg_val {w : Str} : (0 : Int) ≤ valN w := Int.natCast_nonneg _
theorem numB0 {w : Str} : numB w 0 = !badN w := by
  unfold numB
  rw [decide_eq_true (show valN w ≥ 0 from nonneg_val), Bool.and_true]
theorem fits_pts {r : List Str} : (ptsO r).isSome = (decide (r.length = 3) && (r.map fun w => numB w 0).all id) := by
  rw [List.all_map]
  have e : (r.all (id ∘ fun w => numB w 0)) = !(r.any badN) := by
    rw [List.not_any_eq_all_not]
    congr 1
    funext w
    exact numB0
  rw [e]
  unfold ptsO numsO
  by_cases c : r.any badN = true
  · rw [if_pos c, c]
    simp
  · rw [if_neg c, eq_false_of_ne_true c]
    match r with
    | [] => rfl
    | [_] => rfl
    | [_, _] => rfl
    | [_, _, _] => rfl
    | _ :: _ :: _ :: _ :: _ => simp
theorem fits_gm {a r n b s m : Str} : (gmO [a, r, n, b, s, m]).isSome = (nameB a && (nameB b && !decide (a = b)) && (numB r 0 && (numB n 1 && (numB s 0 && numB m 1)))) := by
  have e : gmO [a, r, n, b, s, m] = if (nameB a && (nameB b && !decide (a = b))) = true then (match numsO [r, n, s, m] with
      | some [x, y, z, u] => if y = 0 ∨ u = 0 then none else some ⟨a, x, y, b, z, u⟩
      | _ => none) else none := rfl
  rw [e]
  cases nameB a && (nameB b && !decide (a = b)) with
  | false => rfl
  | true =>
    rw [if_pos rfl, Bool.true_and, numB0, numB0]
    unfold numsO numB
    have l1 : decide (valN n ≥ 1) = !decide (valN n = 0) := by have := nonneg_val (w := n); rw [← decide_not, decide_eq_decide]; omega
    have l2 : decide (valN m ≥ 1) = !decide (valN m = 0) := by have := nonneg_val (w := m); rw [← decide_not, decide_eq_decide]; omega
    rw [l1, l2]
    simp only [List.any_cons, List.any_nil, List.map_cons, List.map_nil]
    cases badN r <;> cases badN n <;> cases badN s <;> cases badN m <;> simp
    by_cases c1 : valN n = 0 <;> by_cases c2 : valN m = 0 <;> simp [c1, c2]
theorem bnd_all {bs : List Bool} {H : Hp} : True := trivial

/-! ### _law_fits -/
abbrev s__law_fits : Stmt := top 33
abbrev N__law_fits : List Str := ["_law_words", "_law_rest", "_law_known", "_law_word", "_law_k"]
theorem sc__law_fits : FnScope N__law_fits ["_law_words"] (defScope s__law_fits) := ⟨rfl, rfl, rfl, by decide +kernel, rfl, by decide +kernel, by decide +kernel⟩
def pr__law_fits (K : PySem.W.Frag) : V → Hp → VK → XK → Prop := fun a0 H Q E => ∃ (q : Addr) (ws : List Str), a0 = .ref q ∧ ws ≠ [] ∧ H q = some (.lst (ws.map V.str)) ∧ (∀ w ∈ ws, w.length ≤ 600) ∧ ws.length ≤ 100 ∧ ∀ H', Same H H' → Q (.bl (rowL ws).isSome) H' 
abbrev sp__law_fits (K : PySem.W.Frag) : Sp := Sp1 (pr__law_fits K)
theorem ok__law_fits {P : Program} {w : World} {K : PySem.W.Frag} {mg : Str → Option Value} {base : Heap} {f : Addr} {fd : FuncData} (F : FunD K "_law_fits" "_law_fits" (defArgs s__law_fits) (defBody s__law_fits) (defScope s__law_fits) [] [] f fd) (T : Txt K mg) (d__law_is_name : Dn P w K mg base CX0 1 "_law_is_name" ["_law_word"] [] (sp__law_is_name K)) (d__law_is_number : Dn P w K mg base CX0 1 "_law_is_number" ["_law_word", "_law_least"] [] (sp__law_is_number K)) : FnOk P w K mg base CX0 2 f fd ["_law_words"] (sp__law_fits K) := by
  refine F.ok sc__law_fits (fun vs H Q E h => len1 h) (fun cdv A outer s H vs Q E hr h => ?_)
  obtain ⟨a0, rfl, h⟩ := h
  have hu := hu_of hr
  refine ⟨_, PSs.nox ((pss_cons (ps_set (i := 1) sc__law_fits.nd rfl (by first | exact Or.inl rfl | exact Or.inr rfl) (pe_slice sl_X (pv 0) (po_some pe_int) po_none))
      (pss_cons (ps_if (pt_cmpR (op_eqX hr.units) (pe_ix (ix_X hu) (pv 0) pe_int (fun _ _ => rfl)) pe_str (nomark _)) (pss_one (ps_ret (pe_and (pe_cmpR (op_eqX hr.units) (pe_callB call_lenX (by rfl) T.b_len L2.A.boot_len (pa_cons (pv 1) pa_nil)) pe_int (nomark _)) (pe_one (pe_callB (cr_all rfl) (by rfl) T.b_all L2.A.boot_all (pa_cons (pe_lc (own := [("_law_word", 3)]) rfl sc__law_fits.nd (pi_X (pv 1)) (blkOk_by (N := N__law_fits) (sc := defScope s__law_fits) (own := [("_law_word", 3)]) (by decide +kernel)) (fun _ _ _ _ _ => (pg_name (i := 3) sc__law_fits.nd rfl (by first | exact Or.inl rfl | exact Or.inr rfl))) (fun _ _ _ _ _ => pts_nil) (fun _ _ _ _ _ => (pe_d d__law_is_number (hr.mono (by decide)) rfl pass0 (pa_cons (pv 3) (pa_cons pe_int pa_nil))))) pa_nil)))))) pss_nil)
      (pss_cons (ps_if (pt_cmpR (op_eqX hr.units) (pe_ix (ix_X hu) (pv 0) pe_int (fun _ _ => rfl)) pe_str (nomark _)) (pss_cons (ps_setLc (i := 2) (own := [("_law_word", 3)]) rfl sc__law_fits.nd rfl rfl (sw_true rfl rfl rfl (by decide +kernel)) (pi_X (pv 1)) (blkOk_by (N := N__law_fits) (sc := defScope s__law_fits) (own := [("_law_word", 3)]) (by decide +kernel)) (fun _ _ _ _ _ => (pg_name (i := 3) sc__law_fits.nd rfl (by first | exact Or.inl rfl | exact Or.inr rfl))) (fun _ _ _ _ _ => pts_nil) (fun _ _ _ _ _ => (pe_cmpR (op_inK (K := K) rfl hu) (pv 3) (pe_lst (pa_cons pe_str (pa_cons pe_str (pa_cons pe_str (pa_cons pe_str pa_nil))))) (by rfl))))
      (pss_one (ps_ret (pe_and (pe_cmpR op_gt (pe_callB call_lenX (by rfl) T.b_len L2.A.boot_len (pa_cons (pv 1) pa_nil)) pe_int (nomark _)) (pe_and (pe_callB (cr_all rfl) (by rfl) T.b_all L2.A.boot_all (pa_cons (pv 2) pa_nil)) (pe_one (pe_cmpR (op_eqX hr.units) (pe_lenS rfl (by rfl) T.b_len (by rfl) T.b_set (pv 1)) (pe_callB call_lenX (by rfl) T.b_len L2.A.boot_len (pa_cons (pv 1) pa_nil)) (nomark _)))))))) pss_nil)
      (pss_cons (ps_if (PW.pt (pw_or (pt_cmpR (op_neX hr.units) (pe_ix (ix_X hu) (pv 0) pe_int (fun _ _ => rfl)) pe_str (nomark _)) (pw_or (pt_cmpR (op_neX hr.units) (pe_callB call_lenX (by rfl) T.b_len L2.A.boot_len (pa_cons (pv 1) pa_nil)) pe_int (nomark _)) (pw_or1 (pt_cmpR (op_eqX hr.units) (pe_ix (ix_X hu) (pv 1) pe_int (fun _ _ => rfl)) (pe_ix (ix_X hu) (pv 1) pe_int (fun _ _ => rfl)) (nomark _)))))) (pss_one (ps_ret pe_bl)) pss_nil)
      (pss_cons (ps_if (PW.pt (pw_or (pt_not (pt_truX (pe_d d__law_is_name (hr.mono (by decide)) rfl pass0 (pa_cons (pe_ix (ix_X hu) (pv 1) pe_int (fun _ _ => rfl)) pa_nil)))) (pw_or1 (pt_not (pt_truX (pe_d d__law_is_name (hr.mono (by decide)) rfl pass0 (pa_cons (pe_ix (ix_X hu) (pv 1) pe_int (fun _ _ => rfl)) pa_nil))))))) (pss_one (ps_ret pe_bl)) pss_nil)
      (pss_one (ps_ret (pe_callB (cr_all rfl) (by rfl) T.b_all L2.A.boot_all (pa_cons (pe_lc (own := [("_law_k", 4)]) rfl sc__law_fits.nd (pi_X (pe_tup (pa_cons pe_int (pa_cons pe_int (pa_cons pe_int (pa_cons pe_int pa_nil)))))) (blkOk_by (N := N__law_fits) (sc := defScope s__law_fits) (own := [("_law_k", 4)]) (by decide +kernel)) (fun _ _ _ _ _ => (pg_name (i := 4) sc__law_fits.nd rfl (by first | exact Or.inl rfl | exact Or.inr rfl))) (fun _ _ _ _ _ => pts_nil) (fun _ _ _ _ _ => (pe_d d__law_is_number (hr.mono (by decide)) rfl pass0 (pa_cons (pe_ix (ix_K (K := K) rfl hu) (pv 1) (pv 4) (fun _ _ => rfl)) (pa_cons (pe_ix (ix_K (K := K) rfl hu) (pe_lst (pa_cons pe_int (pa_cons pe_int (pa_cons pe_int (pa_cons pe_int (pa_cons pe_int (pa_cons pe_int pa_nil))))))) (pv 4) (fun _ _ => rfl)) pa_nil))))) pa_nil)))))))))), ?_⟩
  refine go_start (σ := [some a0, none, none, none, none]) rfl ?_
  try dsimp only [cxOf, Cx.nox, Cx.wish, Cx.tr, Cx.suite]
  obtain ⟨q, ws, rfl, wne, hw, hl, ln, hq⟩ := h
  have st0 : Sta H [] H := .nil
  rcases ws with _ | ⟨w0, r⟩
  · exact absurd rfl wne
  rw [List.length_cons] at ln
  have e0 : rowL (w0 :: r) = if w0 = "points" then (ptsO r).map fun t => .pts t.1 t.2.1 t.2.2 else if w0 = "breaker" then (if brkB r = true then some (.brk r) else none) else if w0 = "played" then (gmO r).map .gm else none := rfl
  walk_at "*"
  refine go_slL (.of hw) (lo := some ((1 : Nat) : Int)) (hi := none) (ys := r.map V.str) (cut_drop (by simp)) ?_
  refine go_newF st0 fun b F1 H1 s1 e1 st1 => ?_
  have hw1 := s1 _ _ hw
  clear st0
  walk_at "*"
  rw [dec_str]
  by_cases k1 : w0 = "points"
  · refine ite_T (decide_eq_true k1) ?_
    rw [if_pos k1] at e0
    have e0 : (rowL (w0 :: r)).isSome = (decide (r.length = 3) && (r.map fun w => numB w 0).all id) := by rw [e0, Option.isSome_map, fits_pts]
    walk_at "*"
    rw [List.length_map]
    by_cases l3 : r.length = 3
    case neg =>
      refine ite_F (by simp; omega) ?_
      exact ret_V (by rw [e0, decide_eq_false l3]; rfl) (hq _ (s1.trans st1.fz))
    refine ite_T (by simp; omega) ?_
    walk_at "*"
    refine go_iL (.of (st1.of e1)) ?_
    refine LcW.accL r V.str (fun pre => (pre.map fun w => numB w 0).map V.bl) (by omega) st1 (fun F' H' s' st' => .of (st'.of (s' _ _ e1))) rfl ?_ ?_
    · rintro A pre w F2 H2 mw s2 st2 yes no hy hn
      refine go_name rfl ⟨rfl, ?_⟩
      walk_at "*"
      refine go_sp2 ⟨w, 0, rfl, rfl, hl w (List.mem_cons_of_mem _ mw), fun H3 s3 => ?_⟩
      exact hy _ _ _ (by rw [List.map_append, List.map_append]; rfl) (.refl _) (st2.same s3)
    rintro A F2 H2 s2 st2
    walk_at "*"
    refine go_all (.of (st2.get (.head _))) ?_
    exact ret_V (by rw [e0, decide_eq_true l3, Bool.true_and]) (hq _ (s1.trans (s2.trans st2.fz)))
  refine ite_F (decide_eq_false k1) ?_
  rw [if_neg k1] at e0
  walk_at "*"
  rw [dec_str]
  by_cases k2 : w0 = "breaker"
  · refine ite_T (decide_eq_true k2) ?_
    rw [if_pos k2] at e0
    have e0 : (rowL (w0 :: r)).isSome = brkB r := by rw [e0]; cases brkB r <;> rfl
    walk_at "*"
    refine go_iL (.of (st1.of e1)) ?_
    refine LcW.accL r V.str (fun pre => (pre.map fun w => decide (w ∈ BRK)).map V.bl) (by omega) st1 (fun F' H' s' st' => .of (st'.of (s' _ _ e1))) rfl ?_ ?_
    · rintro A pre w F2 H2 mw s2 st2 yes no hy hn
      refine go_name rfl ⟨rfl, ?_⟩
      walk_at "*"
      refine go_newF st2 fun b3 F3 H3 s3 e3 st3 => ?_
      walk_at "*"
      refine go_inL (xs := BRK.map V.str) (.of (st3.of e3)) rfl (by decide +kernel) ?_
      rw [inv_ss]
      exact hy _ _ _ (by rw [List.map_append, List.map_append]; rfl) s3 st3
    rintro A F2 H2 s2 st2
    have eA := st2.get (p := A) (.head _)
    have eb : brkB r = (!decide (r = []) && ((r.map fun w => decide (w ∈ BRK)).all id && decide r.Nodup)) := by
      unfold brkB
      rw [List.all_map, Bool.and_comm (decide r.Nodup)]; rfl
    rw [eb] at e0
    walk_at "*"
    rw [List.length_map]
    by_cases rn : r = []
    · refine ite_F (by rw [rn]; rfl) ?_
      exact ret_V (by rw [e0, rn]; rfl) (hq _ (s1.trans (s2.trans st2.fz)))
    refine ite_T (by have := List.length_pos_iff.mpr rn; simpa using this) ?_
    walk_at "*"
    refine go_all (.of eA) ?_
    walk_at "*"
    cases ca : (r.map fun w => decide (w ∈ BRK)).all id with
    | false =>
      refine ite_F rfl ?_
      exact ret_V (by rw [e0, ca, Bool.false_and, Bool.and_false]) (hq _ (s1.trans (s2.trans st2.fz)))
    | true =>
    refine ite_T rfl ?_
    walk_at "*"
    refine go_lset (.of (st2.of (s2 _ _ e1))) (by omega) ?_
    walk_at "*"
    rw [List.length_map]
    have ec : decide (cntT r r.length = r.length) = decide r.Nodup := by
      have h := cntT_nd (xs := r) (Nat.le_refl _)
      rw [List.take_length] at h
      exact decide_eq_decide.mpr h
    exact ret_V (by rw [e0, ca, decide_eq_false rn, ← ec, dec_int, Bool.true_and, Bool.not_false, Bool.true_and]; congr 1; rw [Bool.eq_iff_iff, beq_iff_eq, decide_eq_true_eq]; omega) (hq _ (s1.trans (s2.trans st2.fz)))
  refine ite_F (decide_eq_false k2) ?_
  rw [if_neg k2] at e0
  walk_at "*"
  rw [dec_str]
  by_cases k3 : w0 = "played"
  case neg =>
    refine ite_T (by simp [k3]) ?_
    walk_at "*"
    exact ret_V (by rw [e0, if_neg k3]; rfl) (hq _ (s1.trans st1.fz))
  refine ite_F (by simp [k3]) ?_
  rw [if_pos k3] at e0
  have e0 : (rowL (w0 :: r)).isSome = (gmO r).isSome := by rw [e0, Option.isSome_map]
  walk_at "*"
  rw [List.length_map]
  by_cases l6 : r.length = 6
  case neg =>
    refine ite_T (by simp; omega) ?_
    walk_at "*"
    exact ret_V (by rw [e0, gm6 l6]; rfl) (hq _ (s1.trans st1.fz))
  obtain ⟨a, x, y, d, z, u, rfl⟩ : ∃ a x y b z u, r = [a, x, y, b, z, u] := by
    match r, l6 with
    | [a, x, y, b, z, u], _ => exact ⟨a, x, y, b, z, u, rfl⟩
  rw [fits_gm] at e0
  have h1 : ∀ w ∈ [a, x, y, d, z, u], w.length ≤ 600 := fun w m => hl w (List.mem_cons_of_mem _ m)
  refine ite_F (show (!decide (V.int (6 : Int) = V.int 6)) = false by decide) ?_
  walk_at "*"
  rw [dec_str]
  by_cases kd : a = d
  · refine ite_T (decide_eq_true kd) ?_
    walk_at "*"
    exact ret_V (by rw [e0, decide_eq_true kd, Bool.not_true, Bool.and_false, Bool.and_false, Bool.false_and]) (hq _ (s1.trans st1.fz))
  refine ite_F (decide_eq_false kd) ?_
  rw [decide_eq_false kd, Bool.not_false, Bool.and_true] at e0
  walk_at "*"
  refine go_sp1 ⟨a, rfl, h1 a (by simp), fun H2 s2 => ?_⟩
  have st2 := st1.same s2
  clear st1
  cases ca : nameB a with
  | false =>
    walk_at "*"
    exact ret_V (by rw [e0, ca]; rfl) (hq _ (s1.trans st2.fz))
  | true =>
  walk_at "*"
  refine go_sp1 ⟨d, rfl, h1 d (by simp), fun H3 s3 => ?_⟩
  have st3 := st2.same s3
  clear st2
  cases cb : nameB d with
  | false =>
    walk_at "*"
    exact ret_V (by rw [e0, ca, cb]; rfl) (hq _ (s1.trans st3.fz))
  | true =>
  rw [ca, cb, Bool.and_self, Bool.true_and] at e0
  walk_at "*"
  rename_i t4 F4 H4 s4 e4 st4
  have e1 := s4 _ _ e1
  refine go_iT (.of (st4.of e4)) ?_
  refine LcW.accT [(1 : Int), 2, 4, 5] V.int (fun pre => (pre.map fun k => numB ([a, x, y, d, z, u].getD k.toNat "") (if k = 2 ∨ k = 5 then 1 else 0)).map V.bl) (by decide) st4 (fun F' H' s' st' => .of (st'.of (s' _ _ e4))) rfl ?_ ?_
  · rintro A pre k F5 H5 mk s5 st5 yes no hy hn
    refine go_name rfl ⟨rfl, ?_⟩
    simp only [List.mem_cons, List.not_mem_nil, or_false] at mk
    have e5 := s5 _ _ e1
    rcases mk with rfl | rfl | rfl | rfl
    · walk_at "*"
      refine go_newF st5 fun b6 F6 H6 s6 e6 st6 => ?_
      walk_at "*"
      refine go_sp2 ⟨x, 0, rfl, rfl, h1 x (by simp), fun H7 s7 => ?_⟩
      exact hy _ _ _ (by rw [List.map_append, List.map_append]; rfl) s6 (st6.same s7)
    · walk_at "*"
      refine go_newF st5 fun b6 F6 H6 s6 e6 st6 => ?_
      walk_at "*"
      refine go_sp2 ⟨y, 1, rfl, rfl, h1 y (by simp), fun H7 s7 => ?_⟩
      exact hy _ _ _ (by rw [List.map_append, List.map_append]; rfl) s6 (st6.same s7)
    · walk_at "*"
      refine go_newF st5 fun b6 F6 H6 s6 e6 st6 => ?_
      walk_at "*"
      refine go_sp2 ⟨z, 0, rfl, rfl, h1 z (by simp), fun H7 s7 => ?_⟩
      exact hy _ _ _ (by rw [List.map_append, List.map_append]; rfl) s6 (st6.same s7)
    · walk_at "*"
      refine go_newF st5 fun b6 F6 H6 s6 e6 st6 => ?_
      walk_at "*"
      refine go_sp2 ⟨u, 1, rfl, rfl, h1 u (by simp), fun H7 s7 => ?_⟩
      exact hy _ _ _ (by rw [List.map_append, List.map_append]; rfl) s6 (st6.same s7)
  rintro A F5 H5 s5 st5
  walk_at "*"
  refine go_all (.of (st5.get (.head _))) ?_
  exact ret_V (by rw [e0]; show V.bl _ = V.bl (numB x 0 && (numB y 1 && (numB z 0 && (numB u 1 && true)))); rw [Bool.and_true]) (hq _ (s1.trans (s4.trans (s5.trans st5.fz))))

/-- a word that may stand in a row -/
structure WordOk (w : Str) : Prop where
  sp : 32 ∉ tl w
  nl : 10 ∉ tl w
  len : w.length ≤ 20
abbrev nzS (ws : List Str) : List Str := ws.filter fun w : Str => !decide (w = ("" : Str))
/-- a row under way -/
structure RowP (z : Str) (ws : List Str) : Prop where
  words : rwds z = nzS ws
  nl : 10 ∉ tl z
theorem RowP.blank {z : Str} {ws : List Str} (h : RowP z ws) (n : Int) : RowP (z ++ Txt.mul " " n) ws := by
  refine ⟨?_, ?_⟩
  · rw [← h.words]
    unfold rwds
    rw [TL.tl_append, tl_blanks, wl_rep]
  · rw [TL.tl_append, tl_blanks, List.mem_append]
    rintro (m | m)
    · exact h.nl m
    · exact absurd (List.eq_of_mem_replicate m) (by decide)
theorem RowP.word {z w : Str} {ws : List Str} (h : RowP z ws) (e : EndB (tl z)) (k : WordOk w) : RowP (z ++ w) (ws ++ [w]) := by
  refine ⟨?_, ?_⟩
  · show rwds (z ++ w) = List.filter _ (ws ++ [w])
    rw [List.filter_append]
    show _ = nzS ws ++ _
    rw [← h.words]
    unfold rwds
    rw [TL.tl_append, wl_snoc e k.sp, List.map_append, List.filter_cons, str_ne]
    congr 1
    cases ht : tl w with
    | nil => rfl
    | cons c l =>
      show [(⟨(c :: l).toArray⟩ : Str)] = [w]
      rw [← ht, TL.mk_tl]
  · rw [TL.tl_append, List.mem_append]
    rintro (m | m)
    · exact h.nl m
    · exact k.nl m
theorem row0 (n : Int) : RowP (Txt.mul " " n) [] := by
  refine ⟨?_, ?_⟩
  · unfold rwds
    have := wl_rep (l := []) n.toNat
    rw [List.nil_append] at this
    rw [tl_blanks, this]; rfl
  · rw [tl_blanks]
    intro m
    exact absurd (List.eq_of_mem_replicate m) (by decide)
theorem end0 (n : Int) : EndB (tl (Txt.mul " " n)) := by
  rw [tl_blanks]
  have := EndB.rep (l := []) (.inl rfl) n.toNat
  rwa [List.nil_append] at this
theorem end1 {z : Str} {n : Int} (h : 1 ≤ n) : EndB (tl (z ++ Txt.mul " " n)) := by
  rw [TL.tl_append, tl_blanks]
  exact EndB.rep1 (by omega)
theorem blanks_len (n : Int) : (Txt.mul " " n).length = n.toNat := by rw [TL.len_tl, tl_blanks, List.length_replicate]


def WordsAt (H : Hp) (v : V) (ws : List Str) : Prop := ∃ q, v = .ref q ∧ H q = some (.lst (ws.map V.str))

abbrev strI (x : Int) : Str := Str.ofString (toString x)
theorem strI_len {n : Nat} (h : n ≤ 9999) : (strI (n : Int)).length ≤ 4 := by rw [TL.len_tl, show tl (strI (n : Int)) = TL.numL n from TL.tl_num n]; exact TL.numL_len (by decide) (by omega)
theorem strI_log {n : Nat} (h : n ≤ 9999) : ((n : Int)).natAbs.log2 < 1920 := by
  show n.log2 < 1920
  by_cases z : n = 0
  · subst z; decide
  · have : n.log2 < 17 := (Nat.log2_lt z).mpr (by omega)
    omega
theorem strI_sp {n c : Nat} (h : c ∈ tl (strI (n : Int))) : 48 ≤ c ∧ c ≤ 57 := by
  rw [show tl (strI (n : Int)) = TL.numL n from TL.tl_num n] at h
  have := TL.numL_digits n c h
  omega
theorem strI_word {n : Nat} (h : n ≤ 9999) : WordOk (strI (n : Int)) := ⟨fun m => by have := strI_sp m; omega, fun m => by have := strI_sp m; omega, Nat.le_trans (strI_len h) (by decide)⟩
theorem strI_ne {n : Nat} : tl (strI (n : Int)) ≠ [] := by rw [show tl (strI (n : Int)) = TL.numL n from TL.tl_num n]; exact TL.numL_ne n

/-- a word that stands in a row -/
structure WordG (w : Str) : Prop extends WordOk w where
  ne : tl w ≠ []
  ok : okV (.str w) = true
/-- lines laid -/
def LinesF (F : Hp) (q : Addr) (ls : List (List Str)) : Prop := ∃ vs, F q = some (.lst vs) ∧ All2 (WordsAt F) vs ls
theorem WordsAt.same {F F' : Hp} {v : V} {ws : List Str} (h : WordsAt F v ws) (s : Same F F') : WordsAt F' v ws := by
  obtain ⟨q, e1, e2⟩ := h
  exact ⟨q, e1, s _ _ e2⟩
theorem LinesF.same {F F' : Hp} {q : Addr} {ls : List (List Str)} (h : LinesF F q ls) (s : Same F F') : LinesF F' q ls := by
  obtain ⟨vs, e1, e2⟩ := h
  exact ⟨vs, s _ _ e1, e2.mono fun _ _ w => w.same s⟩
def wordGB (w : Str) : Bool := decide (32 ∉ tl w) && (decide (10 ∉ tl w) && (decide (w.length ≤ 20) && (decide (tl w ≠ []) && okV (.str w))))
theorem wordG_of {w : Str} (h : wordGB w = true) : WordG w := by
  unfold wordGB at h
  rw [Bool.and_eq_true, Bool.and_eq_true, Bool.and_eq_true, Bool.and_eq_true] at h
  exact ⟨⟨of_decide_eq_true h.1, of_decide_eq_true h.2.1, of_decide_eq_true h.2.2.1⟩, of_decide_eq_true h.2.2.2.1, h.2.2.2.2⟩

def dLines (ls : List (List Str)) : PyData := .list (ls.map fun ws => .list (ws.map PyData.str))
theorem dps_strs {K : PySem.W.Frag} {F : Hp} : ∀ {ws : List Str}, DpAll K F (ws.map V.str) (ws.map PyData.str)
  | [] => .nil
  | w :: ws => .cons (.str w) dps_strs
theorem dps_words {K : PySem.W.Frag} {F : Hp} : ∀ {vs : List V} {ls : List (List Str)}, All2 (WordsAt F) vs ls → DpAll K F vs (ls.map fun ws => PyData.list (ws.map PyData.str))
  | _, _, .nil => .nil
  | _, _, .cons ⟨q, e1, e2⟩ y => by subst e1; exact .cons (.lst (.of e2) dps_strs) (dps_words y)
theorem LinesF.dp {K : PySem.W.Frag} {F : Hp} {q : Addr} {ls : List (List Str)} (h : LinesF F q ls) : Dp K F (.ref q) (dLines ls) := by
  obtain ⟨vs, e1, e2⟩ := h
  exact .lst (.of e1) (dps_words e2)
section
variable {K : PySem.W.Frag} {F H : Hp} {L : Cells} {Q : VK} {q a b : Addr} {ls l1 l2 : List (List Str)} {k : Nat}
theorem LinesF.take (h : LinesF F q ls) (st : Sta F L H) (hk : k ≤ ls.length) (hq : ∀ q' F' H', Same F F' → LinesF F' q' (ls.take k) → Sta F' L H' → Q (.ref q') H') : rSlX K (.ref q) none (some (k : Int)) H Q := by
  obtain ⟨vs, e1, e2⟩ := h
  refine go_slL (.of (st.of e1)) (cut_take (by rw [e2.len]; exact hk)) (go_newF st fun q' F' H' s e st' => hq q' F' H' s ⟨_, e, ?_⟩ st')
  have := (e2.mono fun _ _ w => w.same s).cut 0 k
  rwa [List.drop_zero, List.drop_zero] at this
theorem LinesF.drop (h : LinesF F q ls) (st : Sta F L H) (hk : k ≤ ls.length) (hq : ∀ q' F' H', Same F F' → LinesF F' q' (ls.drop k) → Sta F' L H' → Q (.ref q') H') : rSlX K (.ref q) (some (k : Int)) none H Q := by
  obtain ⟨vs, e1, e2⟩ := h
  refine go_slL (.of (st.of e1)) (cut_drop (by rw [e2.len]; exact hk)) (go_newF st fun q' F' H' s e st' => hq q' F' H' s ⟨_, e, ?_⟩ st')
  have := (e2.mono fun _ _ w => w.same s).cut k vs.length
  rwa [List.take_of_length_le (by rw [List.length_drop]; omega), List.take_of_length_le (by rw [List.length_drop, e2.len]; omega)] at this
theorem LinesF.mid {j : Nat} (h : LinesF F q ls) (st : Sta F L H) (hj : j ≤ k) (hk : k ≤ ls.length) (hq : ∀ q' F' H', Same F F' → LinesF F' q' ((ls.drop j).take (k - j)) → Sta F' L H' → Q (.ref q') H') : rSlX K (.ref q) (some (j : Int)) (some (k : Int)) H Q := by
  obtain ⟨vs, e1, e2⟩ := h
  exact go_slL (.of (st.of e1)) (cut_mid hj (by rw [e2.len]; exact hk)) (go_newF st fun q' F' H' s e st' => hq q' F' H' s ⟨_, e, (e2.mono fun _ _ w => w.same s).cut j (k - j)⟩ st')
theorem LinesF.add (ha : LinesF F a l1) (hb : LinesF F b l2) (st : Sta F L H) (z : l1.length + l2.length ≤ 1000) (hq : ∀ q' F' H', Same F F' → LinesF F' q' (l1 ++ l2) → Sta F' L H' → Q (.ref q') H') : rAddX K (.ref a) (.ref b) H Q := by
  obtain ⟨vs, e1, e2⟩ := ha
  obtain ⟨us, e3, e4⟩ := hb
  exact go_addL (st.of e1) (st.of e3) (szl (by rw [e2.len, e4.len]; omega)) (go_newF st fun q' F' H' s e st' => hq q' F' H' s ⟨_, e, (e2.mono fun _ _ w => w.same s).append (e4.mono fun _ _ w => w.same s)⟩ st')
end
theorem eqv_nil {ls : List (List Str)} : PyData.eqv (dLines ls) (.list []) = decide (ls = []) := by
  cases ls with
  | nil => rfl
  | cons a b => simp [dLines, PyData.eqv, PyData.eqvAll]


theorem at_head (x : V) (xs : List V) : atI (x :: xs) 0 = some x := by unfold atI ixN; simp
theorem go_pop0S {F : Hp} {L R : Cells} {H : Hp} {l : Addr} {xs : List V} {y : V} {Q : VK} (st : Sta F L H) (p : L.Perm ((l, .lst xs) :: R)) (hy : xs[xs.length - 1]? = some y) (h : ∀ H', Sta F ((l, .lst xs.dropLast) :: R) H' → Q y H') : rPop (.ref l) [] H Q :=
  ⟨l, xs, y, rfl, rfl, (st.perm p).get (.head _), hy, h _ (st.put p rfl)⟩
theorem dLines_sh {ls : List (List Str)} (h : ∀ ws ∈ ls, ∀ w ∈ ws, WordG w) : SeqAt.shaped (dLines ls) = true := by
  refine shaped_of ?_ ?_
  · show PyData.canLayAll0 _ = true
    refine canAll_map fun ws m => ?_
    show PyData.canLayAll0 _ = true
    exact canAll_map fun w mw => (by have := (h ws m w mw).ok; exact this)
  · have : PyData.depthAll (ls.map fun ws => PyData.list (ws.map PyData.str)) ≤ 1 := depthAll_map fun ws _ => by
      have : PyData.depthAll (ws.map PyData.str) ≤ 0 := depthAll_map fun w _ => Nat.le_refl _
      show (PyData.list (ws.map PyData.str)).depth ≤ 1
      simp only [PyData.depth]
      omega
    show (PyData.list _).depth ≤ 64
    simp only [PyData.depth]
    omega
structure LnOk (k : Nat) (ws : List Str) : Prop where
  n : ws.length ≤ k
  w : ∀ w ∈ ws, WordG w
theorem LnOk.le {j k : Nat} {ws : List Str} (h : LnOk j ws) (l : j ≤ k) : LnOk k ws := ⟨Nat.le_trans h.n l, h.w⟩
def OddB (w : Str) : Bool := decide (w = "") || wordGB w
def ODD : List Str := ["0", "1", "00", "007", "9999", "10000", "x", "Ab", "runs", "wins", "name", "points", ""]
def ODD2 : List Str := ["abcdefgh", "abcdefghi", "zzzzzzzzz"]
theorem odd_ok : ∀ w ∈ ODD ++ ODD2, OddB w = true := by decide +kernel
theorem odd_of {z w : Str} (hz : WordG z) (m : w ∈ (ODD ++ [z]) ++ ODD2) : w = "" ∨ WordG w := by
  rw [List.append_assoc, List.mem_append, List.mem_append] at m
  have k : w ∈ ODD ++ ODD2 → w = "" ∨ WordG w := fun m => by
    have := odd_ok w m
    unfold OddB at this
    rw [Bool.or_eq_true] at this
    exact this.imp of_decide_eq_true wordG_of
  rcases m with m | m | m
  · exact k (List.mem_append_left _ m)
  · rw [List.mem_singleton.mp m]; exact .inr hz
  · exact k (List.mem_append_right _ m)
theorem sing {α β : Type} {R : α → β → Prop} {a : α} {b : β} (h : R a b) : All2 R [a] [b] := .cons h .nil
section
variable {K : PySem.W.Frag} {F H : Hp} {L : Cells} {Q : VK} {q a b : Addr} {ls l1 l2 : List (List Str)} {k : Nat}
theorem LinesF.addV (ha : LinesF F a l1) (hb : LinesF F b l2) (st : Sta F L H) (z : l1.length + l2.length ≤ 1000) (hq : ∀ t vs H', All2 (WordsAt F) vs (l1 ++ l2) → Sta F ((t, .lst vs) :: L) H' → Q (.ref t) H') : rAddX K (.ref a) (.ref b) H Q := by
  obtain ⟨vs, e1, e2⟩ := ha
  obtain ⟨us, e3, e4⟩ := hb
  exact go_addL (st.of e1) (st.of e3) (szl (by rw [e2.len, e4.len]; omega)) (go_newLv st rfl fun t H' st' => hq t _ H' (e2.append e4) st')
theorem LinesF.cutX {lo hi : Option Int} (h : LinesF F q ls) (st : Sta F L H) (hq : ∀ q' l' F' H', Same F F' → LinesF F' q' l' → (∀ ws ∈ l', ws ∈ ls) → l'.length ≤ ls.length → Sta F' L H' → Q (.ref q') H') : rSlX K (.ref q) lo hi H Q := by
  obtain ⟨vs, e1, e2⟩ := h
  refine go_slL (.of (st.of e1)) (ys := (vs.drop (HT.sIx vs.length 0 lo)).take (HT.sIx vs.length vs.length hi - HT.sIx vs.length 0 lo)) rfl (go_newF st fun q' F' H' s e st' => hq q' ((ls.drop (HT.sIx vs.length 0 lo)).take (HT.sIx vs.length vs.length hi - HT.sIx vs.length 0 lo)) F' H' s ⟨_, e, ?_⟩ (fun ws m => List.mem_of_mem_drop (List.mem_of_mem_take m)) (by rw [List.length_take, List.length_drop]; omega) st')
  exact (e2.mono fun _ _ w => w.same s).cut _ _
theorem LinesF.at (h : LinesF F q ls) (hk : k < ls.length) : ∃ vs p, F q = some (.lst vs) ∧ vs.length = ls.length ∧ atI vs (k : Int) = some (.ref p) ∧ F p = some (.lst (ls[k].map V.str)) := by
  obtain ⟨vs, e1, e2⟩ := h
  have hv : k < vs.length := by rw [e2.len]; exact hk
  obtain ⟨b, hb, p, ep, hp⟩ := e2.at (List.getElem?_eq_getElem hv)
  rw [List.getElem?_eq_getElem hk] at hb
  cases hb
  exact ⟨vs, p, e1, e2.len, atI_nat (by rw [List.getElem?_eq_getElem hv, ep]), hp⟩
end
theorem LnOk.all2 {k : Nat} {l1 l2 : List (List Str)} (h1 : ∀ ws ∈ l1, LnOk k ws) (h2 : ∀ ws ∈ l2, LnOk k ws) : ∀ ws ∈ l1 ++ l2, LnOk k ws := fun ws m => by
  rcases List.mem_append.mp m with m | m
  · exact h1 ws m
  · exact h2 ws m
theorem setS {zs : List Str} {j : Nat} {w : Str} : (zs.map V.str).set j (.str w) = (zs.set j w).map V.str := by rw [List.map_set]

/-! ### _law_spoilt -/
abbrev s__law_spoilt : Stmt := top 35
abbrev N__law_spoilt : List Str := ["_law_rows", "_law_names_here", "_law_n", "_law_at_here", "_law_words", "_law_some", "_law_odd", "_law_after", "_law_word"]
theorem sc__law_spoilt : FnScope N__law_spoilt ["_law_rows", "_law_names_here", "_law_n"] (defScope s__law_spoilt) := ⟨rfl, rfl, rfl, by decide +kernel, rfl, by decide +kernel, by decide +kernel⟩
def pr__law_spoilt (K : PySem.W.Frag) : V → V → V → Hp → VK → XK → Prop := fun a0 a1 a2 H Q E => ∃ (F : Hp) (R : Cells) (q nl : Addr) (n : Int) (ls : List (List Str)) (z : Str) (ns : List Str) (k : Nat), a0 = .ref q ∧ a1 = .ref nl ∧ a2 = .int n ∧ LinesF F q ls ∧ F nl = some (.lst ((z :: ns).map V.str)) ∧ WordG z ∧ (∀ ws ∈ ls, LnOk k ws) ∧ k ≤ 20 ∧ 1 ≤ ls.length ∧ ls.length ≤ 100 ∧ Sta F R H ∧
  ∀ (t : Addr) vs (ls' : List (List Str)) F' H', (∀ ws ∈ ls', LnOk (k + 1) ws) → ls'.length ≤ 3 * ls.length + 1 → (2 ≤ ls.length → 1 ≤ ls'.length) → Same F F' → All2 (WordsAt F') vs ls' → Sta F' ((t, .lst vs) :: R) H' → Q (.ref t) H' 
abbrev sp__law_spoilt (K : PySem.W.Frag) : Sp := Sp3 (pr__law_spoilt K)
theorem ok__law_spoilt {P : Program} {w : World} {K : PySem.W.Frag} {mg : Str → Option Value} {base : Heap} {f : Addr} {fd : FuncData} (F : FunD K "_law_spoilt" "_law_spoilt" (defArgs s__law_spoilt) (defBody s__law_spoilt) (defScope s__law_spoilt) [] [] f fd) (T : Txt K mg)  : FnOk P w K mg base CX0 1 f fd ["_law_rows", "_law_names_here", "_law_n"] (sp__law_spoilt K) := by
  refine F.ok sc__law_spoilt (fun vs H Q E h => len3 h) (fun cdv A outer s H vs Q E hr h => ?_)
  obtain ⟨a0, a1, a2, rfl, h⟩ := h
  have hu := hu_of hr
  refine ⟨_, PSs.nox ((pss_cons (ps_set (i := 3) sc__law_spoilt.nd rfl (by first | exact Or.inl rfl | exact Or.inr rfl) (pe_op op_mod (pe_op op_fdiv (pv 2) pe_int) (pe_callB call_lenX (by rfl) T.b_len L2.A.boot_len (pa_cons (pv 0) pa_nil))))
      (pss_cons (ps_set (i := 4) sc__law_spoilt.nd rfl (by first | exact Or.inl rfl | exact Or.inr rfl) (pe_callTy call_listO (by rfl) T.b_list L2.A.boot_list (pa_cons (pe_ix (ix_X hu) (pv 0) (pv 3) (fun _ _ => rfl)) pa_nil)))
      (pss_cons (ps_set (i := 5) sc__law_spoilt.nd rfl (by first | exact Or.inl rfl | exact Or.inr rfl) (pe_lst (pa_cons pe_str (pa_cons pe_str (pa_cons pe_str (pa_cons pe_str (pa_cons pe_str (pa_cons pe_str (pa_cons pe_str (pa_cons pe_str (pa_cons pe_str (pa_cons pe_str (pa_cons pe_str (pa_cons pe_str (pa_cons pe_str (pa_cons (pe_ix (ix_X hu) (pv 1) pe_int (fun _ _ => rfl)) pa_nil))))))))))))))))
      (pss_cons (ps_set (i := 5) sc__law_spoilt.nd rfl (by first | exact Or.inl rfl | exact Or.inr rfl) (pe_op op_addX (pv 5) (pe_lst (pa_cons pe_str (pa_cons pe_str (pa_cons pe_str pa_nil))))))
      (pss_cons (ps_set (i := 6) sc__law_spoilt.nd rfl (by first | exact Or.inl rfl | exact Or.inr rfl) (pe_ix (ix_X hu) (pv 5) (pe_op op_mod (pe_op op_fdiv (pv 2) pe_int) pe_int) (fun _ _ => rfl)))
      (pss_cons (ps_if (pt_cmpR (op_eqX hr.units) (pe_op op_mod (pv 2) pe_int) pe_int (nomark _)) (pss_one (ps_ret (pe_op op_addX (pe_slice sl_X (pv 0) po_none (po_some (pv 3))) (pe_slice sl_X (pv 0) (po_some (pe_op op_addX (pv 3) pe_int)) po_none)))) pss_nil)
      (pss_cons (ps_if (pt_cmpR (op_eqX hr.units) (pe_op op_mod (pv 2) pe_int) pe_int (nomark _)) (pss_one (ps_ret (pe_op op_addX (pe_op op_addX (pe_slice sl_X (pv 0) po_none (po_some (pv 3))) (pe_lst (pa_cons (pv 4) pa_nil))) (pe_slice sl_X (pv 0) (po_some (pv 3)) po_none)))) pss_nil)
      (pss_cons (ps_if (pt_cmpR (op_eqX hr.units) (pe_op op_mod (pv 2) pe_int) pe_int (nomark _)) (pss_cons (ps_set (i := 7) sc__law_spoilt.nd rfl (by first | exact Or.inl rfl | exact Or.inr rfl) (pe_slice sl_X (pv 0) (po_some (pe_op op_addX (pv 3) pe_int)) (po_some (pe_op op_addX (pv 3) pe_int))))
      (pss_one (ps_ret (pe_op op_addX (pe_op op_addX (pe_op op_addX (pe_slice sl_X (pv 0) po_none (po_some (pv 3))) (pv 7)) (pe_lst (pa_cons (pv 4) pa_nil))) (pe_slice sl_X (pv 0) (po_some (pe_op op_addX (pv 3) pe_int)) po_none))))) pss_nil)
      (pss_cut (ps_if (pt_cmpR (op_eqX hr.units) (pe_op op_mod (pv 2) pe_int) pe_int (nomark _)) (pss_one (ps_expr (pe_bm PySem.F.plainAttrs_list PySem.F.slot_list_append PySem.F.type_list_append mt_append (pv 4) (pa_cons (pv 6) pa_nil)))) pss_nil)
      (pss_cut (ps_if (PW.pt (pw_and (pt_cmpR (op_eqX hr.units) (pe_op op_mod (pv 2) pe_int) pe_int (nomark _)) (pw_and1 (pt_cmpR op_gt (pe_callB call_lenX (by rfl) T.b_len L2.A.boot_len (pa_cons (pv 4) pa_nil)) pe_int (nomark _))))) (pss_one (ps_expr (pe_bm0 PySem.F.plainAttrs_list PySem.F.slot_list_pop PySem.F.type_list_pop mt_pop (pv 4)))) pss_nil)
      (pss_cut (ps_if (PW.pt (pw_and (pt_cmpR op_gt (pe_op op_mod (pv 2) pe_int) pe_int (nomark _)) (pw_and1 (pt_cmpR op_gt (pe_callB call_lenX (by rfl) T.b_len L2.A.boot_len (pa_cons (pv 4) pa_nil)) pe_int (nomark _))))) (pss_one (ps_asg (pv 6) (pg_sub (pv 4) (pe_op op_mod (pe_op op_fdiv (pv 2) pe_int) (pe_callB call_lenX (by rfl) T.b_len L2.A.boot_len (pa_cons (pv 4) pa_nil))) (set_X hu)))) pss_nil)
      (pss_cons (ps_setLc (i := 4) (own := [("_law_word", 8)]) rfl sc__law_spoilt.nd rfl rfl (sw_true rfl rfl rfl (by decide +kernel)) (pi_X (pv 4)) (blkOk_by (N := N__law_spoilt) (sc := defScope s__law_spoilt) (own := [("_law_word", 8)]) (by decide +kernel)) (fun _ _ _ _ _ => (pg_name (i := 8) sc__law_spoilt.nd rfl (by first | exact Or.inl rfl | exact Or.inr rfl))) (fun _ _ _ _ _ => pts_one (pt_cmpR (op_neK (K := K) rfl hr.units) (pv 8) pe_str (nomark _))) (fun _ _ _ _ _ => (pv 8)))
      (pss_one (ps_ret (pe_op op_addX (pe_op op_addX (pe_slice sl_X (pv 0) po_none (po_some (pv 3))) (pe_lst (pa_cons (pv 4) pa_nil))) (pe_slice sl_X (pv 0) (po_some (pe_op op_addX (pv 3) pe_int)) po_none))))))))))))))))), ?_⟩
  refine go_start (σ := [some a0, some a1, some a2, none, none, none, none, none, none]) rfl ?_
  try dsimp only [cxOf, Cx.nox, Cx.wish, Cx.tr, Cx.suite]
  obtain ⟨F, R, q, nl, n, ls, z, ns, k, rfl, rfl, rfl, hf, hz, gz, ok, hk, l1, l100, st, hq⟩ := h
  obtain ⟨vs, ev, hw⟩ := id hf
  have hvl := hw.len
  have okk : ∀ ws ∈ ls, LnOk (k + 1) ws := fun ws m => (ok ws m).le (by omega)
  walk_at "*"
  rw [hvl]
  obtain ⟨j, ej, hj⟩ : ∃ j : Nat, n / 8 % (ls.length : Int) = (j : Int) ∧ j < ls.length := by
    have h0 := Int.emod_nonneg (n / 8) (show (ls.length : Int) ≠ 0 by omega)
    have h1 := Int.emod_lt_of_pos (n / 8) (show 0 < (ls.length : Int) by omega)
    exact ⟨(n / 8 % (ls.length : Int)).toNat, by omega, by omega⟩
  rw [ej]
  obtain ⟨vs', wp, ev', -, eat, ewp⟩ := hf.at hj
  rw [ev] at ev'
  cases ev'
  have wj := ok ls[j] (List.getElem_mem hj)
  have wn := wj.n
  refine go_xL (.of (st.of ev)) eat ?_
  walk_at "*"
  refine go_listL (.of (st.of ewp)) ?_
  refine go_newLv st rfl fun wl H1 st1 => ?_
  clear st
  walk_at "*"
  refine go_newF st1 fun b2 F2 H2 s2 e2 st2 => ?_
  clear st1
  walk_at "*"
  refine go_newF st2 fun b3 F3 H3 s3 e3 st3 => ?_
  clear st2
  walk_at "*"
  refine go_addL (xs := (ODD ++ [z]).map V.str) (ys := ODD2.map V.str) (st3.of (s3 _ _ e2)) (st3.of e3) (szl (Nat.le_of_ble_eq_true rfl)) ?_
  rw [← List.map_append]
  refine go_newF st3 fun b4 F4 H4 s4 e4 st4 => ?_
  clear st3
  walk_at "*"
  obtain ⟨odd, eo, mo⟩ := menuS (L := (ODD ++ [z]) ++ ODD2) (r := n / 200 % 17) (by omega) (by show n / 200 % 17 < 17; omega)
  refine go_xL (.of (st4.of e4)) eo ?_
  have go := odd_of gz mo
  have s14 := s2.trans (s3.trans s4)
  have hf4 := hf.same s14
  walk_at "*"
  have j1 : (j : Int) + 1 = ((j + 1 : Nat) : Int) := by omega
  have j2 : (j : Int) + 2 = ((j + 2 : Nat) : Int) := by omega
  refine if2 (fun c => ?_) (fun c => ?_)
  · walk_at "*"
    refine LinesF.take hf4 st4 (by omega) fun b5 F5 H5 s5 l5 st5 => ?_
    walk_at "*"
    rw [j1]
    refine LinesF.drop (hf4.same s5) st5 (by omega) fun b6 F6 H6 s6 l6 st6 => ?_
    obtain ⟨F7, s7, e7, st7⟩ := st6.freeze .rfl
    refine LinesF.addV ((l5.same s6).same s7) (l6.same s7) st7 (by rw [List.length_take, List.length_drop]; omega) fun t vs' H8 al st8 => ?_
    exact hq t vs' _ F7 H8 (LnOk.all2 (fun ws m => okk ws (List.mem_of_mem_take m)) fun ws m => okk ws (List.mem_of_mem_drop m)) (by rw [List.length_append, List.length_take, List.length_drop]; omega) (fun h => by rw [List.length_append, List.length_take, List.length_drop]; omega) (s14.trans (s5.trans (s6.trans s7))) al st8
  walk_at "*"
  refine if2 (fun c => ?_) (fun c => ?_)
  · walk_at "*"
    refine LinesF.take hf4 st4 (by omega) fun b5 F5 H5 s5 l5 st5 => ?_
    obtain ⟨F6, s6, e6, st6⟩ := st5.freeze .rfl
    clear st5
    walk_at "*"
    refine go_newF st6 fun b7 F7 H7 s7 e7 st7 => ?_
    clear st6
    refine LinesF.add ((l5.same s6).same s7) ⟨_, e7, sing ⟨wl, rfl, s7 _ _ e6⟩⟩ st7 (by rw [List.length_take]; simp; omega) fun b8 F8 H8 s8 l8 st8 => ?_
    walk_at "*"
    refine LinesF.drop (hf4.same (s5.trans (s6.trans (s7.trans s8)))) st8 (by omega) fun b9 F9 H9 s9 l9 st9 => ?_
    refine LinesF.addV (l8.same s9) l9 st9 (by rw [List.length_append, List.length_take, List.length_drop]; simp; omega) fun t vs' H10 al st10 => ?_
    exact hq t vs' _ F9 H10 (LnOk.all2 (LnOk.all2 (fun ws m => okk ws (List.mem_of_mem_take m)) fun ws m => by rw [List.mem_singleton.mp m]; exact wj.le (by omega)) fun ws m => okk ws (List.mem_of_mem_drop m)) (by rw [List.length_append, List.length_append, List.length_take, List.length_drop]; simp; omega) (fun h => by rw [List.length_append, List.length_append]; simp; omega) (s14.trans (s5.trans (s6.trans (s7.trans (s8.trans s9))))) al st10
  walk_at "*"
  refine if2 (fun c => ?_) (fun c => ?_)
  · walk_at "*"
    rw [j1, j2]
    refine LinesF.cutX hf4 st4 fun b5 l5' F5 H5 s5 l5 mm5 nn5 st5 => ?_
    walk_at "*"
    refine LinesF.take (hf4.same s5) st5 (by omega) fun b6 F6 H6 s6 l6 st6 => ?_
    walk_at "*"
    refine LinesF.add l6 (l5.same s6) st6 (by rw [List.length_take]; omega) fun b7 F7 H7 s7 l7 st7 => ?_
    obtain ⟨F8, s8, e8, st8⟩ := st7.freeze .rfl
    clear st4 st5 st6 st7
    walk_at "*"
    refine go_newF st8 fun b9 F9 H9 s9 e9 st9 => ?_
    clear st8
    refine LinesF.add ((l7.same s8).same s9) ⟨_, e9, sing ⟨wl, rfl, s9 _ _ e8⟩⟩ st9 (by rw [List.length_append, List.length_take]; simp; omega) fun b10 F10 H10 s10 l10 st10 => ?_
    have s510 := s5.trans (s6.trans (s7.trans (s8.trans (s9.trans s10))))
    walk_at "*"
    rw [j2]
    refine LinesF.cutX (hf4.same s510) st10 fun b11 l11' F11 H11 s11 l11 mm11 nn11 st11 => ?_
    refine LinesF.addV (l10.same s11) l11 st11 (by rw [List.length_append, List.length_append, List.length_take]; simp; omega) fun t vs' H12 al st12 => ?_
    exact hq t vs' _ F11 H12 (LnOk.all2 (LnOk.all2 (LnOk.all2 (fun ws m => okk ws (List.mem_of_mem_take m)) fun ws m => okk ws (mm5 ws m)) fun ws m => by rw [List.mem_singleton.mp m]; exact wj.le (by omega)) fun ws m => okk ws (mm11 ws m)) (by rw [List.length_append, List.length_append, List.length_append, List.length_take]; simp; omega) (fun h => by rw [List.length_append, List.length_append]; simp; omega) (s14.trans (s510.trans s11)) al st12
  walk_at "*"
  have SG : ∀ {σ' : St} {H' : Hp}, True := trivial
  refine go_cut (fun σ' H' => ∃ zs : List Str, zs.length ≤ k + 1 ∧ (∀ w ∈ zs, w = "" ∨ WordG w) ∧ Sta F4 ((wl, .lst (zs.map V.str)) :: R) H' ∧ σ' = [some (.ref q), some (.ref nl), some (.int n), some (.int (j : Nat)), some (.ref wl), some (.ref b4), some (.str odd), none, none]) ?_ ?_
  · walk_at "*"
    refine if2 (fun c => ?_) (fun c => ?_)
    · have ln : (ls[j].map V.str).length = ls[j].length := List.length_map ..
      walk_at "*"
      rename_i H5 st5
      refine ⟨ls[j] ++ [odd], by rw [List.length_append]; simp; omega, fun w m => ?_, by rw [List.map_append]; exact st5, rfl⟩
      rcases List.mem_append.mp m with m | m
      · exact .inr (wj.w w m)
      · rw [List.mem_singleton.mp m]; exact go
    · walk_at "*"
      exact ⟨ls[j], by omega, fun w m => .inr (wj.w w m), st4, rfl⟩
  rintro σ' H5 ⟨zs, zl, zok, st5, rfl⟩
  clear st4
  walk_at "*"
  refine go_cut (fun σ' H' => ∃ zs : List Str, zs.length ≤ k + 1 ∧ (∀ w ∈ zs, w = "" ∨ WordG w) ∧ Sta F4 ((wl, .lst (zs.map V.str)) :: R) H' ∧ σ' = [some (.ref q), some (.ref nl), some (.int n), some (.int (j : Nat)), some (.ref wl), some (.ref b4), some (.str odd), none, none]) ?_ ?_
  · have ln : (zs.map V.str).length = zs.length := List.length_map ..
    have keep : ∃ ys : List Str, ys.length ≤ k + 1 ∧ (∀ w ∈ ys, w = "" ∨ WordG w) ∧ Sta F4 ((wl, .lst (ys.map V.str)) :: R) H5 ∧ [some (V.ref q), some (.ref nl), some (.int n), some (.int (j : Nat)), some (.ref wl), some (.ref b4), some (.str odd), none, none] = [some (V.ref q), some (.ref nl), some (.int n), some (.int (j : Nat)), some (.ref wl), some (.ref b4), some (.str odd), none, none] := ⟨zs, zl, zok, st5, rfl⟩
    walk_at "*"
    refine if2 (fun c => ?_) (fun c => ?_)
    · have l0 : 0 < zs.length := by rw [ln] at c; simp at c; omega
      walk_at "*"
      refine go_pop0S (y := .str (zs[zs.length - 1]'(by omega))) st5 .rfl (by rw [ln, List.getElem?_map, List.getElem?_eq_getElem (by omega)]; rfl) fun H6 st6 => ?_
      walk_at "*"
      exact ⟨zs.dropLast, by rw [List.length_dropLast]; omega, fun w m => zok w ((List.dropLast_sublist zs).subset m), by rw [List.map_dropLast]; exact st6, rfl⟩
    · walk_at "*"
      exact keep
  rintro σ' H6 ⟨zs, zl, zok, st6, rfl⟩
  clear st5
  walk_at "*"
  refine go_cut (fun σ' H' => ∃ zs : List Str, zs.length ≤ k + 1 ∧ (∀ w ∈ zs, w = "" ∨ WordG w) ∧ Sta F4 ((wl, .lst (zs.map V.str)) :: R) H' ∧ σ' = [some (.ref q), some (.ref nl), some (.int n), some (.int (j : Nat)), some (.ref wl), some (.ref b4), some (.str odd), none, none]) ?_ ?_
  · have ln : (zs.map V.str).length = zs.length := List.length_map ..
    have keep : ∃ ys : List Str, ys.length ≤ k + 1 ∧ (∀ w ∈ ys, w = "" ∨ WordG w) ∧ Sta F4 ((wl, .lst (ys.map V.str)) :: R) H6 ∧ [some (V.ref q), some (.ref nl), some (.int n), some (.int (j : Nat)), some (.ref wl), some (.ref b4), some (.str odd), none, none] = [some (V.ref q), some (.ref nl), some (.int n), some (.int (j : Nat)), some (.ref wl), some (.ref b4), some (.str odd), none, none] := ⟨zs, zl, zok, st6, rfl⟩
    walk_at "*"
    refine if2 (fun c => ?_) (fun c => ?_)
    · have l0 : 0 < zs.length := by rw [ln] at c; simp at c; omega
      walk_at "*"
      rw [ln]
      obtain ⟨m, em, hm⟩ : ∃ m : Nat, n / 3000 % (zs.length : Int) = (m : Int) ∧ m < zs.length := by
        have h0 := Int.emod_nonneg (n / 3000) (show (zs.length : Int) ≠ 0 by omega)
        have h1 := Int.emod_lt_of_pos (n / 3000) (show 0 < (zs.length : Int) by omega)
        exact ⟨(n / 3000 % (zs.length : Int)).toNat, by omega, by omega⟩
      walk_at "*"
      rw [em]
      refine go_sLS (n := m) st6 .rfl (by rw [ln]; unfold ixN; simp; omega) fun H7 st7 => ?_
      rw [setS] at st7
      walk_at "*"
      refine ⟨zs.set m odd, by rw [List.length_set]; exact zl, fun w mw => ?_, st7, rfl⟩
      rcases List.mem_or_eq_of_mem_set mw with mw | rfl
      · exact zok w mw
      · exact go
    · walk_at "*"
      exact keep
  rintro σ' H7 ⟨zs, zl, zok, st7, rfl⟩
  clear st6
  walk_at "*"
  refine go_iL (.of (st7.get (.head _))) ?_
  refine LcW.accL zs V.str (fun pre => (pre.filter fun w : Str => !decide (w = "")).map V.str) (by omega) st7 (fun F' H' s' st' => .of (st'.get (.head _))) rfl ?_ ?_
  · rintro A pre w F8 H8 mw s8 st8 yes no hy hn
    refine go_name rfl ⟨rfl, ?_⟩
    walk_at "*"
    refine if2 (fun c => ?_) (fun c => ?_)
    · have c := nd_false c
      walk_at "*"
      refine hy _ _ _ ?_ (.refl _) st8
      rw [List.filter_append, List.map_append, List.filter_cons, if_pos (by simpa using c)]; rfl
    · have c := nd_true c
      refine hn _ _ ?_ (.refl _) st8
      rw [List.filter_append, List.filter_cons, if_neg (by simpa using c)]; simp
  rintro A F8 H8 s8 st8
  obtain ⟨F9, s9, e9, st9⟩ := st8.freeze .rfl
  have st9 := st9.tail
  have hf9 := hf4.same (s8.trans s9)
  have gl : LnOk (k + 1) (nzS zs) := ⟨Nat.le_trans (List.length_filter_le ..) zl, fun w m => by
    obtain ⟨m1, m2⟩ := List.mem_filter.mp m
    rcases zok w m1 with e | h
    · rw [e] at m2; simp at m2
    · exact h⟩
  clear st7 st8
  walk_at "*"
  refine LinesF.take hf9 st9 (by omega) fun b10 F10 H10 s10 l10 st10 => ?_
  walk_at "*"
  refine go_newF st10 fun b11 F11 H11 s11 e11 st11 => ?_
  refine LinesF.add (l10.same s11) ⟨_, e11, sing ⟨A, rfl, (s10.trans s11) _ _ e9⟩⟩ st11 (by rw [List.length_take]; simp; omega) fun b12 F12 H12 s12 l12 st12 => ?_
  walk_at "*"
  rw [j1]
  refine LinesF.drop (hf9.same (s10.trans (s11.trans s12))) st12 (by omega) fun b13 F13 H13 s13 l13 st13 => ?_
  refine LinesF.addV (l12.same s13) l13 st13 (by rw [List.length_append, List.length_take, List.length_drop]; simp; omega) fun t vs' H14 al st14 => ?_
  exact hq t vs' _ F13 H14 (LnOk.all2 (LnOk.all2 (fun ws m => okk ws (List.mem_of_mem_take m)) fun ws m => by rw [List.mem_singleton.mp m]; exact gl) fun ws m => okk ws (List.mem_of_mem_drop m)) (by rw [List.length_append, List.length_append, List.length_take, List.length_drop]; simp; omega) (fun h => by rw [List.length_append, List.length_append]; simp; omega) (s14.trans (s8.trans (s9.trans (s10.trans (s11.trans (s12.trans s13)))))) al st14

def nmb (k : Nat) : List (List Str) → List (Nat × List Str)
  | [] => []
  | ws :: r => if ws = [] then nmb (k + 1) r else (k, ws) :: nmb (k + 1) r
def outT (m : Nat) : LgOut → List V
  | .ok .. => [.str "", .int 0]
  | .bad n => [.str "bad", .int (n : Nat)]
  | .mis n => [.str "misplaced", .int (n : Nat)]
  | .unf => [.str "unfinished", .int (m : Nat)]
theorem ok2 {w : Str} {i : Int} (h : okV (.str w) = true) : ([V.str w, V.int i]).all okV = true := by rw [List.all_cons, h]; rfl
theorem outT_ok {m : Nat} {o : LgOut} : (outT m o).all okV = true := by
  cases o <;> exact ok2 (by decide +kernel)
def PHd.n : PHd → Int
  | .h0 => 0
  | .h1 .. => 1
  | .h2 .. => 2
theorem eqVs_nilS {ws : List Str} : eqVs (ws.map V.str) [] = decide (ws = []) := by cases ws <;> rfl
theorem okV_G {ws : List Str} (h : ∀ w ∈ ws, WordG w) : (ws.map V.str).all okV = true := by
  rw [List.all_eq_true]
  intro v m
  obtain ⟨w, mw, rfl⟩ := List.mem_map.mp m
  exact (h w mw).ok

/-! ### _law_due -/
abbrev s__law_due : Stmt := top 34
abbrev N__law_due : List Str := ["_law_rows", "_law_heads", "_law_place", "_law_words"]
theorem sc__law_due : FnScope N__law_due ["_law_rows"] (defScope s__law_due) := ⟨rfl, rfl, rfl, by decide +kernel, rfl, by decide +kernel, by decide +kernel⟩
def pr__law_due (K : PySem.W.Frag) : V → Hp → VK → XK → Prop := fun a0 H Q E => ∃ (q : Addr) (vs : List V) (ls : List (List Str)), a0 = .ref q ∧ H q = some (.lst vs) ∧ All2 (WordsAt H) vs ls ∧ (∀ ws ∈ ls, LnOk 20 ws) ∧ ls.length ≤ 290 ∧ ∀ t F' H', Same H F' → F' t = some (.tup (outT ls.length (readLg (nmb 1 ls) .h0 []))) → Same F' H' → Q (.ref t) H' 
abbrev sp__law_due (K : PySem.W.Frag) : Sp := Sp1 (pr__law_due K)
theorem ok__law_due {P : Program} {w : World} {K : PySem.W.Frag} {mg : Str → Option Value} {base : Heap} {f : Addr} {fd : FuncData} (F : FunD K "_law_due" "_law_due" (defArgs s__law_due) (defBody s__law_due) (defScope s__law_due) [] [] f fd) (T : Txt K mg) (d__law_fits : Dn P w K mg base CX0 2 "_law_fits" ["_law_words"] [] (sp__law_fits K)) : FnOk P w K mg base CX0 3 f fd ["_law_rows"] (sp__law_due K) := by
  refine F.ok sc__law_due (fun vs H Q E h => len1 h) (fun cdv A outer s H vs Q E hr h => ?_)
  obtain ⟨a0, rfl, h⟩ := h
  have hu := hu_of hr
  refine ⟨_, PSs.nox ((pss_cons (ps_set (i := 1) sc__law_due.nd rfl (by first | exact Or.inl rfl | exact Or.inr rfl) pe_int)
      (pss_cons (ps_for PassesOwn.never rfl (pi_enumS (by rfl) T.b_enumerate (pa_cons (pv 0) pa_nil) (pk_cons pe_int pk_nil)) (pg_tup (n := 2) rfl (pgs_cons (pg_name (i := 2) sc__law_due.nd rfl (by first | exact Or.inl rfl | exact Or.inr rfl)) (pgs_cons (pg_name (i := 3) sc__law_due.nd rfl (by first | exact Or.inl rfl | exact Or.inr rfl)) pgs_nil))) (pss_cons (ps_if (pt_cmpR (op_eqX hr.units) (pv 3) (pe_lst pa_nil) (nomark _)) (pss_one ps_continue) pss_nil)
      (pss_cons (ps_if (pt_not (pt_truX (pe_d d__law_fits (hr.mono (by decide)) rfl pass0 (pa_cons (pv 3) pa_nil)))) (pss_one (ps_ret (pe_tup (pa_cons pe_str (pa_cons (pv 2) pa_nil))))) pss_nil)
      (pss_cons (ps_if (pt_cmpR (op_neX hr.units) (pe_bm PySem.F.plainAttrs_list PySem.F.slot_list_index PySem.F.type_list_index mt_index (pe_lst (pa_cons pe_str (pa_cons pe_str (pa_cons pe_str pa_nil)))) (pa_cons (pe_ix (ix_X hu) (pv 3) pe_int (fun _ _ => rfl)) pa_nil)) (pv 1) (nomark _)) (pss_one (ps_ret (pe_tup (pa_cons pe_str (pa_cons (pv 2) pa_nil))))) pss_nil)
      (pss_one (ps_set (i := 1) sc__law_due.nd rfl (by first | exact Or.inl rfl | exact Or.inr rfl) (pe_callB (call_mn2 rfl) (by rfl) T.b_min L2.A.boot_min (pa_cons pe_int (pa_cons (pe_op op_addX (pv 1) pe_int) pa_nil)))))))))
      (pss_one (ps_ret (pe_ifExp (pt_cmpR (op_eqX hr.units) (pv 1) pe_int (nomark _)) (pe_tup (pa_cons pe_str (pa_cons pe_int pa_nil))) (pe_tup (pa_cons pe_str (pa_cons (pe_callB call_lenX (by rfl) T.b_len L2.A.boot_len (pa_cons (pv 0) pa_nil)) pa_nil))))))))), ?_⟩
  refine go_start (σ := [some a0, none, none, none]) rfl ?_
  try dsimp only [cxOf, Cx.nox, Cx.wish, Cx.tr, Cx.suite]
  obtain ⟨q, vs, ls, rfl, hq0, hw, ok, ln, hq⟩ := h
  have st0 : Sta H [] H := .nil
  have vl := hw.len
  walk_at "*"
  refine go_enSL (.of hq0) (by omega) ?_
  refine ForW.it (walk_en (xs := vs)) (fun i σ H' => ∃ (hd : PHd) (gs : List LG) (F' : Hp) (v2 v3 : Option V), Same H F' ∧ Sta F' [] H' ∧ readLg (nmb 1 ls) .h0 [] = readLg (nmb (1 + i) (ls.drop i)) hd gs ∧ σ = [some (.ref q), some (.int hd.n), v2, v3])
    ⟨.h0, [], H, _, _, .refl _, st0, rfl, rfl⟩ (fun i σ H' _ ⟨_, _, _, _, _, s', st', _⟩ => .of (st'.of (s' _ _ hq0))) ?_ ?_
  · rintro i x σ H3 H4 hi ⟨hd, gs, F3, v2, v3, s3, st3, rx, rfl⟩ ⟨T, y, u, rfl, hT, rfl, ey, eu⟩
    cases ey
    have eu2 : vs[i]? = some u := eu
    obtain ⟨ws, ew, p, rfl, hp⟩ := hw.at eu2
    have hil : i < ls.length := (List.getElem?_eq_some_iff.mp ew).1
    have mw : ws ∈ ls := List.mem_of_getElem? ew
    have edr : ls.drop i = ws :: ls.drop (i + 1) := by
      rw [List.drop_eq_getElem_cons hil]
      congr 1
      rw [List.getElem?_eq_getElem hil] at ew
      exact Option.some.inj ew
    rw [edr] at rx
    have ro := ok ws mw
    have rn := ro.n
    have sT : Same H3 (upd H3 T (.tup [.int (1 + (i : Nat)), .ref p])) := same_new hT
    have eT : (upd H3 T (.tup [.int (1 + (i : Nat)), .ref p])) T = some (.tup [.int (1 + (i : Nat)), .ref p]) := upd_same
    have st4 := st3.same sT
    generalize upd H3 T (.tup [.int (1 + (i : Nat)), .ref p]) = H4 at st4 eT ⊢
    have place : (1 : Int) + (i : Int) = ((1 + i : Nat) : Int) := by omega
    rw [place] at eT
    have hp := s3 _ _ hp
    clear st3
    walk_at "*"
    refine go_newF st4 fun b5 F5 H5 s5 e5 st5 => ?_
    have hp := s5 _ _ hp
    clear st4
    walk_at "*"
    refine go_eqL (.of (st5.of hp)) (.of (st5.of e5)) (okV_G ro.w) rfl ?_
    rw [eqVs_nilS]
    have ewr : nmb (1 + i) (ws :: ls.drop (i + 1)) = if ws = [] then nmb (1 + (i + 1)) (ls.drop (i + 1)) else (1 + i, ws) :: nmb (1 + (i + 1)) (ls.drop (i + 1)) := rfl
    rw [ewr] at rx
    have s35 := s3.trans s5
    walk_at "*"
    by_cases c0 : ws = []
    · rw [if_pos c0] at rx
      refine ite_T (decide_eq_true c0) ?_
      walk_at "*"
      exact ⟨hd, gs, F5, _, _, s35, st5, rx, rfl⟩
    rw [if_neg c0] at rx
    refine ite_F (decide_eq_false c0) ?_
    walk_at "*"
    refine go_sp1 ⟨p, ws, rfl, c0, st5.of hp, fun w m => by have := (ro.w w m).len; omega, by omega, fun H6 s6 => ?_⟩
    have st6 := st5.same s6
    clear st5
    walk_at "*"
    cases er : rowL ws with
    | none =>
      refine ite_T rfl ?_
      walk_at "*"
      rename_i t F7 H7 s7 e7 st7
      exact hq t F7 _ (s35.trans s7) (by rw [rx, rl_bad er]; exact e7) st7.fz
    | some tr =>
    refine ite_F rfl ?_
    obtain ⟨r0, ew0⟩ := row_head er
    cases tr with
    | pts a b c =>
      have eA := hp
      rw [ew0] at eA
      change F5 p = some (.lst ((("points" : Str) :: r0).map V.str)) at eA
      walk_at "*"
      refine go_newF st6 fun il F7 H7 s7 e7 st7 => ?_
      have eA := s7 _ _ eA
      have s37 := s35.trans s7
      clear st6
      walk_at "*"
      refine go_index (y := .str "points") (j := 0) (.of (st7.of e7)) rfl rfl rfl (by decide +kernel) ?_ ?_
      · intro m z hm hz
        omega
      walk_at "*"
      rcases hd with _ | ⟨a', b', c'⟩ | ⟨a', b', c', bs'⟩
      · refine ite_F (show (!decide (V.int 0 = V.int 0)) = false by decide) ?_
        walk_at "*"
        exact ⟨.h1 a b c, gs, F7, _, _, s37, st7, rx.trans ((rl_pts er).trans rfl), rfl⟩
      · refine ite_T (show (!decide (V.int 0 = V.int 1)) = true by decide) ?_
        walk_at "*"
        rename_i t F8 H8 s8 e8 st8
        exact hq t F8 _ (s37.trans s8) (by rw [rx, rl_pts er]; exact e8) st8.fz
      · refine ite_T (show (!decide (V.int 0 = V.int 2)) = true by decide) ?_
        walk_at "*"
        rename_i t F8 H8 s8 e8 st8
        exact hq t F8 _ (s37.trans s8) (by rw [rx, rl_pts er]; exact e8) st8.fz
    | brk bs =>
      have eA := hp
      rw [ew0] at eA
      change F5 p = some (.lst ((("breaker" : Str) :: r0).map V.str)) at eA
      walk_at "*"
      refine go_newF st6 fun il F7 H7 s7 e7 st7 => ?_
      have eA := s7 _ _ eA
      have s37 := s35.trans s7
      clear st6
      walk_at "*"
      refine go_index (y := .str "breaker") (j := 1) (.of (st7.of e7)) rfl rfl rfl (by decide +kernel) ?_ ?_
      · intro m z hm hz
        match m, hm with
        | 0, _ => cases hz; decide +kernel
      walk_at "*"
      rcases hd with _ | ⟨a', b', c'⟩ | ⟨a', b', c', bs'⟩
      · refine ite_T (show (!decide (V.int 1 = V.int 0)) = true by decide) ?_
        walk_at "*"
        rename_i t F8 H8 s8 e8 st8
        exact hq t F8 _ (s37.trans s8) (by rw [rx, rl_brk er]; exact e8) st8.fz
      · refine ite_F (show (!decide (V.int 1 = V.int 1)) = false by decide) ?_
        walk_at "*"
        exact ⟨.h2 a' b' c' bs, gs, F7, _, _, s37, st7, rx.trans ((rl_brk er).trans rfl), rfl⟩
      · refine ite_T (show (!decide (V.int 1 = V.int 2)) = true by decide) ?_
        walk_at "*"
        rename_i t F8 H8 s8 e8 st8
        exact hq t F8 _ (s37.trans s8) (by rw [rx, rl_brk er]; exact e8) st8.fz
    | gm g =>
      have eA := hp
      rw [ew0] at eA
      change F5 p = some (.lst ((("played" : Str) :: r0).map V.str)) at eA
      walk_at "*"
      refine go_newF st6 fun il F7 H7 s7 e7 st7 => ?_
      have eA := s7 _ _ eA
      have s37 := s35.trans s7
      clear st6
      walk_at "*"
      refine go_index (y := .str "played") (j := 2) (.of (st7.of e7)) rfl rfl rfl (by decide +kernel) ?_ ?_
      · intro m z hm hz
        match m, hm with
        | 0, _ => cases hz; decide +kernel
        | 1, _ => cases hz; decide +kernel
      walk_at "*"
      rcases hd with _ | ⟨a', b', c'⟩ | ⟨a', b', c', bs'⟩
      · refine ite_T (show (!decide (V.int 2 = V.int 0)) = true by decide) ?_
        walk_at "*"
        rename_i t F8 H8 s8 e8 st8
        exact hq t F8 _ (s37.trans s8) (by rw [rx, rl_gm er]; exact e8) st8.fz
      · refine ite_T (show (!decide (V.int 2 = V.int 1)) = true by decide) ?_
        walk_at "*"
        rename_i t F8 H8 s8 e8 st8
        exact hq t F8 _ (s37.trans s8) (by rw [rx, rl_gm er]; exact e8) st8.fz
      · refine ite_F (show (!decide (V.int 2 = V.int 2)) = false by decide) ?_
        walk_at "*"
        exact ⟨.h2 a' b' c' bs', gs ++ [g], F7, _, _, s37, st7, rx.trans ((rl_gm er).trans rfl), rfl⟩
  · rintro σ H3 ⟨hd, gs, F3, v2, v3, s3, st3, rx, rfl⟩
    rw [vl, List.drop_length] at rx
    have rx := rx.trans rl_nil
    have eq3 := st3.of (s3 _ _ hq0)
    clear st0
    rcases hd with _ | ⟨a, b, c⟩ | ⟨a, b, c, bs⟩
    · walk_at "*"
      refine ite_F (show decide (V.int 0 = V.int 2) = false by decide) ?_
      walk_at "*"
      rename_i t F7 H7 s7 e7 st7
      rw [vl] at e7
      exact hq t F7 _ (s3.trans s7) (by rw [rx]; exact e7) st7.fz
    · walk_at "*"
      refine ite_F (show decide (V.int 1 = V.int 2) = false by decide) ?_
      walk_at "*"
      rename_i t F7 H7 s7 e7 st7
      rw [vl] at e7
      exact hq t F7 _ (s3.trans s7) (by rw [rx]; exact e7) st7.fz
    · walk_at "*"
      refine ite_T (show decide (V.int 2 = V.int 2) = true by decide) ?_
      walk_at "*"
      rename_i t F7 H7 s7 e7 st7
      exact hq t F7 _ (s3.trans s7) (by rw [rx]; exact e7) st7.fz
/-! ### _law_refused -/
abbrev s__law_refused : Stmt := top 36
abbrev N__law_refused : List Str := ["_law_text", "_law_told", "e"]
theorem sc__law_refused : FnScope N__law_refused ["_law_text"] (defScope s__law_refused) := ⟨rfl, rfl, rfl, by decide +kernel, rfl, by decide +kernel, by decide +kernel⟩
def pr__law_refused (K : PySem.W.Frag) : V → Hp → VK → XK → Prop := fun a0 H Q E => ∃ (rows : List Str), a0 = .str (Txt.join "\n" rows) ∧ (∀ r ∈ rows, RowOk r) ∧ rows.length ≤ 300 ∧ ∀ t F' H', Same H F' → F' t = some (.tup (outT (if rows = [] then 1 else rows.length) (readLg (wr 1 rows) .h0 []))) → Same F' H' → Q (.ref t) H' 
abbrev sp__law_refused (K : PySem.W.Frag) : Sp := Sp1 (pr__law_refused K)
theorem ok__law_refused {P : Program} {w : World} {K : PySem.W.Frag} {mg : Str → Option Value} {base : Heap} {f : Addr} {fd : FuncData} (F : FunD K "_law_refused" "_law_refused" (defArgs s__law_refused) (defBody s__law_refused) (defScope s__law_refused) [] [] f fd) (T : Txt K mg) (d_read_league : Dn P w K mg base (L2.CX P w) 6 "read_league" ["text"] [] (sp_read_league K)) : FnOk P w K mg base CX0 7 f fd ["_law_text"] (sp__law_refused K) := by
  refine F.ok sc__law_refused (fun vs H Q E h => len1 h) (fun cdv A outer s H vs Q E hr h => ?_)
  obtain ⟨a0, rfl, h⟩ := h
  have hu := hu_of hr
  refine ⟨_, PSs.nox ((pss_cons (ps_set (i := 1) sc__law_refused.nd rfl (by first | exact Or.inl rfl | exact Or.inr rfl) (pe_tup (pa_cons pe_str (pa_cons pe_int pa_nil))))
      (pss_cons (ps_try_asX (i := 2) rfl rfl sc__law_refused.nd rfl rfl ⟨rfl, by decide, .inl T.c_BookError⟩ takes0 (fun W pn xe tk po => (pss_one (ps_expr (pe_dS d_read_league (hr.mono (by decide)) rfl (fun σ => passAt tk σ) (pa_cons (pv 0) pa_nil))))) (fun a cls d pn => (pss_cons (ps_set (i := 1) sc__law_refused.nd rfl (by first | exact Or.inl rfl | exact Or.inr rfl) (pe_tup (pa_cons pe_str (pa_cons pe_int pa_nil))))
      (pss_cons (ps_if (PW.pt (pw_and (pt_truK (K := K) rfl (pe_callB (call_isiYK (K := K) rfl) (by rfl) T.b_isinstance L2.A.boot_isinstance (pa_cons (pv 2) (pa_cons (pe_glob (v := .ref (He.ga K "BadRow")) rfl T.c_BadRow rfl) pa_nil)))) (pw_and1 (pt_not (pt_truK (K := K) rfl (pe_callB (call_isiYK (K := K) rfl) (by rfl) T.b_isinstance L2.A.boot_isinstance (pa_cons (pv 2) (pa_cons (pe_tup (pa_cons (pe_glob (v := .ref (He.ga K "Falling")) rfl T.c_Falling rfl) (pa_cons (pe_glob (v := .ref (He.ga K "Misplaced")) rfl T.c_Misplaced rfl) (pa_cons (pe_glob (v := .ref (He.ga K "NoEntry")) rfl T.c_NoEntry rfl) (pa_cons (pe_glob (v := .ref (He.ga K "NotLet")) rfl T.c_NotLet rfl) (pa_cons (pe_glob (v := .ref (He.ga K "Twice")) rfl T.c_Twice rfl) (pa_cons (pe_glob (v := .ref (He.ga K "Unfinished")) rfl T.c_Unfinished rfl) pa_nil))))))) pa_nil)))))))) (pss_one (ps_set (i := 1) sc__law_refused.nd rfl (by first | exact Or.inl rfl | exact Or.inr rfl) (pe_tup (pa_cons pe_str (pa_cons (pe_xq (K := K) rfl (pv 2)) pa_nil))))) pss_nil)
      (pss_cons (ps_if (PW.pt (pw_and (pt_truK (K := K) rfl (pe_callB (call_isiYK (K := K) rfl) (by rfl) T.b_isinstance L2.A.boot_isinstance (pa_cons (pv 2) (pa_cons (pe_glob (v := .ref (He.ga K "Misplaced")) rfl T.c_Misplaced rfl) pa_nil)))) (pw_and1 (pt_not (pt_truK (K := K) rfl (pe_callB (call_isiYK (K := K) rfl) (by rfl) T.b_isinstance L2.A.boot_isinstance (pa_cons (pv 2) (pa_cons (pe_tup (pa_cons (pe_glob (v := .ref (He.ga K "BadRow")) rfl T.c_BadRow rfl) (pa_cons (pe_glob (v := .ref (He.ga K "Falling")) rfl T.c_Falling rfl) (pa_cons (pe_glob (v := .ref (He.ga K "NoEntry")) rfl T.c_NoEntry rfl) (pa_cons (pe_glob (v := .ref (He.ga K "NotLet")) rfl T.c_NotLet rfl) (pa_cons (pe_glob (v := .ref (He.ga K "Twice")) rfl T.c_Twice rfl) (pa_cons (pe_glob (v := .ref (He.ga K "Unfinished")) rfl T.c_Unfinished rfl) pa_nil))))))) pa_nil)))))))) (pss_one (ps_set (i := 1) sc__law_refused.nd rfl (by first | exact Or.inl rfl | exact Or.inr rfl) (pe_tup (pa_cons pe_str (pa_cons (pe_xq (K := K) rfl (pv 2)) pa_nil))))) pss_nil)
      (pss_cons (ps_if (PW.pt (pw_and (pt_truK (K := K) rfl (pe_callB (call_isiYK (K := K) rfl) (by rfl) T.b_isinstance L2.A.boot_isinstance (pa_cons (pv 2) (pa_cons (pe_glob (v := .ref (He.ga K "Unfinished")) rfl T.c_Unfinished rfl) pa_nil)))) (pw_and1 (pt_not (pt_truK (K := K) rfl (pe_callB (call_isiYK (K := K) rfl) (by rfl) T.b_isinstance L2.A.boot_isinstance (pa_cons (pv 2) (pa_cons (pe_tup (pa_cons (pe_glob (v := .ref (He.ga K "BadRow")) rfl T.c_BadRow rfl) (pa_cons (pe_glob (v := .ref (He.ga K "Falling")) rfl T.c_Falling rfl) (pa_cons (pe_glob (v := .ref (He.ga K "Misplaced")) rfl T.c_Misplaced rfl) (pa_cons (pe_glob (v := .ref (He.ga K "NoEntry")) rfl T.c_NoEntry rfl) (pa_cons (pe_glob (v := .ref (He.ga K "NotLet")) rfl T.c_NotLet rfl) (pa_cons (pe_glob (v := .ref (He.ga K "Twice")) rfl T.c_Twice rfl) pa_nil))))))) pa_nil)))))))) (pss_one (ps_set (i := 1) sc__law_refused.nd rfl (by first | exact Or.inl rfl | exact Or.inr rfl) (pe_tup (pa_cons pe_str (pa_cons (pe_xq (K := K) rfl (pv 2)) pa_nil))))) pss_nil)
      (pss_one (ps_if (pt_not (pt_truK (K := K) rfl (pe_callB (call_isiYK (K := K) rfl) (by rfl) T.b_isinstance L2.A.boot_isinstance (pa_cons (pv 2) (pa_cons (pe_bltn (v := .ty "ValueError") (by rfl) T.b_ValueError L2.A.boot_ValueError rfl) pa_nil))))) (pss_one (ps_set (i := 1) sc__law_refused.nd rfl (by first | exact Or.inl rfl | exact Or.inr rfl) (pe_tup (pa_cons pe_str (pa_cons pe_int pa_nil))))) pss_nil))))))))
      (pss_one (ps_ret (pv 1)))))), ?_⟩
  have exm_BadRow_BookError := T.exm_BadRow_BookError
  have exm_Falling_BookError := T.exm_Falling_BookError
  have exm_Misplaced_BookError := T.exm_Misplaced_BookError
  have exm_NoEntry_BookError := T.exm_NoEntry_BookError
  have exm_NotLet_BookError := T.exm_NotLet_BookError
  have exm_Twice_BookError := T.exm_Twice_BookError
  have exm_Unfinished_BookError := T.exm_Unfinished_BookError
  have kit_BadRow_BadRow := T.kit_BadRow_BadRow
  have kit_BadRow_Falling := T.kit_BadRow_Falling
  have kit_BadRow_Misplaced := T.kit_BadRow_Misplaced
  have kit_BadRow_NoEntry := T.kit_BadRow_NoEntry
  have kit_BadRow_NotLet := T.kit_BadRow_NotLet
  have kit_BadRow_Twice := T.kit_BadRow_Twice
  have kit_BadRow_Unfinished := T.kit_BadRow_Unfinished
  have kit_BadRow_ValueError := T.kit_BadRow_ValueError
  have kit_Falling_BadRow := T.kit_Falling_BadRow
  have kit_Falling_Falling := T.kit_Falling_Falling
  have kit_Falling_Misplaced := T.kit_Falling_Misplaced
  have kit_Falling_NoEntry := T.kit_Falling_NoEntry
  have kit_Falling_NotLet := T.kit_Falling_NotLet
  have kit_Falling_Twice := T.kit_Falling_Twice
  have kit_Falling_Unfinished := T.kit_Falling_Unfinished
  have kit_Falling_ValueError := T.kit_Falling_ValueError
  have kit_Misplaced_BadRow := T.kit_Misplaced_BadRow
  have kit_Misplaced_Falling := T.kit_Misplaced_Falling
  have kit_Misplaced_Misplaced := T.kit_Misplaced_Misplaced
  have kit_Misplaced_NoEntry := T.kit_Misplaced_NoEntry
  have kit_Misplaced_NotLet := T.kit_Misplaced_NotLet
  have kit_Misplaced_Twice := T.kit_Misplaced_Twice
  have kit_Misplaced_Unfinished := T.kit_Misplaced_Unfinished
  have kit_Misplaced_ValueError := T.kit_Misplaced_ValueError
  have kit_NoEntry_BadRow := T.kit_NoEntry_BadRow
  have kit_NoEntry_Falling := T.kit_NoEntry_Falling
  have kit_NoEntry_Misplaced := T.kit_NoEntry_Misplaced
  have kit_NoEntry_NoEntry := T.kit_NoEntry_NoEntry
  have kit_NoEntry_NotLet := T.kit_NoEntry_NotLet
  have kit_NoEntry_Twice := T.kit_NoEntry_Twice
  have kit_NoEntry_Unfinished := T.kit_NoEntry_Unfinished
  have kit_NoEntry_ValueError := T.kit_NoEntry_ValueError
  have kit_NotLet_BadRow := T.kit_NotLet_BadRow
  have kit_NotLet_Falling := T.kit_NotLet_Falling
  have kit_NotLet_Misplaced := T.kit_NotLet_Misplaced
  have kit_NotLet_NoEntry := T.kit_NotLet_NoEntry
  have kit_NotLet_NotLet := T.kit_NotLet_NotLet
  have kit_NotLet_Twice := T.kit_NotLet_Twice
  have kit_NotLet_Unfinished := T.kit_NotLet_Unfinished
  have kit_NotLet_ValueError := T.kit_NotLet_ValueError
  have kit_Twice_BadRow := T.kit_Twice_BadRow
  have kit_Twice_Falling := T.kit_Twice_Falling
  have kit_Twice_Misplaced := T.kit_Twice_Misplaced
  have kit_Twice_NoEntry := T.kit_Twice_NoEntry
  have kit_Twice_NotLet := T.kit_Twice_NotLet
  have kit_Twice_Twice := T.kit_Twice_Twice
  have kit_Twice_Unfinished := T.kit_Twice_Unfinished
  have kit_Twice_ValueError := T.kit_Twice_ValueError
  have kit_Unfinished_BadRow := T.kit_Unfinished_BadRow
  have kit_Unfinished_Falling := T.kit_Unfinished_Falling
  have kit_Unfinished_Misplaced := T.kit_Unfinished_Misplaced
  have kit_Unfinished_NoEntry := T.kit_Unfinished_NoEntry
  have kit_Unfinished_NotLet := T.kit_Unfinished_NotLet
  have kit_Unfinished_Twice := T.kit_Unfinished_Twice
  have kit_Unfinished_Unfinished := T.kit_Unfinished_Unfinished
  have kit_Unfinished_ValueError := T.kit_Unfinished_ValueError
  have nf_BadRow_place := T.nf_BadRow_place
  have nf_Falling_place := T.nf_Falling_place
  have nf_Misplaced_place := T.nf_Misplaced_place
  have nf_Twice_place := T.nf_Twice_place
  have nf_Unfinished_place := T.nf_Unfinished_place
  have xd_BadRow := T.xd_BadRow
  have xd_Falling := T.xd_Falling
  have xd_Misplaced := T.xd_Misplaced
  have xd_NoEntry := T.xd_NoEntry
  have xd_NotLet := T.xd_NotLet
  have xd_Twice := T.xd_Twice
  have xd_Unfinished := T.xd_Unfinished
  refine go_start (σ := [some a0, none, none]) rfl ?_
  try dsimp only [cxOf, Cx.nox, Cx.wish, Cx.tr, Cx.suite]
  obtain ⟨rows, rfl, rok, rln, hq⟩ := h
  have st0 : Sta H [] H := .nil
  walk_at "*"
  rename_i t1 F1 H1 s1 e1 st1
  clear st0
  walk_at "*"
  refine go_sp1 ⟨F1, [], rows, rfl, rok, rln, st1, fun a b c bs gs er t3 tp tb tg F3 H3 xs ex s3 e3 ep3 gf3 st3 => ?_, fun n er d F4 H4 s4 ed st4 => ?_, fun n er d F4 H4 s4 ed st4 => ?_, fun er n en d F4 H4 s4 ed st4 => ?_⟩
  · walk_at "*"
    exact hq t1 F3 _ (s1.trans s3) (by rw [er]; exact s3 _ _ e1) st3.fz
  · refine go_caughtX exm_BadRow_BookError fun x hx => ?_
    obtain ⟨F5, s5, ex5, st5⟩ := st4.newF hx (same_new (o := exq x (.ref (He.ga K "BadRow")) (some d)) hx) upd_same
    generalize upd H4 x (exq x (.ref (He.ga K "BadRow")) (some d)) = H5 at *
    have ed5 := s5 _ _ ed
    clear st4
    walk_at "*"
    rename_i t9 F9 H9 s9 e9 st9 t6 F6 H6 s69 e6 st6
    have s6 := s9.trans s69
    refine go_isQT (us := [.ref (He.ga K "Falling"), .ref (He.ga K "Misplaced"), .ref (He.ga K "NoEntry"), .ref (He.ga K "NotLet"), .ref (He.ga K "Twice"), .ref (He.ga K "Unfinished")]) (b := false) (st6.of (s6 _ _ ex5)) (by assumption) (st6.of (s6 _ _ ed5)) (st6.of e6) (by repeat (first | exact .nil | refine .cons (.own _) ?_)) (by simp only [PySem.W.kitAny, *]) ?_
    have ex6 := s6 _ _ ex5
    have ed6 := s6 _ _ ed5
    have s46 := s1.trans (s4.trans (s5.trans s6))
    clear ex5 ed5 st5 ed
    walk_at "*"
    rename_i t7 F7 H7 s7 e7 st7
    exact hq t7 F7 _ (s46.trans s7) (by rw [er]; exact e7) st7.fz
  · refine go_caughtX exm_Misplaced_BookError fun x hx => ?_
    obtain ⟨F5, s5, ex5, st5⟩ := st4.newF hx (same_new (o := exq x (.ref (He.ga K "Misplaced")) (some d)) hx) upd_same
    generalize upd H4 x (exq x (.ref (He.ga K "Misplaced")) (some d)) = H5 at *
    have ed5 := s5 _ _ ed
    clear st4
    walk_at "*"
    rename_i t9 F9 H9 s9 e9 st9 t6 F6 H6 s69 e6 st6
    have s6 := s9.trans s69
    refine go_isQT (us := [.ref (He.ga K "BadRow"), .ref (He.ga K "Falling"), .ref (He.ga K "NoEntry"), .ref (He.ga K "NotLet"), .ref (He.ga K "Twice"), .ref (He.ga K "Unfinished")]) (b := false) (st6.of (s6 _ _ ex5)) (by assumption) (st6.of (s6 _ _ ed5)) (st6.of e6) (by repeat (first | exact .nil | refine .cons (.own _) ?_)) (by simp only [PySem.W.kitAny, *]) ?_
    have ex6 := s6 _ _ ex5
    have ed6 := s6 _ _ ed5
    have s46 := s1.trans (s4.trans (s5.trans s6))
    clear ex5 ed5 st5 ed
    walk_at "*"
    rename_i t7 F7 H7 s7 e7 st7
    exact hq t7 F7 _ (s46.trans s7) (by rw [er]; exact e7) st7.fz
  · refine go_caughtX exm_Unfinished_BookError fun x hx => ?_
    obtain ⟨F5, s5, ex5, st5⟩ := st4.newF hx (same_new (o := exq x (.ref (He.ga K "Unfinished")) (some d)) hx) upd_same
    generalize upd H4 x (exq x (.ref (He.ga K "Unfinished")) (some d)) = H5 at *
    have ed5 := s5 _ _ ed
    clear st4
    walk_at "*"
    rename_i t9 F9 H9 s9 e9 st9 t6 F6 H6 s69 e6 st6
    have s6 := s9.trans s69
    refine go_isQT (us := [.ref (He.ga K "BadRow"), .ref (He.ga K "Falling"), .ref (He.ga K "Misplaced"), .ref (He.ga K "NoEntry"), .ref (He.ga K "NotLet"), .ref (He.ga K "Twice")]) (b := false) (st6.of (s6 _ _ ex5)) (by assumption) (st6.of (s6 _ _ ed5)) (st6.of e6) (by repeat (first | exact .nil | refine .cons (.own _) ?_)) (by simp only [PySem.W.kitAny, *]) ?_
    have ex6 := s6 _ _ ex5
    have ed6 := s6 _ _ ed5
    have s46 := s1.trans (s4.trans (s5.trans s6))
    clear ex5 ed5 st5 ed
    walk_at "*"
    rename_i t7 F7 H7 s7 e7 st7
    exact hq t7 F7 _ (s46.trans s7) (by rw [er]; exact (by rw [e7, en]; rfl)) st7.fz
theorem nzS_all {ws : List Str} (h : ∀ w ∈ ws, tl w ≠ []) : nzS ws = ws := by
  refine List.filter_eq_self.mpr fun w m => ?_
  show (!decide (w = ("" : Str))) = true
  rw [str_ne]
  cases q : tl w with
  | nil => exact absurd q (h w m)
  | cons a b => rfl

theorem join_le {a : Str} {ys : List Str} : (Txt.join a ys).length ≤ (ys.map (·.length)).sum + ys.length * a.length := by
  rw [TL.join_eq, TL.len_tl, TL.tl_join]
  induction ys with
  | nil => exact Nat.zero_le _
  | cons r rs ih =>
    cases rs with
    | nil =>
      show (tl r).length ≤ _
      rw [List.map_cons, List.sum_cons, TL.len_tl]; omega
    | cons q rs =>
      show (tl r ++ (tl a ++ TL.joinL (tl a) ((q :: rs).map tl))).length ≤ _
      have ih : (TL.joinL (tl a) (tl q :: rs.map tl)).length ≤ ((q :: rs).map (fun x => x.length)).sum + (q :: rs).length * a.length := ih
      have e1 : (r :: q :: rs).length * a.length = (q :: rs).length * a.length + a.length := Nat.succ_mul _ _
      have e2 : ((r :: q :: rs).map (fun x => x.length)).sum = r.length + ((q :: rs).map (fun x => x.length)).sum := rfl
      have e3 := TL.len_tl r
      have e4 := TL.len_tl a
      show (tl r ++ (tl a ++ TL.joinL (tl a) (tl q :: rs.map tl))).length ≤ ((r :: q :: rs).map (fun x => x.length)).sum + (r :: q :: rs).length * a.length
      rw [List.length_append, List.length_append, e1, e2]
      omega

theorem joinL_snoc {s y : List Nat} : ∀ {xs : List (List Nat)}, xs ≠ [] → TL.joinL s (xs ++ [y]) = TL.joinL s xs ++ (s ++ y)
  | [], h => absurd rfl h
  | [x], _ => rfl
  | x :: z :: r, _ => by
    show x ++ (s ++ TL.joinL s ((z :: r) ++ [y])) = (x ++ (s ++ TL.joinL s (z :: r))) ++ (s ++ y)
    rw [joinL_snoc (xs := z :: r) (by simp)]
    simp only [List.append_assoc]
theorem join_snoc {a w : Str} {ws : List Str} (h : ws ≠ []) : Txt.join a (ws ++ [w]) = Txt.join a ws ++ a ++ w := by
  apply TL.ext_tl
  rw [TL.join_eq, TL.tl_join, List.map_append, List.map_cons, List.map_nil, joinL_snoc (by simp [h]), TL.tl_append, TL.tl_append, TL.join_eq, TL.tl_join, List.append_assoc]
theorem join_rowP : ∀ (n : Nat) (ws : List Str), ws.length = n + 1 → (∀ w ∈ ws, WordOk w) → RowP (Txt.join (" " : Str) ws) ws
  | 0, ws, hl, h => by
    obtain ⟨w, rfl⟩ := List.length_eq_one_iff.mp hl
    have := (row0 0).word (end0 0) (h w (by simp))
    rw [List.nil_append] at this
    have e : Txt.mul " " 0 ++ w = Txt.join (" " : Str) [w] := by
      apply TL.ext_tl
      rw [TL.tl_append, TL.join_eq, TL.tl_join, tl_blanks]; rfl
    rw [← e]; exact this
  | n + 1, ws, hl, h => by
    have ne : ws ≠ [] := by rintro rfl; cases hl
    have ew := List.dropLast_concat_getLast ne
    generalize ws.dropLast = xs at ew
    generalize ws.getLast ne = w at ew
    subst ew
    rw [List.length_append, List.length_singleton] at hl
    have xn : xs ≠ [] := by rintro rfl; cases hl
    have ih := join_rowP n xs (by omega) fun v m => h v (List.mem_append_left _ m)
    have := (ih.blank 1).word (end1 (by omega)) (h w (by simp))
    rw [join_snoc xn]
    have e : Txt.mul " " 1 = (" " : Str) := by apply TL.ext_tl; rw [tl_blanks]; rfl
    rw [e] at this
    exact this


theorem join_nil : Txt.join (" " : Str) [] = "" := by decide +kernel
theorem join_nilN : Txt.join ("\n" : Str) [] = "" := by decide +kernel
theorem wsP {ws : List Str} (h : ∀ w ∈ ws, WordG w) : RowP (Txt.join (" " : Str) ws) ws := by
  cases ws with
  | nil =>
    rw [join_nil]
    exact row0 0
  | cons w r => exact join_rowP r.length _ rfl fun v m => (h v m).toWordOk
theorem ws_words {ws : List Str} (h : ∀ w ∈ ws, WordG w) : rwds (Txt.join (" " : Str) ws) = ws := (wsP h).words.trans (nzS_all fun w m => (h w m).ne)
theorem ws_sum {ws : List Str} (h : LnOk 14 ws) : (ws.map (·.length)).sum + ws.length * (Str.ofString " ").length ≤ 350 := by
  have e := join_len (rows := ws) (L := 20) fun w m => (h.w w m).len
  have := h.n
  rw [show (Str.ofString " ").length = 1 by decide +kernel]
  omega
theorem ws_row {ws : List Str} (h : LnOk 14 ws) : RowOk (Txt.join (" " : Str) ws) := ⟨(wsP h.w).nl, by have := Nat.le_trans (join_le (a := (" " : Str)) (ys := ws)) (ws_sum h); omega⟩
theorem ws_wr : ∀ {ls : List (List Str)} (k : Nat), (∀ ws ∈ ls, LnOk 14 ws) → wr k (ls.map fun ws => Txt.join (" " : Str) ws) = nmb k ls
  | [], _, _ => rfl
  | x :: r, k, h => by
    have e := ws_words (h x (List.mem_cons_self ..)).w
    show (if rwds (Txt.join (" " : Str) x) = [] then wr (k + 1) (r.map fun ws => Txt.join (" " : Str) ws) else (k, rwds (Txt.join (" " : Str) x)) :: wr (k + 1) (r.map fun ws => Txt.join (" " : Str) ws)) = _
    rw [e, ws_wr (k + 1) fun y m => h y (List.mem_cons_of_mem _ m)]
    rfl
theorem all2_rows {F : Hp} : ∀ {vs : List V} {ls : List (List Str)}, All2 (WordsAt F) vs ls → ∃ xs : List (Addr × List Str), vs = xs.map (fun x => V.ref x.1) ∧ ls = xs.map Prod.snd ∧ ∀ x ∈ xs, F x.1 = some (.lst (x.2.map V.str))
  | _, _, .nil => ⟨[], rfl, rfl, fun x m => nomatch m⟩
  | _, w :: _, .cons ⟨q, e1, e2⟩ t => by
    obtain ⟨xs, h1, h2, h3⟩ := all2_rows t
    refine ⟨(q, w) :: xs, by rw [h1, e1]; rfl, by rw [h2, List.map_cons], fun x m => ?_⟩
    rcases List.mem_cons.mp m with rfl | m
    · exact e2
    · exact h3 x m
theorem wordG_v {w : Str} (h : ∀ c ∈ tl w, 33 ≤ c ∧ c ≤ 126) (ne : tl w ≠ []) (l : w.length ≤ 20) : WordG w := by
  refine ⟨⟨fun m => by have := h _ m; omega, fun m => by have := h _ m; omega, l⟩, ne, ?_⟩
  show (Array.all _ _ : Bool) = true
  rw [Array.all_eq_true]
  intro i hi
  have := h w.cps[i] (by simp [tl])
  exact decide_eq_true (by omega)
theorem nm_G {z : Str} (h : NmOk z) : WordG z := wordG_v (fun c m => by have := h.low c m; omega) h.ne (by have := h.len; omega)
theorem int_G {i : Int} (h : 0 ≤ i ∧ i ≤ 9999) : WordG (strI i) := by
  obtain ⟨n, rfl⟩ : ∃ n : Nat, i = (n : Int) := ⟨i.toNat, by omega⟩
  exact wordG_v (fun c m => by have := strI_sp m; omega) strI_ne (strI_word (by omega)).len
theorem logI {i : Int} (h : 0 ≤ i ∧ i ≤ 9999) : i.natAbs.log2 < 1920 := by
  obtain ⟨n, rfl⟩ : ∃ n : Nat, i = (n : Int) := ⟨i.toNat, by omega⟩
  exact strI_log (by omega)
theorem kw_G : ∀ w ∈ (["points", "breaker", "played", "wins", "rate", "runs", "name"] : List Str), WordG w := by
  intro w m
  have := (show ∀ w ∈ (["points", "breaker", "played", "wins", "rate", "runs", "name"] : List Str), wordGB w = true by decide +kernel) w m
  exact wordG_of this
def gmS (g : LG) : List Str := [Str.ofString "played", g.a, strI g.r, strI g.n, g.b, strI g.s, strI g.m]
def rwS (p0 p1 p2 : Int) (bs : List Str) (gs : List LG) : List (List Str) := (Str.ofString "points" :: [strI p0, strI p1, strI p2]) :: (Str.ofString "breaker" :: bs) :: gs.map gmS
theorem rwS_ok {p0 p1 p2 : Int} {bs ns : List Str} {gs : List LG} (h0 : 0 ≤ p0 ∧ p0 ≤ 9999) (h1 : 0 ≤ p1 ∧ p1 ≤ 9999) (h2 : 0 ≤ p2 ∧ p2 ≤ 9999) (b : BrOk bs) (n : ∀ z ∈ ns, NmOk z) (g : ∀ g ∈ gs, LGok ns g) :
    ∀ ws ∈ rwS p0 p1 p2 bs gs, LnOk 7 ws := by
  intro ws m
  rcases List.mem_cons.mp m with rfl | m
  · refine ⟨by simp, fun w mw => ?_⟩
    simp only [List.mem_cons, List.not_mem_nil, or_false] at mw
    rcases mw with rfl | rfl | rfl | rfl
    · exact kw_G _ (by simp)
    · exact int_G h0
    · exact int_G h1
    · exact int_G h2
  rcases List.mem_cons.mp m with rfl | m
  · have := b.len
    refine ⟨by simp; omega, fun w mw => ?_⟩
    rcases List.mem_cons.mp mw with rfl | mw
    · exact kw_G _ (by simp)
    · have := b.sub w mw
      unfold BRK at this
      simp only [List.mem_cons, List.not_mem_nil, or_false] at this
      rcases this with rfl | rfl | rfl | rfl <;> exact kw_G _ (by simp)
  · obtain ⟨x, mx, rfl⟩ := List.mem_map.mp m
    have k := g x mx
    have kn : 0 ≤ x.n ∧ x.n ≤ 9999 := by have := k.n; omega
    have km : 0 ≤ x.m ∧ x.m ≤ 9999 := by have := k.m; omega
    refine ⟨by simp [gmS], fun w mw => ?_⟩
    simp only [gmS, List.mem_cons, List.not_mem_nil, or_false] at mw
    rcases mw with rfl | rfl | rfl | rfl | rfl | rfl | rfl
    · exact kw_G _ (by simp)
    · exact nm_G (n _ k.a)
    · exact int_G k.r
    · exact int_G kn
    · exact nm_G (n _ k.b)
    · exact int_G k.s
    · exact int_G km
/-- a list of rows that is alive -/
structure Some_ (F : Hp) (k m : Nat) (vs : List V) (ls : List (List Str)) : Prop where
  al : All2 (WordsAt F) vs ls
  ok : ∀ ws ∈ ls, LnOk k ws
  n : ls.length ≤ m
theorem Some_.same {F F' : Hp} {k m : Nat} {vs : List V} {ls : List (List Str)} (h : Some_ F k m vs ls) (s : Same F F') : Some_ F' k m vs ls := ⟨h.al.mono fun _ _ w => w.same s, h.ok, h.n⟩
theorem Some_.le {F : Hp} {j k m n : Nat} {vs : List V} {ls : List (List Str)} (h : Some_ F j m vs ls) (l : j ≤ k) (l2 : m ≤ n) : Some_ F k n vs ls := ⟨h.al, fun ws m => (h.ok ws m).le l, Nat.le_trans h.n l2⟩
theorem Some_.ins {F : Hp} {k m i : Nat} {vs : List V} {ls : List (List Str)} {b : Addr} (h : Some_ F k m vs ls) (hb : F b = some (.lst [])) : Some_ F k (m + 1) (vs.take i ++ [.ref b] ++ vs.drop i) (ls.take i ++ [[]] ++ ls.drop i) := by
  refine ⟨((?_ : All2 (WordsAt F) (vs.take i) (ls.take i)).append (sing (b := []) ⟨b, rfl, hb⟩)).append ?_, fun ws m => ?_, ?_⟩
  · have := h.al.cut 0 i
    rwa [List.drop_zero, List.drop_zero] at this
  · have := h.al.cut i vs.length
    rwa [List.take_of_length_le (by rw [List.length_drop]; omega), List.take_of_length_le (by rw [List.length_drop, ← h.al.len]; omega)] at this
  · rcases List.mem_append.mp m with m | m
    · rcases List.mem_append.mp m with m | m
      · exact h.ok ws (List.mem_of_mem_take m)
      · rw [List.mem_singleton.mp m]; exact ⟨Nat.zero_le _, fun w m => nomatch m⟩
    · exact h.ok ws (List.mem_of_mem_drop m)
  · have := h.n
    rw [List.length_append, List.length_append, List.length_take, List.length_drop]; simp; omega

/-! ### law -/
abbrev s_law : Stmt := top 37
abbrev N_law : List Str := ["_law_script", "_law_rows", "_law_names_here", "_law_k", "_law_points", "_law_breakers_here", "_law_games_here", "_law_one", "_law_r", "_law_n", "_law_other", "_law_s", "_law_m", "_law_some", "_law_j", "_law_number", "_law_words"]
theorem sc_law : FnScope N_law ["_law_script"] (defScope s_law) := ⟨rfl, rfl, rfl, by decide +kernel, rfl, by decide +kernel, by decide +kernel⟩
def pr_law (K : PySem.W.Frag) : V → Hp → VK → XK → Prop := fun a0 H Q E => ∃ (a : Addr) (ns : List Int), a0 = .ref a ∧ SqL K H a (ns.map V.int) ∧ ns.length ≤ 63 ∧ ∀ H', Q (.bl true) H'
abbrev sp_law (K : PySem.W.Frag) : Sp := Sp1 (pr_law K)
theorem ok_law {P : Program} {w : World} {K : PySem.W.Frag} {mg : Str → Option Value} {base : Heap} {f : Addr} {fd : FuncData} (F : FunD K "law" "law" (defArgs s_law) (defBody s_law) (defScope s_law) [] [] f fd) (T : Txt K mg) (d__law_league : Dn P w K mg base CX0 3 "_law_league" ["_law_script", "_law_most"] [] (sp__law_league K)) (d__law_names : Dn P w K mg base CX0 2 "_law_names" ["_law_cell", "_law_many"] [] (sp__law_names K)) (d__law_at : Dn P w K mg base CX0 1 "_law_at" ["_law_script", "_law_k"] [] (sp__law_at K)) (d__law_mixed : Dn P w K mg base CX0 1 "_law_mixed" ["_law_cell", "_law_k"] [] (sp__law_mixed K)) (d__law_refused : Dn P w K mg base CX0 7 "_law_refused" ["_law_text"] [] (sp__law_refused K)) (d__law_spoilt : Dn P w K mg base CX0 1 "_law_spoilt" ["_law_rows", "_law_names_here", "_law_n"] [] (sp__law_spoilt K)) (d__law_due : Dn P w K mg base CX0 3 "_law_due" ["_law_rows"] [] (sp__law_due K)) : FnOk P w K mg base CX0 8 f fd ["_law_script"] (sp_law K) := by
  refine F.ok sc_law (fun vs H Q E h => len1 h) (fun cdv A outer s H vs Q E hr h => ?_)
  obtain ⟨a0, rfl, h⟩ := h
  have hu := hu_of hr
  refine ⟨_, PSs.nox ((pss_cons (ps_asg (pe_d d__law_league (hr.mono (by decide)) rfl pass0 (pa_cons (pv 0) (pa_cons pe_int pa_nil))) (pg_tupA (n := 3) rfl (pgs_cons (pg_name (i := 4) sc_law.nd rfl (by first | exact Or.inl rfl | exact Or.inr rfl)) (pgs_cons (pg_name (i := 5) sc_law.nd rfl (by first | exact Or.inl rfl | exact Or.inr rfl)) (pgs_cons (pg_name (i := 6) sc_law.nd rfl (by first | exact Or.inl rfl | exact Or.inr rfl)) pgs_nil)))))
      (pss_cons (ps_set (i := 1) sc_law.nd rfl (by first | exact Or.inl rfl | exact Or.inr rfl) (pe_lst (pa_cons (pe_op op_addX (pe_lst (pa_cons pe_str pa_nil)) (pe_lc (own := [("_law_number", 15)]) rfl sc_law.nd (pi_X (pv 4)) (blkOk_by (N := N_law) (sc := defScope s_law) (own := [("_law_number", 15)]) (by decide +kernel)) (fun _ _ _ _ _ => (pg_name (i := 15) sc_law.nd rfl (by first | exact Or.inl rfl | exact Or.inr rfl))) (fun _ _ _ _ _ => pts_nil) (fun _ _ _ _ _ => (pe_callTy call_strI (by rfl) T.b_str L2.A.boot_str (pa_cons (pv 15) pa_nil))))) (pa_cons (pe_op op_addX (pe_lst (pa_cons pe_str pa_nil)) (pv 5)) pa_nil))))
      (pss_cons (ps_for PassesOwn.never rfl (pi_X (pv 6)) (pg_tupA (n := 6) rfl (pgs_cons (pg_name (i := 7) sc_law.nd rfl (by first | exact Or.inl rfl | exact Or.inr rfl)) (pgs_cons (pg_name (i := 8) sc_law.nd rfl (by first | exact Or.inl rfl | exact Or.inr rfl)) (pgs_cons (pg_name (i := 9) sc_law.nd rfl (by first | exact Or.inl rfl | exact Or.inr rfl)) (pgs_cons (pg_name (i := 10) sc_law.nd rfl (by first | exact Or.inl rfl | exact Or.inr rfl)) (pgs_cons (pg_name (i := 11) sc_law.nd rfl (by first | exact Or.inl rfl | exact Or.inr rfl)) (pgs_cons (pg_name (i := 12) sc_law.nd rfl (by first | exact Or.inl rfl | exact Or.inr rfl)) pgs_nil))))))) (pss_one (ps_expr (pe_bm PySem.F.plainAttrs_list PySem.F.slot_list_append PySem.F.type_list_append mt_append (pv 1) (pa_cons (pe_lst (pa_cons pe_str (pa_cons (pv 7) (pa_cons (pe_callTy call_strI (by rfl) T.b_str L2.A.boot_str (pa_cons (pv 8) pa_nil)) (pa_cons (pe_callTy call_strI (by rfl) T.b_str L2.A.boot_str (pa_cons (pv 9) pa_nil)) (pa_cons (pv 10) (pa_cons (pe_callTy call_strI (by rfl) T.b_str L2.A.boot_str (pa_cons (pv 11) pa_nil)) (pa_cons (pe_callTy call_strI (by rfl) T.b_str L2.A.boot_str (pa_cons (pv 12) pa_nil)) pa_nil)))))))) pa_nil)))))
      (pss_cons (ps_set (i := 2) sc_law.nd rfl (by first | exact Or.inl rfl | exact Or.inr rfl) (pe_d d__law_names (hr.mono (by decide)) rfl pass0 (pa_cons (pe_d d__law_at (hr.mono (by decide)) rfl pass0 (pa_cons (pv 0) (pa_cons pe_int pa_nil))) (pa_cons pe_int pa_nil))))
      (pss_cons (ps_for PassesOwn.never rfl (pi_range1 rfl T.b_range (pa_cons pe_int pa_nil)) (pg_name (i := 3) sc_law.nd rfl (by first | exact Or.inl rfl | exact Or.inr rfl)) (pss_cons (ps_set (i := 9) sc_law.nd rfl (by first | exact Or.inl rfl | exact Or.inr rfl) (pe_d d__law_mixed (hr.mono (by decide)) rfl pass0 (pa_cons (pe_d d__law_mixed (hr.mono (by decide)) rfl pass0 (pa_cons (pe_d d__law_at (hr.mono (by decide)) rfl pass0 (pa_cons (pv 0) (pa_cons (pe_op op_addX pe_int (pv 3)) pa_nil))) (pa_cons (pv 3) pa_nil))) (pa_cons pe_int pa_nil))))
      (pss_cons (ps_set (i := 13) sc_law.nd rfl (by first | exact Or.inl rfl | exact Or.inr rfl) (pe_callTy call_listO (by rfl) T.b_list L2.A.boot_list (pa_cons (pv 1) pa_nil)))
      (pss_cut (ps_if (pt_cmpR op_gt (pe_op op_mod (pv 9) pe_int) pe_int (nomark _)) (pss_one (ps_set (i := 13) sc_law.nd rfl (by first | exact Or.inl rfl | exact Or.inr rfl) (pe_d d__law_spoilt (hr.mono (by decide)) rfl pass0 (pa_cons (pv 1) (pa_cons (pv 2) (pa_cons (pe_op op_fdiv (pv 9) pe_int) pa_nil)))))) pss_nil)
      (pss_cut (ps_if (pt_cmpR op_gt (pe_op op_mod (pv 9) pe_int) pe_int (nomark _)) (pss_one (ps_set (i := 13) sc_law.nd rfl (by first | exact Or.inl rfl | exact Or.inr rfl) (pe_d d__law_spoilt (hr.mono (by decide)) rfl pass0 (pa_cons (pv 13) (pa_cons (pv 2) (pa_cons (pe_d d__law_mixed (hr.mono (by decide)) rfl pass0 (pa_cons (pv 9) (pa_cons pe_int pa_nil))) pa_nil)))))) pss_nil)
      (pss_cons (ps_for PassesOwn.never rfl (pi_range1 rfl T.b_range (pa_cons (pe_op op_mod (pe_op op_fdiv (pv 9) pe_int) pe_int) pa_nil)) (pg_name (i := 14) sc_law.nd rfl (by first | exact Or.inl rfl | exact Or.inr rfl)) (pss_one (ps_expr (pe_bm PySem.F.plainAttrs_list PySem.F.slot_list_insert PySem.F.type_list_insert mt_insert (pv 13) (pa_cons (pe_op op_mod (pe_d d__law_mixed (hr.mono (by decide)) rfl pass0 (pa_cons (pv 9) (pa_cons (pe_op op_addX pe_int (pv 14)) pa_nil))) (pe_op op_addX (pe_callB call_lenX (by rfl) T.b_len L2.A.boot_len (pa_cons (pv 13) pa_nil)) pe_int)) (pa_cons (pe_lst pa_nil) pa_nil))))))
      (pss_one (ps_if (PW.pt (pw_and (pt_cmpR (op_neX hr.units) (pv 13) (pe_lst pa_nil) (nomark _)) (pw_and1 (pt_cmpR (op_neX hr.units) (pe_d d__law_refused (hr.mono (by decide)) rfl pass0 (pa_cons (pe_bm PySem.F.plainAttrs_str PySem.F.slot_str_join PySem.F.type_str_join mt_join pe_str (pa_cons (pe_lc (own := [("_law_words", 16)]) rfl sc_law.nd (pi_X (pv 13)) (blkOk_by (N := N_law) (sc := defScope s_law) (own := [("_law_words", 16)]) (by decide +kernel)) (fun _ _ _ _ _ => (pg_name (i := 16) sc_law.nd rfl (by first | exact Or.inl rfl | exact Or.inr rfl))) (fun _ _ _ _ _ => pts_nil) (fun _ _ _ _ _ => (pe_bmK (K := K) rfl PySem.F.plainAttrs_str PySem.F.slot_str_join PySem.F.type_str_join (mt_joinK (K := K) rfl) pe_str (pa_cons (pv 16) pa_nil)))) pa_nil)) pa_nil)) (pe_d d__law_due (hr.mono (by decide)) rfl pass0 (pa_cons (pv 13) pa_nil)) (nomark _))))) (pss_one (ps_ret pe_bl)) pss_nil))))))))
      (pss_one (ps_ret (pe_cmpR (op_eqX hr.units) (pe_d d__law_refused (hr.mono (by decide)) rfl pass0 (pa_cons pe_str pa_nil)) (pe_tup (pa_cons pe_str (pa_cons pe_int pa_nil))) (nomark _)))))))))), ?_⟩
  refine go_start (σ := [some a0, none, none, none, none, none, none, none, none, none, none, none, none, none, none, none, none]) rfl ?_
  try dsimp only [cxOf, Cx.nox, Cx.wish, Cx.tr, Cx.suite]
  obtain ⟨sc, cs, rfl, hS, lc, hq⟩ := h
  have st0 : Sta H [] H := .nil
  walk_at "*"
  refine go_sp2 ⟨H, [], sc, cs, 12, rfl, rfl, hS, lc, by decide, st0, fun t pt bl gl p0 p1 p2 bs ns gs F1 H1 q0 q1 q2 bok nd nok nl8 gok lg s1 et ep eb eg gf st1 => ?_⟩
  clear st0
  have lb := bok.len
  have rok := rwS_ok q0 q1 q2 bok (fun z m => (nok z m).1) gok
  walk_at "*"
  refine go_newF st1 fun b2 F2 H2 s2 e2 st2 => ?_
  have ep2 := s2 _ _ ep
  clear st1
  walk_at "*"
  refine go_iT (.of (st2.of ep2)) ?_
  refine LcW.accT [p0, p1, p2] V.int (fun pre => (pre.map strI).map V.str) (by simp) st2 (fun F' H' s' st' => .of (st'.of (s' _ _ ep2))) rfl ?_ ?_
  · rintro A pre x F3 H3 mx s3 st3 yes no hy hn
    have bx : 0 ≤ x ∧ x ≤ 9999 := by
      simp only [List.mem_cons, List.not_mem_nil, or_false] at mx
      rcases mx with rfl | rfl | rfl <;> assumption
    refine go_name rfl ⟨rfl, ?_⟩
    walk_at "*"
    refine go_str (logI bx) ?_
    exact hy _ _ _ (by rw [List.map_append, List.map_append]; rfl) (.refl _) st3
  rintro A F3 H3 s3 st3
  refine go_addL (xs := [Str.ofString "points"].map V.str) (st3.of (s3 _ _ e2)) (st3.get (.head _)) (szl (Nat.le_of_ble_eq_true rfl)) ?_
  rw [← List.map_append]
  refine go_newF st3.tail fun b4 F4 H4 s4 e4 st4 => ?_
  clear st2 st3
  walk_at "*"
  refine go_newF st4 fun b5 F5 H5 s5 e5 st5 => ?_
  have s15 := s2.trans (s3.trans (s4.trans s5))
  clear st4
  walk_at "*"
  refine go_addL (xs := [Str.ofString "breaker"].map V.str) (st5.of e5) (st5.of (s15 _ _ eb)) (szl (by rw [List.length_map, List.length_map]; show 1 + _ ≤ _; omega)) ?_
  rw [← List.map_append]
  refine go_newF st5 fun b6 F6 H6 s6 e6 st6 => ?_
  clear st5
  walk_at "*"
  refine go_newLv st6 rfl fun rl H7 st7 => ?_
  have s16 := s15.trans s6
  have eg6 := s16 _ _ eg
  have e4 := (s5.trans s6) _ _ e4
  clear st6
  walk_at "*"
  refine go_iL (.of (st7.of eg6)) ?_
  refine accLO gs (fun x => V.ref x.1) (fun pre σ H' => ∃ (vs : List V) (F' : Hp) (v2 v3 v7 v8 v9 v10 v11 v12 v13 v14 v15 v16 : Option V), All2 (WordsAt F') vs (rwS p0 p1 p2 bs (gv pre)) ∧ Same F6 F' ∧ Sta F' ((rl, .lst vs) :: []) H' ∧ v15 = none ∧ v16 = none ∧ σ = [some (.ref sc), some (.ref rl), v2, v3, some (.ref pt), some (.ref bl), some (.ref gl), v7, v8, v9, v10, v11, v12, v13, v14, v15, v16])
    ⟨[.ref b4, .ref b6], F6, _, _, _, _, _, _, _, _, _, _, _, _, .cons ⟨b4, rfl, e4⟩ (.cons ⟨b6, rfl, e6⟩ .nil), .refl _, st7, rfl, rfl, rfl⟩ (fun pre σ H' ⟨_, _, _, _, _, _, _, _, _, _, _, _, _, _, _, s', st', _⟩ => .of (st'.of (s' _ _ eg6))) ?_ ?_
  · rintro pre x σ H8 mx ⟨post, epp⟩ ⟨vs, F8, v2, v3, v7, v8, v9, v10, v11, v12, v13, v14, v15, v16, al, s8, st8, rfl, rfl, rfl⟩ D' hnx hct hrt
    have fx := (s16.trans s8) _ _ (gf x mx)
    have lx : vs.length = pre.length + 2 := by have := al.len; simpa [rwS] using this
    have lx2 : pre.length + 1 ≤ gs.length := by rw [epp, List.length_append, List.length_cons]; omega
    have gk := gok x.2 (List.mem_map_of_mem mx)
    have kr := gk.r
    have ks := gk.s
    have kn : 0 ≤ x.2.n ∧ x.2.n ≤ 9999 := by have := gk.n; omega
    have km : 0 ≤ x.2.m ∧ x.2.m ≤ 9999 := by have := gk.m; omega
    obtain ⟨q, g⟩ := x
    dsimp only at kr ks kn km
    clear st7
    walk_at "*"
    refine go_str (logI kr) ?_
    walk_at "*"
    refine go_str (logI kn) ?_
    walk_at "*"
    refine go_str (logI ks) ?_
    walk_at "*"
    refine go_str (logI km) ?_
    walk_at "*"
    refine go_newF st8 fun b9 F9 H9 s9 e9 st9 => ?_
    clear st8
    walk_at "*"
    rename_i H10 st10
    refine hnx _ _ ⟨vs ++ [.ref b9], F9, _, _, _, _, _, _, _, _, _, _, _, _, ?_, s8.trans s9, st10, rfl, rfl, rfl⟩
    rw [show rwS p0 p1 p2 bs (gv (pre ++ [(q, g)])) = rwS p0 p1 p2 bs (gv pre) ++ [gmS g] by simp [rwS, gv]]
    exact (al.mono fun _ _ w => w.same s9).snoc ⟨b9, rfl, e9⟩
  rintro σ H8 ⟨vs, F8, v2, v3, v7, v8, v9, v10, v11, v12, v13, v14, v15, v16, al, s8, st8, rfl, rfl, rfl⟩
  have lrw : (rwS p0 p1 p2 bs (gv gs)).length = gs.length + 2 := by simp [rwS]
  generalize rwS p0 p1 p2 bs (gv gs) = rows at *
  obtain ⟨F9, s9, e9, st9⟩ := st8.freeze .rfl
  have hf : LinesF F9 rl rows := ⟨vs, e9, al.mono fun _ _ w => w.same s9⟩
  have hS := seqL_same hS (s1.trans (s16.trans (s8.trans s9)))
  clear st7 st8
  walk_at "*"
  refine go_sp2 ⟨sc, cs, 1, rfl, rfl, st9.seqL hS, lc, by omega, fun z1 => ?_⟩
  walk_at "*"
  refine go_sp2 ⟨F9, [], z1, 2, rfl, rfl, by decide, st9, fun f nl F10 H10 s10 e10 nok2 inj2 nz2 st10 => ?_⟩
  have hz : F10 nl = some (.lst ((f 0 :: [f 1]).map V.str)) := e10
  have gz := nm_G (nok2 0)
  have hf := hf.same s10
  have hS := seqL_same hS s10
  clear st9
  walk_at "*"
  refine ForW.range (fun i σ H' => ∃ (F' : Hp) (v3 v7 v8 v9 v10 v11 v12 v13 v14 : Option V), Same F10 F' ∧ Sta F' [] H' ∧ σ = [some (.ref sc), some (.ref rl), some (.ref nl), v3, some (.ref pt), some (.ref bl), some (.ref gl), v7, v8, v9, v10, v11, v12, v13, v14, none, none])
    ⟨F10, _, _, _, _, _, _, _, _, _, .refl _, st10, rfl⟩ ?_ ?_
  · rintro k σ H11 hk ⟨F11, v3, v7, v8, v9, v10, v11, v12, v13, v14, s11, st11, rfl⟩
    rw [Int.zero_add]
    have hS := seqL_same hS s11
    have hf := hf.same s11
    have hz := s11 _ _ hz
    clear st10
    walk_at "*"
    refine go_sp2 ⟨sc, cs, _, rfl, rfl, st11.seqL hS, lc, by omega, fun z2 => ?_⟩
    walk_at "*"
    refine go_sp2 ⟨_, _, rfl, rfl, by omega, by omega, fun m1 m10 m11 => ?_⟩
    walk_at "*"
    refine go_sp2 ⟨_, _, rfl, rfl, by omega, by omega, fun n n0 n1 => ?_⟩
    walk_at "*"
    obtain ⟨vs1, ev1, al1⟩ := id hf
    refine go_listL (.of (st11.of ev1)) ?_
    refine go_newLv st11 rfl fun sl H12 st12 => ?_
    clear st11
    walk_at "*"
    refine go_cut (fun σ' H' => ∃ (sl : Addr) (vs : List V) (ls : List (List Str)) (F' : Hp), Some_ F' 8 43 vs ls ∧ 1 ≤ ls.length ∧ Same F11 F' ∧ Sta F' ((sl, .lst vs) :: []) H' ∧ σ' = [some (.ref sc), some (.ref rl), some (.ref nl), some (.int (k : Nat)), some (.ref pt), some (.ref bl), some (.ref gl), v7, v8, some (.int n), v10, v11, v12, some (.ref sl), v14, none, none]) ?_ ?_
    · walk_at "*"
      refine if2 (fun c => ?_) (fun c => ?_)
      · walk_at "*"
        refine go_sp3 ⟨F11, _, rl, nl, _, rows, f 0, [f 1], 7, rfl, rfl, rfl, hf, hz, gz, rok, by decide, by omega, by omega, st12, fun t vs' ls' F13 H13 ok13 l13 n13 s13 al13 st13 => ?_⟩
        walk_at "*"
        exact ⟨t, vs', ls', F13, ⟨al13, ok13, by omega⟩, n13 (by omega), s13, (st13.perm (.swap ..)).tail, rfl⟩
      · walk_at "*"
        exact ⟨sl, vs1, rows, F11, ⟨al1, fun ws m => (rok ws m).le (by decide), by omega⟩, by omega, .refl _, st12, rfl⟩
    rintro σ' H13 ⟨sl, vs2, ls2, F13, sm, ln1, s13, st13, rfl⟩
    have ln2 := sm.n
    have hz := s13 _ _ hz
    clear st12
    walk_at "*"
    refine go_cut (fun σ' H' => ∃ (sl : Addr) (vs : List V) (ls : List (List Str)) (F' : Hp), Some_ F' 9 130 vs ls ∧ Same F13 F' ∧ Sta F' ((sl, .lst vs) :: []) H' ∧ σ' = [some (.ref sc), some (.ref rl), some (.ref nl), some (.int (k : Nat)), some (.ref pt), some (.ref bl), some (.ref gl), v7, v8, some (.int n), v10, v11, v12, some (.ref sl), v14, none, none]) ?_ ?_
    · walk_at "*"
      refine if2 (fun c => ?_) (fun c => ?_)
      · obtain ⟨F14, s14, e14, st14⟩ := st13.freeze .rfl
        clear st13
        walk_at "*"
        refine go_sp2 ⟨_, _, rfl, rfl, by omega, by omega, fun m m0 m1 => ?_⟩
        walk_at "*"
        refine go_sp3 ⟨F14, [], sl, nl, _, ls2, f 0, [f 1], 8, rfl, rfl, rfl, ⟨vs2, e14, sm.al.mono fun _ _ w => w.same s14⟩, s14 _ _ hz, gz, sm.ok, by decide, ln1, by omega, st14, fun t vs' ls' F15 H15 ok15 l15 n15 s15 al15 st15 => ?_⟩
        walk_at "*"
        exact ⟨t, vs', ls', F15, ⟨al15, ok15, by omega⟩, s14.trans s15, st15, rfl⟩
      · walk_at "*"
        exact ⟨sl, vs2, ls2, F13, sm.le (by decide) (by decide), .refl _, st13, rfl⟩
    rintro σ' H15 ⟨sl, vs3, ls3, F15, sm3, s15, st15, rfl⟩
    clear st13 sm
    walk_at "*"
    obtain ⟨r, hr, r3⟩ : ∃ r : Nat, n / 27 % 4 = (r : Int) ∧ r ≤ 3 := ⟨(n / 27 % 4).toNat, by omega, by omega⟩
    rw [hr]
    refine ForW.range (fun j σ H' => ∃ (vs : List V) (ls : List (List Str)) (F' : Hp) (v14 : Option V), Some_ F' 9 (130 + j) vs ls ∧ Same F15 F' ∧ Sta F' ((sl, .lst vs) :: []) H' ∧ σ = [some (.ref sc), some (.ref rl), some (.ref nl), some (.int (k : Nat)), some (.ref pt), some (.ref bl), some (.ref gl), v7, v8, some (.int n), v10, v11, v12, some (.ref sl), v14, none, none])
      ⟨vs3, ls3, F15, _, sm3, .refl _, st15, rfl⟩ ?_ ?_
    · rintro j σ H16 hj ⟨vs, ls, F16, v14, sm4, s16', st16, rfl⟩
      rw [Int.zero_add]
      have ln4 := sm4.n
      have vl4 := sm4.al.len
      have hj3 : j ≤ 3 := by omega
      clear st15
      walk_at "*"
      refine go_sp2 ⟨_, _, rfl, rfl, by omega, by omega, fun m m0 m1 => ?_⟩
      walk_at "*"
      obtain ⟨i, ei, hi⟩ : ∃ i : Nat, m % ((vs.length : Int) + 1) = (i : Int) ∧ i ≤ vs.length := by
        have h0 := Int.emod_nonneg m (show (vs.length : Int) + 1 ≠ 0 by omega)
        have h1 := Int.emod_lt_of_pos m (show 0 < (vs.length : Int) + 1 by omega)
        exact ⟨(m % ((vs.length : Int) + 1)).toNat, by omega, by omega⟩
      rw [ei]
      refine go_newF st16 fun b17 F17 H17 s17 e17 st17 => ?_
      clear st16
      walk_at "*"
      refine ⟨sl, vs, ((i : Nat) : Int), .ref b17, rfl, rfl, st17.get (.head _), Nat.lt_of_lt_of_le (show vs.length < 100000 by omega) (by decide), by omega, by omega, ?_⟩
      have st18 := st17.put (o' := .lst (vs.take ((i : Nat) : Int).toNat ++ [.ref b17] ++ vs.drop ((i : Nat) : Int).toNat)) .rfl rfl
      generalize upd H17 sl (.lst (vs.take ((i : Nat) : Int).toNat ++ [.ref b17] ++ vs.drop ((i : Nat) : Int).toNat)) = H18 at st18 ⊢
      walk_at "*"
      rw [Int.toNat_natCast] at st18
      exact ⟨_, _, F17, _, (sm4.same s17).ins e17, s16'.trans s17, st18, rfl⟩
    · rintro σ H16 ⟨vs, ls, F16, v14, sm4, s16', st16, rfl⟩
      have ln4 := sm4.n
      have vl4 := sm4.al.len
      have ok14 : ∀ ws ∈ ls, LnOk 14 ws := fun ws m => (sm4.ok ws m).le (by decide)
      have sAll := s11.trans (s13.trans (s15.trans s16'))
      clear st15
      walk_at "*"
      refine go_newF st16 fun b17 F17 H17 s17 e17 st17 => ?_
      have al17 := sm4.al.mono fun _ _ w => WordsAt.same w s17
      have esl := st17.get (p := sl) (.head _)
      clear st16
      walk_at "*"
      refine go_neD (.lst (.of esl) (dps_words (al17.mono fun _ _ w => w.same st17.fz))) (.lst (.of (st17.of e17)) .nil) (dLines_sh fun ws m => (sm4.ok ws m).w) (shaped_of (by decide) (by decide)) ?_
      have eqn := eqv_nil (ls := ls)
      unfold dLines at eqn
      rw [eqn]
      walk_at "*"
      by_cases le : ls = []
      · refine ite_F (by rw [decide_eq_true le]; rfl) ?_
        walk_at "*"
        exact ⟨F17, _, _, _, _, _, _, _, _, _, sAll.trans s17, st17.tail, rfl⟩
      refine ite_T (by rw [decide_eq_false le]; rfl) ?_
      walk_at "*"
      obtain ⟨xs, exv, exl, hxs⟩ := all2_rows al17
      rw [exv] at st17 esl
      have lxs : xs.length = ls.length := by rw [exl, List.length_map]
      refine go_iL (.of esl) ?_
      refine LcW.accL xs (fun x => V.ref x.1) (fun pre => (pre.map fun x => Txt.join (" " : Str) x.2).map V.str) (by omega) st17 (fun F' H' s' st' => .of (st'.get (.head _))) rfl ?_ ?_
      · rintro B pre x F18 H18 mx s18 st18 yes no hy hn
        have hx := st18.of (s18 _ _ (hxs x mx))
        have ox := ok14 x.2 (by rw [exl]; exact List.mem_map_of_mem mx)
        refine go_name rfl ⟨rfl, ?_⟩
        walk_at "*"
        refine ⟨_, x.1, x.2, rfl, rfl, .inl (.of hx), by have := ws_sum ox; omega, ?_⟩
        exact hy _ _ _ (by rw [List.map_append, List.map_append]; rfl) (.refl _) st18
      rintro B F18 H18 s18 st18
      have txt : (xs.map fun x => Txt.join (" " : Str) x.2) = ls.map fun ws => Txt.join (" " : Str) ws := by rw [exl, List.map_map]; rfl
      rw [txt] at st18
      have rowok : ∀ r ∈ ls.map (fun ws => Txt.join (" " : Str) ws), RowOk r := fun r m => by
        obtain ⟨ws, mws, rfl⟩ := List.mem_map.mp m
        exact ws_row (ok14 ws mws)
      walk_at "*"
      refine ⟨_, B, ls.map (fun ws => Txt.join (" " : Str) ws), rfl, rfl, .inl (.of (st18.get (.head _))), ?_, ?_⟩
      · have h1 := join_len (rows := ls.map fun ws => Txt.join (" " : Str) ws) (L := 400) fun r m => (rowok r m).len
        rw [List.length_map] at h1
        rw [show (Str.ofString "\n").length = 1 by decide +kernel, List.length_map]
        omega
      walk_at "*"
      refine go_sp1 ⟨ls.map (fun ws => Txt.join (" " : Str) ws), rfl, rowok, by rw [List.length_map]; omega, fun t1 F19 H19 s19 e19 st19 => ?_⟩
      have rwr : (if ls.map (fun ws => Txt.join (" " : Str) ws) = [] then 1 else (ls.map (fun ws => Txt.join (" " : Str) ws)).length) = ls.length := by rw [if_neg (by simpa using le), List.length_map]
      rw [rwr, ws_wr 1 ok14] at e19
      have sH := s19.trans st19
      have st20 := st18.same sH
      have e19 := st19 _ _ e19
      have al20 := (al17.mono fun _ _ w => WordsAt.same w (s18.trans st20.fz))
      have esl20 := st20.get (p := sl) (.tail _ (.head _))
      clear st18 st17 esl
      walk_at "*"
      refine go_sp1 ⟨sl, _, ls, rfl, esl20, by rw [← exv]; exact al20, fun ws m => (sm4.ok ws m).le (by decide), by omega, fun t2 F21 H21 s21 e21 st21 => ?_⟩
      have st22 := st20.same (s21.trans st21)
      refine go_neT (.of ((s21.trans st21) _ _ e19)) (.of (st21 _ _ e21)) outT_ok outT_ok ?_
      rw [eqVs_refl outT_ok]
      walk_at "*"
      exact ⟨F18, _, _, _, _, _, _, _, _, _, sAll.trans (s17.trans s18), st22.tail.tail, rfl⟩
  · rintro σ H11 ⟨F11, v3, v7, v8, v9, v10, v11, v12, v13, v14, s11, st11, rfl⟩
    clear st10
    walk_at "*"
    refine go_sp1 ⟨[], by rw [join_nilN], fun r m => (by cases m), by simp, fun t1 F12 H12 s12 e12 st12 => ?_⟩
    have st13 : Sta F12 [] H12 := ⟨st12, .nil, fun _ m => nomatch m⟩
    clear st11
    walk_at "*"
    rename_i t2 F14 H14 s14 e14 st14
    refine go_eqT (xs := [.str "unfinished", .int 1]) (.of (st14.of (s14 _ _ e12))) (.of (st14.of e14)) (ok2 (by decide +kernel)) (ok2 (by decide +kernel)) ?_
    rw [eqVs_refl (ok2 (by decide +kernel))]
    exact hq _
/-! ### the head -/
def D__law_at : He.DefD := ⟨("_law_at", none), "_law_at", "_law_at", defArgs s__law_at, defBody s__law_at, defScope s__law_at, [], []⟩
def D__law_mixed : He.DefD := ⟨("_law_mixed", none), "_law_mixed", "_law_mixed", defArgs s__law_mixed, defBody s__law_mixed, defScope s__law_mixed, [], []⟩
def D__law_names : He.DefD := ⟨("_law_names", none), "_law_names", "_law_names", defArgs s__law_names, defBody s__law_names, defScope s__law_names, [], []⟩
def D__law_small_game : He.DefD := ⟨("_law_small_game", none), "_law_small_game", "_law_small_game", defArgs s__law_small_game, defBody s__law_small_game, defScope s__law_small_game, [], []⟩
def D__law_games : He.DefD := ⟨("_law_games", none), "_law_games", "_law_games", defArgs s__law_games, defBody s__law_games, defScope s__law_games, [], []⟩
def D__law_breakers : He.DefD := ⟨("_law_breakers", none), "_law_breakers", "_law_breakers", defArgs s__law_breakers, defBody s__law_breakers, defScope s__law_breakers, [], []⟩
def D__law_league : He.DefD := ⟨("_law_league", none), "_law_league", "_law_league", defArgs s__law_league, defBody s__law_league, defScope s__law_league, [], []⟩
def D_all_of : He.DefD := ⟨("all_of", none), "all_of", "all_of", defArgs s_all_of, defBody s_all_of, defScope s_all_of, [], []⟩
def D_number_in : He.DefD := ⟨("number_in", none), "number_in", "number_in", defArgs s_number_in, defBody s_number_in, defScope s_number_in, [], []⟩
def D_is_keyword : He.DefD := ⟨("is_keyword", none), "is_keyword", "is_keyword", defArgs s_is_keyword, defBody s_is_keyword, defScope s_is_keyword, [], []⟩
def D_is_name : He.DefD := ⟨("is_name", none), "is_name", "is_name", defArgs s_is_name, defBody s_is_name, defScope s_is_name, [], []⟩
def D_BadRow_init : He.DefD := ⟨("BadRow", some "__init__"), "__init__", "BadRow.__init__", defArgs s_BadRow_init, defBody s_BadRow_init, defScope s_BadRow_init, [], []⟩
def D_Misplaced_init : He.DefD := ⟨("Misplaced", some "__init__"), "__init__", "Misplaced.__init__", defArgs s_Misplaced_init, defBody s_Misplaced_init, defScope s_Misplaced_init, [], []⟩
def D_Unfinished_init : He.DefD := ⟨("Unfinished", some "__init__"), "__init__", "Unfinished.__init__", defArgs s_Unfinished_init, defBody s_Unfinished_init, defScope s_Unfinished_init, [], []⟩
def D_numbers_of : He.DefD := ⟨("numbers_of", none), "numbers_of", "numbers_of", defArgs s_numbers_of, defBody s_numbers_of, defScope s_numbers_of, [], []⟩
def D_points_row : He.DefD := ⟨("points_row", none), "points_row", "points_row", defArgs s_points_row, defBody s_points_row, defScope s_points_row, [], []⟩
def D_breaker_row : He.DefD := ⟨("breaker_row", none), "breaker_row", "breaker_row", defArgs s_breaker_row, defBody s_breaker_row, defScope s_breaker_row, [], []⟩
def D_game_row : He.DefD := ⟨("game_row", none), "game_row", "game_row", defArgs s_game_row, defBody s_game_row, defScope s_game_row, [], []⟩
def D_league_row : He.DefD := ⟨("league_row", none), "league_row", "league_row", defArgs s_league_row, defBody s_league_row, defScope s_league_row, [], []⟩
def D_read_league : He.DefD := ⟨("read_league", none), "read_league", "read_league", defArgs s_read_league, defBody s_read_league, defScope s_read_league, [], []⟩
def D__law_is_number : He.DefD := ⟨("_law_is_number", none), "_law_is_number", "_law_is_number", defArgs s__law_is_number, defBody s__law_is_number, defScope s__law_is_number, [], []⟩
def D__law_is_name : He.DefD := ⟨("_law_is_name", none), "_law_is_name", "_law_is_name", defArgs s__law_is_name, defBody s__law_is_name, defScope s__law_is_name, [], []⟩
def D__law_fits : He.DefD := ⟨("_law_fits", none), "_law_fits", "_law_fits", defArgs s__law_fits, defBody s__law_fits, defScope s__law_fits, [], []⟩
def D__law_spoilt : He.DefD := ⟨("_law_spoilt", none), "_law_spoilt", "_law_spoilt", defArgs s__law_spoilt, defBody s__law_spoilt, defScope s__law_spoilt, [], []⟩
def D__law_due : He.DefD := ⟨("_law_due", none), "_law_due", "_law_due", defArgs s__law_due, defBody s__law_due, defScope s__law_due, [], []⟩
def D__law_refused : He.DefD := ⟨("_law_refused", none), "_law_refused", "_law_refused", defArgs s__law_refused, defBody s__law_refused, defScope s__law_refused, [], []⟩
def D_law : He.DefD := ⟨("law", none), "law", "law", defArgs s_law, defBody s_law, defScope s_law, [], []⟩
def fn : List He.DefD := [D__law_at, D__law_mixed, D__law_names, D__law_small_game, D__law_games, D__law_breakers, D__law_league, D_all_of, D_number_in, D_is_keyword, D_is_name, D_BadRow_init, D_Misplaced_init, D_Unfinished_init, D_numbers_of, D_points_row, D_breaker_row, D_game_row, D_league_row, D_read_league, D__law_is_number, D__law_is_name, D__law_fits, D__law_spoilt, D__law_due, D__law_refused, D_law]
def fa : List He.Fa := [.glo "_law_at", .glo "_law_mixed", .glo "_law_names", .glo "_law_small_game", .glo "_law_games", .glo "_law_breakers", .glo "_law_league", .glo "all_of", .glo "number_in", .glo "is_keyword", .glo "is_name", .glo "BadRow", .glo "Misplaced", .glo "Unfinished", .glo "numbers_of", .glo "points_row", .glo "breaker_row", .glo "game_row", .glo "league_row", .glo "read_league", .glo "_law_is_number", .glo "_law_is_name", .glo "_law_fits", .glo "_law_spoilt", .glo "_law_due", .glo "_law_refused", .glo "law", .free "ValueError", .free "all", .free "enumerate", .free "int", .free "isinstance", .free "len", .free "list", .free "min", .free "range", .free "set", .free "str", .free "tuple", .glo "BREAKERS", .int "MOST_FIGURES" 4, .glo "BookError", .glo "Falling", .glo "NoEntry", .glo "NotLet", .glo "Twice"]
def xs : List (PySem.W.Frag → Bool) := [fun K => biB K (He.ga K "BookError"),
  fun K => decide (PySem.W.exmOne K (.ref (He.ga K "BadRow")) (.ref (He.ga K "BookError")) = some true),
  fun K => decide (PySem.W.exmOne K (.ref (He.ga K "Falling")) (.ref (He.ga K "BookError")) = some true),
  fun K => decide (PySem.W.exmOne K (.ref (He.ga K "Misplaced")) (.ref (He.ga K "BookError")) = some true),
  fun K => decide (PySem.W.exmOne K (.ref (He.ga K "NoEntry")) (.ref (He.ga K "BookError")) = some true),
  fun K => decide (PySem.W.exmOne K (.ref (He.ga K "NotLet")) (.ref (He.ga K "BookError")) = some true),
  fun K => decide (PySem.W.exmOne K (.ref (He.ga K "Twice")) (.ref (He.ga K "BookError")) = some true),
  fun K => decide (PySem.W.exmOne K (.ref (He.ga K "Unfinished")) (.ref (He.ga K "BookError")) = some true),
  fun K => decide (PySem.W.typeIn K (.ref (He.ma K (He.ga K "BadRow") "__init__")) = some (.type "function")),
  fun K => decide (PySem.W.typeIn K (.ref (He.ma K (He.ga K "Misplaced") "__init__")) = some (.type "function")),
  fun K => decide (PySem.W.typeIn K (.ref (He.ma K (He.ga K "Unfinished") "__init__")) = some (.type "function")),
  fun K => decide (PySem.W.findIn K (.ref (He.ga K "BadRow")) "__init__" = some (some (.ref (He.ma K (He.ga K "BadRow") "__init__")))),
  fun K => decide (PySem.W.findIn K (.ref (He.ga K "Misplaced")) "__init__" = some (some (.ref (He.ma K (He.ga K "Misplaced") "__init__")))),
  fun K => decide (PySem.W.findIn K (.ref (He.ga K "Unfinished")) "__init__" = some (some (.ref (He.ma K (He.ga K "Unfinished") "__init__")))),
  fun K => decide (PySem.W.kitOne K (.ref (He.ga K "BadRow")) (.ref (He.ga K "BadRow")) = some true),
  fun K => decide (PySem.W.kitOne K (.ref (He.ga K "BadRow")) (.ref (He.ga K "Falling")) = some false),
  fun K => decide (PySem.W.kitOne K (.ref (He.ga K "BadRow")) (.ref (He.ga K "Misplaced")) = some false),
  fun K => decide (PySem.W.kitOne K (.ref (He.ga K "BadRow")) (.ref (He.ga K "NoEntry")) = some false),
  fun K => decide (PySem.W.kitOne K (.ref (He.ga K "BadRow")) (.ref (He.ga K "NotLet")) = some false),
  fun K => decide (PySem.W.kitOne K (.ref (He.ga K "BadRow")) (.ref (He.ga K "Twice")) = some false),
  fun K => decide (PySem.W.kitOne K (.ref (He.ga K "BadRow")) (.ref (He.ga K "Unfinished")) = some false),
  fun K => decide (PySem.W.kitOne K (.ref (He.ga K "BadRow")) (.type "ValueError") = some true),
  fun K => decide (PySem.W.kitOne K (.ref (He.ga K "Falling")) (.ref (He.ga K "BadRow")) = some false),
  fun K => decide (PySem.W.kitOne K (.ref (He.ga K "Falling")) (.ref (He.ga K "Falling")) = some true),
  fun K => decide (PySem.W.kitOne K (.ref (He.ga K "Falling")) (.ref (He.ga K "Misplaced")) = some false),
  fun K => decide (PySem.W.kitOne K (.ref (He.ga K "Falling")) (.ref (He.ga K "NoEntry")) = some false),
  fun K => decide (PySem.W.kitOne K (.ref (He.ga K "Falling")) (.ref (He.ga K "NotLet")) = some false),
  fun K => decide (PySem.W.kitOne K (.ref (He.ga K "Falling")) (.ref (He.ga K "Twice")) = some false),
  fun K => decide (PySem.W.kitOne K (.ref (He.ga K "Falling")) (.ref (He.ga K "Unfinished")) = some false),
  fun K => decide (PySem.W.kitOne K (.ref (He.ga K "Falling")) (.type "ValueError") = some true),
  fun K => decide (PySem.W.kitOne K (.ref (He.ga K "Misplaced")) (.ref (He.ga K "BadRow")) = some false),
  fun K => decide (PySem.W.kitOne K (.ref (He.ga K "Misplaced")) (.ref (He.ga K "Falling")) = some false),
  fun K => decide (PySem.W.kitOne K (.ref (He.ga K "Misplaced")) (.ref (He.ga K "Misplaced")) = some true),
  fun K => decide (PySem.W.kitOne K (.ref (He.ga K "Misplaced")) (.ref (He.ga K "NoEntry")) = some false),
  fun K => decide (PySem.W.kitOne K (.ref (He.ga K "Misplaced")) (.ref (He.ga K "NotLet")) = some false),
  fun K => decide (PySem.W.kitOne K (.ref (He.ga K "Misplaced")) (.ref (He.ga K "Twice")) = some false),
  fun K => decide (PySem.W.kitOne K (.ref (He.ga K "Misplaced")) (.ref (He.ga K "Unfinished")) = some false),
  fun K => decide (PySem.W.kitOne K (.ref (He.ga K "Misplaced")) (.type "ValueError") = some true),
  fun K => decide (PySem.W.kitOne K (.ref (He.ga K "NoEntry")) (.ref (He.ga K "BadRow")) = some false),
  fun K => decide (PySem.W.kitOne K (.ref (He.ga K "NoEntry")) (.ref (He.ga K "Falling")) = some false),
  fun K => decide (PySem.W.kitOne K (.ref (He.ga K "NoEntry")) (.ref (He.ga K "Misplaced")) = some false),
  fun K => decide (PySem.W.kitOne K (.ref (He.ga K "NoEntry")) (.ref (He.ga K "NoEntry")) = some true),
  fun K => decide (PySem.W.kitOne K (.ref (He.ga K "NoEntry")) (.ref (He.ga K "NotLet")) = some false),
  fun K => decide (PySem.W.kitOne K (.ref (He.ga K "NoEntry")) (.ref (He.ga K "Twice")) = some false),
  fun K => decide (PySem.W.kitOne K (.ref (He.ga K "NoEntry")) (.ref (He.ga K "Unfinished")) = some false),
  fun K => decide (PySem.W.kitOne K (.ref (He.ga K "NoEntry")) (.type "ValueError") = some true),
  fun K => decide (PySem.W.kitOne K (.ref (He.ga K "NotLet")) (.ref (He.ga K "BadRow")) = some false),
  fun K => decide (PySem.W.kitOne K (.ref (He.ga K "NotLet")) (.ref (He.ga K "Falling")) = some false),
  fun K => decide (PySem.W.kitOne K (.ref (He.ga K "NotLet")) (.ref (He.ga K "Misplaced")) = some false),
  fun K => decide (PySem.W.kitOne K (.ref (He.ga K "NotLet")) (.ref (He.ga K "NoEntry")) = some false),
  fun K => decide (PySem.W.kitOne K (.ref (He.ga K "NotLet")) (.ref (He.ga K "NotLet")) = some true),
  fun K => decide (PySem.W.kitOne K (.ref (He.ga K "NotLet")) (.ref (He.ga K "Twice")) = some false),
  fun K => decide (PySem.W.kitOne K (.ref (He.ga K "NotLet")) (.ref (He.ga K "Unfinished")) = some false),
  fun K => decide (PySem.W.kitOne K (.ref (He.ga K "NotLet")) (.type "ValueError") = some true),
  fun K => decide (PySem.W.kitOne K (.ref (He.ga K "Twice")) (.ref (He.ga K "BadRow")) = some false),
  fun K => decide (PySem.W.kitOne K (.ref (He.ga K "Twice")) (.ref (He.ga K "Falling")) = some false),
  fun K => decide (PySem.W.kitOne K (.ref (He.ga K "Twice")) (.ref (He.ga K "Misplaced")) = some false),
  fun K => decide (PySem.W.kitOne K (.ref (He.ga K "Twice")) (.ref (He.ga K "NoEntry")) = some false),
  fun K => decide (PySem.W.kitOne K (.ref (He.ga K "Twice")) (.ref (He.ga K "NotLet")) = some false),
  fun K => decide (PySem.W.kitOne K (.ref (He.ga K "Twice")) (.ref (He.ga K "Twice")) = some true),
  fun K => decide (PySem.W.kitOne K (.ref (He.ga K "Twice")) (.ref (He.ga K "Unfinished")) = some false),
  fun K => decide (PySem.W.kitOne K (.ref (He.ga K "Twice")) (.type "ValueError") = some true),
  fun K => decide (PySem.W.kitOne K (.ref (He.ga K "Unfinished")) (.ref (He.ga K "BadRow")) = some false),
  fun K => decide (PySem.W.kitOne K (.ref (He.ga K "Unfinished")) (.ref (He.ga K "Falling")) = some false),
  fun K => decide (PySem.W.kitOne K (.ref (He.ga K "Unfinished")) (.ref (He.ga K "Misplaced")) = some false),
  fun K => decide (PySem.W.kitOne K (.ref (He.ga K "Unfinished")) (.ref (He.ga K "NoEntry")) = some false),
  fun K => decide (PySem.W.kitOne K (.ref (He.ga K "Unfinished")) (.ref (He.ga K "NotLet")) = some false),
  fun K => decide (PySem.W.kitOne K (.ref (He.ga K "Unfinished")) (.ref (He.ga K "Twice")) = some false),
  fun K => decide (PySem.W.kitOne K (.ref (He.ga K "Unfinished")) (.ref (He.ga K "Unfinished")) = some true),
  fun K => decide (PySem.W.kitOne K (.ref (He.ga K "Unfinished")) (.type "ValueError") = some true),
  fun K => decide (PySem.W.findIn K (.ref (He.ga K "BadRow")) "place" = some none),
  fun K => decide (PySem.W.findIn K (.ref (He.ga K "Falling")) "place" = some none),
  fun K => decide (PySem.W.findIn K (.ref (He.ga K "Misplaced")) "place" = some none),
  fun K => decide (PySem.W.findIn K (.ref (He.ga K "Twice")) "place" = some none),
  fun K => decide (PySem.W.findIn K (.ref (He.ga K "Unfinished")) "place" = some none),
  fun K => oexB K (He.ga K "BadRow"),
  fun K => oexB K (He.ga K "Misplaced"),
  fun K => oexB K (He.ga K "Unfinished"),
  fun K => He.tupB K "BREAKERS" [.str "wins", .str "rate", .str "runs", .str "name"],
  fun K => excDB K (He.ga K "BadRow"),
  fun K => excDB K (He.ga K "Falling"),
  fun K => excDB K (He.ga K "Misplaced"),
  fun K => excDB K (He.ga K "NoEntry"),
  fun K => excDB K (He.ga K "NotLet"),
  fun K => excDB K (He.ga K "Twice"),
  fun K => excDB K (He.ga K "Unfinished")]
abbrev R : PySem.W.OpenRow := PySem.W.OpenLaw.row PySem.Challenge.rw_inningsbook_k71_leagues_refused
abbrev hk : PySem.W.Hook := hookX 4 fa fn xs
def ob (s : PySem.W.SharedT) : Bool × He.AlD := obsXG 4 fa fn xs (HandSHeadRun.getT s)
theorem ob_eq (s : PySem.W.SharedT) : ob s = hk.obs s.abs := obsXG_eq (HandSHeadRun.getT_eq s)
abbrev loose : List Str := (["BookError", "BadRow", "Misplaced", "Twice", "Unfinished", "Falling", "NotLet", "NoEntry", "MOST_FIGURES", "all_of", "is_keyword", "is_name", "number_in", "BREAKERS", "numbers_of", "points_row", "breaker_row", "game_row", "league_row", "read_league", "_law_at", "_law_mixed", "_law_names", "_law_breakers", "_law_small_game", "_law_games", "_law_league", "_law_is_name", "_law_is_number", "_law_fits"] : List Str) ++ (["_law_due", "_law_spoilt", "_law_refused"] : List Str)
theorem run (w : World) : HandSHeadRun.RunEq R (PySem.W.view R.prog [37]) hk ob 6000 loose w := by
  intro os
  kernel_rfl
theorem facts {P : Program} {w : World} {K : PySem.W.Frag} {h : Heap} {mg : Str → Option Value} {f : Addr} (X : K.In h) (G : h.Ns mainGlobals mg) (hfa : mg ("law" : Str) = some (.ref f)) (c : He.SaysD fa fn K) (cx : (xs.all fun f => f K) = true) :
    ∃ fd : FuncData, (∀ (s : Shared) (v : Value), BindsTo s fd ⟨[v], []⟩ [("_law_script", v)]) ∧ ∀ base : Heap, K.In base → base.Ns mainGlobals mg → FnOk P w K mg base CX0 8 f fd ["_law_script"] (sp_law K) := by
  have T : Txt K mg := ⟨He.free_ok X G (c.fact 27 (f := .free "ValueError") rfl), He.free_ok X G (c.fact 28 (f := .free "all") rfl), He.free_ok X G (c.fact 29 (f := .free "enumerate") rfl), He.free_ok X G (c.fact 30 (f := .free "int") rfl), He.free_ok X G (c.fact 31 (f := .free "isinstance") rfl), He.free_ok X G (c.fact 32 (f := .free "len") rfl), He.free_ok X G (c.fact 33 (f := .free "list") rfl), He.free_ok X G (c.fact 34 (f := .free "min") rfl), He.free_ok X G (c.fact 35 (f := .free "range") rfl), He.free_ok X G (c.fact 36 (f := .free "set") rfl), He.free_ok X G (c.fact 37 (f := .free "str") rfl), He.free_ok X G (c.fact 38 (f := .free "tuple") rfl), more_fact cx 0 (f := fun K => biB K (He.ga K "BookError")) rfl, He.glo_ok X G (c.fact 11 (f := .glo "BadRow") rfl), He.glo_ok X G (c.fact 41 (f := .glo "BookError") rfl), He.glo_ok X G (c.fact 42 (f := .glo "Falling") rfl), He.glo_ok X G (c.fact 12 (f := .glo "Misplaced") rfl), He.glo_ok X G (c.fact 43 (f := .glo "NoEntry") rfl), He.glo_ok X G (c.fact 44 (f := .glo "NotLet") rfl), He.glo_ok X G (c.fact 45 (f := .glo "Twice") rfl), He.glo_ok X G (c.fact 13 (f := .glo "Unfinished") rfl), of_decide_eq_true (more_fact cx 1 (f := fun K => decide (PySem.W.exmOne K (.ref (He.ga K "BadRow")) (.ref (He.ga K "BookError")) = some true)) rfl), of_decide_eq_true (more_fact cx 2 (f := fun K => decide (PySem.W.exmOne K (.ref (He.ga K "Falling")) (.ref (He.ga K "BookError")) = some true)) rfl), of_decide_eq_true (more_fact cx 3 (f := fun K => decide (PySem.W.exmOne K (.ref (He.ga K "Misplaced")) (.ref (He.ga K "BookError")) = some true)) rfl), of_decide_eq_true (more_fact cx 4 (f := fun K => decide (PySem.W.exmOne K (.ref (He.ga K "NoEntry")) (.ref (He.ga K "BookError")) = some true)) rfl), of_decide_eq_true (more_fact cx 5 (f := fun K => decide (PySem.W.exmOne K (.ref (He.ga K "NotLet")) (.ref (He.ga K "BookError")) = some true)) rfl), of_decide_eq_true (more_fact cx 6 (f := fun K => decide (PySem.W.exmOne K (.ref (He.ga K "Twice")) (.ref (He.ga K "BookError")) = some true)) rfl), of_decide_eq_true (more_fact cx 7 (f := fun K => decide (PySem.W.exmOne K (.ref (He.ga K "Unfinished")) (.ref (He.ga K "BookError")) = some true)) rfl), He.glo_ok X G (c.fact 39 (f := .glo "BREAKERS") rfl), He.int_ok X G (c.fact 40 (f := .int "MOST_FIGURES" 4) rfl), of_decide_eq_true (more_fact cx 14 (f := fun K => decide (PySem.W.kitOne K (.ref (He.ga K "BadRow")) (.ref (He.ga K "BadRow")) = some true)) rfl), of_decide_eq_true (more_fact cx 15 (f := fun K => decide (PySem.W.kitOne K (.ref (He.ga K "BadRow")) (.ref (He.ga K "Falling")) = some false)) rfl), of_decide_eq_true (more_fact cx 16 (f := fun K => decide (PySem.W.kitOne K (.ref (He.ga K "BadRow")) (.ref (He.ga K "Misplaced")) = some false)) rfl), of_decide_eq_true (more_fact cx 17 (f := fun K => decide (PySem.W.kitOne K (.ref (He.ga K "BadRow")) (.ref (He.ga K "NoEntry")) = some false)) rfl), of_decide_eq_true (more_fact cx 18 (f := fun K => decide (PySem.W.kitOne K (.ref (He.ga K "BadRow")) (.ref (He.ga K "NotLet")) = some false)) rfl), of_decide_eq_true (more_fact cx 19 (f := fun K => decide (PySem.W.kitOne K (.ref (He.ga K "BadRow")) (.ref (He.ga K "Twice")) = some false)) rfl), of_decide_eq_true (more_fact cx 20 (f := fun K => decide (PySem.W.kitOne K (.ref (He.ga K "BadRow")) (.ref (He.ga K "Unfinished")) = some false)) rfl), of_decide_eq_true (more_fact cx 21 (f := fun K => decide (PySem.W.kitOne K (.ref (He.ga K "BadRow")) (.type "ValueError") = some true)) rfl), of_decide_eq_true (more_fact cx 22 (f := fun K => decide (PySem.W.kitOne K (.ref (He.ga K "Falling")) (.ref (He.ga K "BadRow")) = some false)) rfl), of_decide_eq_true (more_fact cx 23 (f := fun K => decide (PySem.W.kitOne K (.ref (He.ga K "Falling")) (.ref (He.ga K "Falling")) = some true)) rfl), of_decide_eq_true (more_fact cx 24 (f := fun K => decide (PySem.W.kitOne K (.ref (He.ga K "Falling")) (.ref (He.ga K "Misplaced")) = some false)) rfl), of_decide_eq_true (more_fact cx 25 (f := fun K => decide (PySem.W.kitOne K (.ref (He.ga K "Falling")) (.ref (He.ga K "NoEntry")) = some false)) rfl), of_decide_eq_true (more_fact cx 26 (f := fun K => decide (PySem.W.kitOne K (.ref (He.ga K "Falling")) (.ref (He.ga K "NotLet")) = some false)) rfl), of_decide_eq_true (more_fact cx 27 (f := fun K => decide (PySem.W.kitOne K (.ref (He.ga K "Falling")) (.ref (He.ga K "Twice")) = some false)) rfl), of_decide_eq_true (more_fact cx 28 (f := fun K => decide (PySem.W.kitOne K (.ref (He.ga K "Falling")) (.ref (He.ga K "Unfinished")) = some false)) rfl), of_decide_eq_true (more_fact cx 29 (f := fun K => decide (PySem.W.kitOne K (.ref (He.ga K "Falling")) (.type "ValueError") = some true)) rfl), of_decide_eq_true (more_fact cx 30 (f := fun K => decide (PySem.W.kitOne K (.ref (He.ga K "Misplaced")) (.ref (He.ga K "BadRow")) = some false)) rfl), of_decide_eq_true (more_fact cx 31 (f := fun K => decide (PySem.W.kitOne K (.ref (He.ga K "Misplaced")) (.ref (He.ga K "Falling")) = some false)) rfl), of_decide_eq_true (more_fact cx 32 (f := fun K => decide (PySem.W.kitOne K (.ref (He.ga K "Misplaced")) (.ref (He.ga K "Misplaced")) = some true)) rfl), of_decide_eq_true (more_fact cx 33 (f := fun K => decide (PySem.W.kitOne K (.ref (He.ga K "Misplaced")) (.ref (He.ga K "NoEntry")) = some false)) rfl), of_decide_eq_true (more_fact cx 34 (f := fun K => decide (PySem.W.kitOne K (.ref (He.ga K "Misplaced")) (.ref (He.ga K "NotLet")) = some false)) rfl), of_decide_eq_true (more_fact cx 35 (f := fun K => decide (PySem.W.kitOne K (.ref (He.ga K "Misplaced")) (.ref (He.ga K "Twice")) = some false)) rfl), of_decide_eq_true (more_fact cx 36 (f := fun K => decide (PySem.W.kitOne K (.ref (He.ga K "Misplaced")) (.ref (He.ga K "Unfinished")) = some false)) rfl), of_decide_eq_true (more_fact cx 37 (f := fun K => decide (PySem.W.kitOne K (.ref (He.ga K "Misplaced")) (.type "ValueError") = some true)) rfl), of_decide_eq_true (more_fact cx 38 (f := fun K => decide (PySem.W.kitOne K (.ref (He.ga K "NoEntry")) (.ref (He.ga K "BadRow")) = some false)) rfl), of_decide_eq_true (more_fact cx 39 (f := fun K => decide (PySem.W.kitOne K (.ref (He.ga K "NoEntry")) (.ref (He.ga K "Falling")) = some false)) rfl), of_decide_eq_true (more_fact cx 40 (f := fun K => decide (PySem.W.kitOne K (.ref (He.ga K "NoEntry")) (.ref (He.ga K "Misplaced")) = some false)) rfl), of_decide_eq_true (more_fact cx 41 (f := fun K => decide (PySem.W.kitOne K (.ref (He.ga K "NoEntry")) (.ref (He.ga K "NoEntry")) = some true)) rfl), of_decide_eq_true (more_fact cx 42 (f := fun K => decide (PySem.W.kitOne K (.ref (He.ga K "NoEntry")) (.ref (He.ga K "NotLet")) = some false)) rfl), of_decide_eq_true (more_fact cx 43 (f := fun K => decide (PySem.W.kitOne K (.ref (He.ga K "NoEntry")) (.ref (He.ga K "Twice")) = some false)) rfl), of_decide_eq_true (more_fact cx 44 (f := fun K => decide (PySem.W.kitOne K (.ref (He.ga K "NoEntry")) (.ref (He.ga K "Unfinished")) = some false)) rfl), of_decide_eq_true (more_fact cx 45 (f := fun K => decide (PySem.W.kitOne K (.ref (He.ga K "NoEntry")) (.type "ValueError") = some true)) rfl), of_decide_eq_true (more_fact cx 46 (f := fun K => decide (PySem.W.kitOne K (.ref (He.ga K "NotLet")) (.ref (He.ga K "BadRow")) = some false)) rfl), of_decide_eq_true (more_fact cx 47 (f := fun K => decide (PySem.W.kitOne K (.ref (He.ga K "NotLet")) (.ref (He.ga K "Falling")) = some false)) rfl), of_decide_eq_true (more_fact cx 48 (f := fun K => decide (PySem.W.kitOne K (.ref (He.ga K "NotLet")) (.ref (He.ga K "Misplaced")) = some false)) rfl), of_decide_eq_true (more_fact cx 49 (f := fun K => decide (PySem.W.kitOne K (.ref (He.ga K "NotLet")) (.ref (He.ga K "NoEntry")) = some false)) rfl), of_decide_eq_true (more_fact cx 50 (f := fun K => decide (PySem.W.kitOne K (.ref (He.ga K "NotLet")) (.ref (He.ga K "NotLet")) = some true)) rfl), of_decide_eq_true (more_fact cx 51 (f := fun K => decide (PySem.W.kitOne K (.ref (He.ga K "NotLet")) (.ref (He.ga K "Twice")) = some false)) rfl), of_decide_eq_true (more_fact cx 52 (f := fun K => decide (PySem.W.kitOne K (.ref (He.ga K "NotLet")) (.ref (He.ga K "Unfinished")) = some false)) rfl), of_decide_eq_true (more_fact cx 53 (f := fun K => decide (PySem.W.kitOne K (.ref (He.ga K "NotLet")) (.type "ValueError") = some true)) rfl), of_decide_eq_true (more_fact cx 54 (f := fun K => decide (PySem.W.kitOne K (.ref (He.ga K "Twice")) (.ref (He.ga K "BadRow")) = some false)) rfl), of_decide_eq_true (more_fact cx 55 (f := fun K => decide (PySem.W.kitOne K (.ref (He.ga K "Twice")) (.ref (He.ga K "Falling")) = some false)) rfl), of_decide_eq_true (more_fact cx 56 (f := fun K => decide (PySem.W.kitOne K (.ref (He.ga K "Twice")) (.ref (He.ga K "Misplaced")) = some false)) rfl), of_decide_eq_true (more_fact cx 57 (f := fun K => decide (PySem.W.kitOne K (.ref (He.ga K "Twice")) (.ref (He.ga K "NoEntry")) = some false)) rfl), of_decide_eq_true (more_fact cx 58 (f := fun K => decide (PySem.W.kitOne K (.ref (He.ga K "Twice")) (.ref (He.ga K "NotLet")) = some false)) rfl), of_decide_eq_true (more_fact cx 59 (f := fun K => decide (PySem.W.kitOne K (.ref (He.ga K "Twice")) (.ref (He.ga K "Twice")) = some true)) rfl), of_decide_eq_true (more_fact cx 60 (f := fun K => decide (PySem.W.kitOne K (.ref (He.ga K "Twice")) (.ref (He.ga K "Unfinished")) = some false)) rfl), of_decide_eq_true (more_fact cx 61 (f := fun K => decide (PySem.W.kitOne K (.ref (He.ga K "Twice")) (.type "ValueError") = some true)) rfl), of_decide_eq_true (more_fact cx 62 (f := fun K => decide (PySem.W.kitOne K (.ref (He.ga K "Unfinished")) (.ref (He.ga K "BadRow")) = some false)) rfl), of_decide_eq_true (more_fact cx 63 (f := fun K => decide (PySem.W.kitOne K (.ref (He.ga K "Unfinished")) (.ref (He.ga K "Falling")) = some false)) rfl), of_decide_eq_true (more_fact cx 64 (f := fun K => decide (PySem.W.kitOne K (.ref (He.ga K "Unfinished")) (.ref (He.ga K "Misplaced")) = some false)) rfl), of_decide_eq_true (more_fact cx 65 (f := fun K => decide (PySem.W.kitOne K (.ref (He.ga K "Unfinished")) (.ref (He.ga K "NoEntry")) = some false)) rfl), of_decide_eq_true (more_fact cx 66 (f := fun K => decide (PySem.W.kitOne K (.ref (He.ga K "Unfinished")) (.ref (He.ga K "NotLet")) = some false)) rfl), of_decide_eq_true (more_fact cx 67 (f := fun K => decide (PySem.W.kitOne K (.ref (He.ga K "Unfinished")) (.ref (He.ga K "Twice")) = some false)) rfl), of_decide_eq_true (more_fact cx 68 (f := fun K => decide (PySem.W.kitOne K (.ref (He.ga K "Unfinished")) (.ref (He.ga K "Unfinished")) = some true)) rfl), of_decide_eq_true (more_fact cx 69 (f := fun K => decide (PySem.W.kitOne K (.ref (He.ga K "Unfinished")) (.type "ValueError") = some true)) rfl), of_decide_eq_true (more_fact cx 70 (f := fun K => decide (PySem.W.findIn K (.ref (He.ga K "BadRow")) "place" = some none)) rfl), of_decide_eq_true (more_fact cx 71 (f := fun K => decide (PySem.W.findIn K (.ref (He.ga K "Falling")) "place" = some none)) rfl), of_decide_eq_true (more_fact cx 72 (f := fun K => decide (PySem.W.findIn K (.ref (He.ga K "Misplaced")) "place" = some none)) rfl), of_decide_eq_true (more_fact cx 73 (f := fun K => decide (PySem.W.findIn K (.ref (He.ga K "Twice")) "place" = some none)) rfl), of_decide_eq_true (more_fact cx 74 (f := fun K => decide (PySem.W.findIn K (.ref (He.ga K "Unfinished")) "place" = some none)) rfl), oexB_ok (more_fact cx 75 (f := fun K => oexB K (He.ga K "BadRow")) rfl), oexB_ok (more_fact cx 76 (f := fun K => oexB K (He.ga K "Misplaced")) rfl), oexB_ok (more_fact cx 77 (f := fun K => oexB K (He.ga K "Unfinished")) rfl), He.tupB_ok (more_fact cx 78 (f := fun K => He.tupB K "BREAKERS" [.str "wins", .str "rate", .str "runs", .str "name"]) rfl), excDB_ok (more_fact cx 79 (f := fun K => excDB K (He.ga K "BadRow")) rfl), excDB_ok (more_fact cx 80 (f := fun K => excDB K (He.ga K "Falling")) rfl), excDB_ok (more_fact cx 81 (f := fun K => excDB K (He.ga K "Misplaced")) rfl), excDB_ok (more_fact cx 82 (f := fun K => excDB K (He.ga K "NoEntry")) rfl), excDB_ok (more_fact cx 83 (f := fun K => excDB K (He.ga K "NotLet")) rfl), excDB_ok (more_fact cx 84 (f := fun K => excDB K (He.ga K "Twice")) rfl), excDB_ok (more_fact cx 85 (f := fun K => excDB K (He.ga K "Unfinished")) rfl)⟩
  obtain ⟨fd__law_at, F__law_at⟩ := c.def_ 0 (d := D__law_at) rfl
  obtain ⟨fd__law_mixed, F__law_mixed⟩ := c.def_ 1 (d := D__law_mixed) rfl
  obtain ⟨fd__law_names, F__law_names⟩ := c.def_ 2 (d := D__law_names) rfl
  obtain ⟨fd__law_small_game, F__law_small_game⟩ := c.def_ 3 (d := D__law_small_game) rfl
  obtain ⟨fd__law_games, F__law_games⟩ := c.def_ 4 (d := D__law_games) rfl
  obtain ⟨fd__law_breakers, F__law_breakers⟩ := c.def_ 5 (d := D__law_breakers) rfl
  obtain ⟨fd__law_league, F__law_league⟩ := c.def_ 6 (d := D__law_league) rfl
  obtain ⟨fd_all_of, F_all_of⟩ := c.def_ 7 (d := D_all_of) rfl
  obtain ⟨fd_number_in, F_number_in⟩ := c.def_ 8 (d := D_number_in) rfl
  obtain ⟨fd_is_keyword, F_is_keyword⟩ := c.def_ 9 (d := D_is_keyword) rfl
  obtain ⟨fd_is_name, F_is_name⟩ := c.def_ 10 (d := D_is_name) rfl
  obtain ⟨fd_BadRow_init, F_BadRow_init⟩ := c.def_ 11 (d := D_BadRow_init) rfl
  obtain ⟨fd_Misplaced_init, F_Misplaced_init⟩ := c.def_ 12 (d := D_Misplaced_init) rfl
  obtain ⟨fd_Unfinished_init, F_Unfinished_init⟩ := c.def_ 13 (d := D_Unfinished_init) rfl
  obtain ⟨fd_numbers_of, F_numbers_of⟩ := c.def_ 14 (d := D_numbers_of) rfl
  obtain ⟨fd_points_row, F_points_row⟩ := c.def_ 15 (d := D_points_row) rfl
  obtain ⟨fd_breaker_row, F_breaker_row⟩ := c.def_ 16 (d := D_breaker_row) rfl
  obtain ⟨fd_game_row, F_game_row⟩ := c.def_ 17 (d := D_game_row) rfl
  obtain ⟨fd_league_row, F_league_row⟩ := c.def_ 18 (d := D_league_row) rfl
  obtain ⟨fd_read_league, F_read_league⟩ := c.def_ 19 (d := D_read_league) rfl
  obtain ⟨fd__law_is_number, F__law_is_number⟩ := c.def_ 20 (d := D__law_is_number) rfl
  obtain ⟨fd__law_is_name, F__law_is_name⟩ := c.def_ 21 (d := D__law_is_name) rfl
  obtain ⟨fd__law_fits, F__law_fits⟩ := c.def_ 22 (d := D__law_fits) rfl
  obtain ⟨fd__law_spoilt, F__law_spoilt⟩ := c.def_ 23 (d := D__law_spoilt) rfl
  obtain ⟨fd__law_due, F__law_due⟩ := c.def_ 24 (d := D__law_due) rfl
  obtain ⟨fd__law_refused, F__law_refused⟩ := c.def_ 25 (d := D__law_refused) rfl
  obtain ⟨fd_law, F_law⟩ := c.def_ 26 (d := D_law) rfl
  have e := hfa.symm.trans (He.glo_ok X G (c.fact 26 (f := .glo "law") rfl))
  cases e
  have b := FunD.bindsA (ps := ["_law_script"]) F_law fun _ _ _ _ _ _ us hl => match us, hl with | [_], _ => rfl
  refine ⟨fd_law, fun s v => b s [v] rfl, fun base hb hn => ?_⟩
  have d__law_at : Dn P w K mg base CX0 1 "_law_at" ["_law_script", "_law_k"] [] (sp__law_at K) := ⟨⟨_, _, [], ok__law_at F__law_at T , He.glo_ok X G (c.fact 0 (f := .glo "_law_at") rfl), F__law_at.kp, FunD.bindsN F__law_at fun _ _ _ _ _ _ us hl => match us, hl with | [_, _], _ => rfl, .nil⟩⟩
  have d__law_mixed : Dn P w K mg base CX0 1 "_law_mixed" ["_law_cell", "_law_k"] [] (sp__law_mixed K) := ⟨⟨_, _, [], ok__law_mixed F__law_mixed T , He.glo_ok X G (c.fact 1 (f := .glo "_law_mixed") rfl), F__law_mixed.kp, FunD.bindsN F__law_mixed fun _ _ _ _ _ _ us hl => match us, hl with | [_, _], _ => rfl, .nil⟩⟩
  have d__law_names : Dn P w K mg base CX0 2 "_law_names" ["_law_cell", "_law_many"] [] (sp__law_names K) := ⟨⟨_, _, [], ok__law_names F__law_names T d__law_mixed, He.glo_ok X G (c.fact 2 (f := .glo "_law_names") rfl), F__law_names.kp, FunD.bindsN F__law_names fun _ _ _ _ _ _ us hl => match us, hl with | [_, _], _ => rfl, .nil⟩⟩
  have d__law_small_game : Dn P w K mg base CX0 1 "_law_small_game" ["_law_names_here", "_law_n"] [] (sp__law_small_game K) := ⟨⟨_, _, [], ok__law_small_game F__law_small_game T , He.glo_ok X G (c.fact 3 (f := .glo "_law_small_game") rfl), F__law_small_game.kp, FunD.bindsN F__law_small_game fun _ _ _ _ _ _ us hl => match us, hl with | [_, _], _ => rfl, .nil⟩⟩
  have d__law_games : Dn P w K mg base CX0 2 "_law_games" ["_law_script", "_law_names_here", "_law_most"] [] (sp__law_games K) := ⟨⟨_, _, [], ok__law_games F__law_games T d__law_at d__law_small_game d__law_mixed, He.glo_ok X G (c.fact 4 (f := .glo "_law_games") rfl), F__law_games.kp, FunD.bindsN F__law_games fun _ _ _ _ _ _ us hl => match us, hl with | [_, _, _], _ => rfl, .nil⟩⟩
  have d__law_breakers : Dn P w K mg base CX0 1 "_law_breakers" ["_law_n"] [] (sp__law_breakers K) := ⟨⟨_, _, [], ok__law_breakers F__law_breakers T , He.glo_ok X G (c.fact 5 (f := .glo "_law_breakers") rfl), F__law_breakers.kp, FunD.bindsN F__law_breakers fun _ _ _ _ _ _ us hl => match us, hl with | [_], _ => rfl, .nil⟩⟩
  have d__law_league : Dn P w K mg base CX0 3 "_law_league" ["_law_script", "_law_most"] [] (sp__law_league K) := ⟨⟨_, _, [], ok__law_league F__law_league T d__law_names d__law_at d__law_breakers d__law_games, He.glo_ok X G (c.fact 6 (f := .glo "_law_league") rfl), F__law_league.kp, FunD.bindsN F__law_league fun _ _ _ _ _ _ us hl => match us, hl with | [_, _], _ => rfl, .nil⟩⟩
  have d_all_of : Dn P w K mg base CX0 1 "all_of" ["word", "some"] [] (sp_all_of K) := ⟨⟨_, _, [], ok_all_of F_all_of T , He.glo_ok X G (c.fact 7 (f := .glo "all_of") rfl), F_all_of.kp, FunD.bindsN F_all_of fun _ _ _ _ _ _ us hl => match us, hl with | [_, _], _ => rfl, .nil⟩⟩
  have d_number_in : Dn P w K mg base CX0 2 "number_in" ["word"] [] (sp_number_in K) := ⟨⟨_, _, [], ok_number_in F_number_in T d_all_of, He.glo_ok X G (c.fact 8 (f := .glo "number_in") rfl), F_number_in.kp, FunD.bindsN F_number_in fun _ _ _ _ _ _ us hl => match us, hl with | [_], _ => rfl, .nil⟩⟩
  have d_is_keyword : Dn P w K mg base CX0 1 "is_keyword" ["word"] [] (sp_is_keyword K) := ⟨⟨_, _, [], ok_is_keyword F_is_keyword T , He.glo_ok X G (c.fact 9 (f := .glo "is_keyword") rfl), F_is_keyword.kp, FunD.bindsN F_is_keyword fun _ _ _ _ _ _ us hl => match us, hl with | [_], _ => rfl, .nil⟩⟩
  have d_is_name : Dn P w K mg base CX0 2 "is_name" ["word"] [] (sp_is_name K) := ⟨⟨_, _, [], ok_is_name F_is_name T d_all_of d_is_keyword, He.glo_ok X G (c.fact 10 (f := .glo "is_name") rfl), F_is_name.kp, FunD.bindsN F_is_name fun _ _ _ _ _ _ us hl => match us, hl with | [_], _ => rfl, .nil⟩⟩
  have ok_BadRow_init' := ok_BadRow_init (P := P) (w := w) (base := base) F_BadRow_init T 
  obtain ⟨ds_x_BadRow_2, hv_x_BadRow_2, hb_x_BadRow_2⟩ := (⟨[], .nil, FunD.bindsN F_BadRow_init fun _ _ _ _ _ _ us hl => match us, hl with | [_, _, _], _ => rfl⟩ : ∃ ds, Vals [] ds ∧ Binds K fd_BadRow_init ["self", "words", "place"] ds)
  have x_BadRow_2 : XkD P w K mg base 1 (He.ga K "BadRow") "BadRow" ["self", "words", "place"] [] (sp_BadRow_init K) := ⟨⟨_, _, ds_x_BadRow_2, ok_BadRow_init', T.oex_BadRow, of_decide_eq_true (more_fact cx 11 (f := fun K => decide (PySem.W.findIn K (.ref (He.ga K "BadRow")) "__init__" = some (some (.ref (He.ma K (He.ga K "BadRow") "__init__"))))) rfl), of_decide_eq_true (more_fact cx 8 (f := fun K => decide (PySem.W.typeIn K (.ref (He.ma K (He.ga K "BadRow") "__init__")) = some (.type "function"))) rfl), He.glo_ok X G (c.fact 11 (f := .glo "BadRow") rfl), hb_x_BadRow_2, hv_x_BadRow_2⟩⟩
  have ok_Misplaced_init' := ok_Misplaced_init (P := P) (w := w) (base := base) F_Misplaced_init T 
  obtain ⟨ds_x_Misplaced_2, hv_x_Misplaced_2, hb_x_Misplaced_2⟩ := (⟨[], .nil, FunD.bindsN F_Misplaced_init fun _ _ _ _ _ _ us hl => match us, hl with | [_, _, _], _ => rfl⟩ : ∃ ds, Vals [] ds ∧ Binds K fd_Misplaced_init ["self", "words", "place"] ds)
  have x_Misplaced_2 : XkD P w K mg base 1 (He.ga K "Misplaced") "Misplaced" ["self", "words", "place"] [] (sp_Misplaced_init K) := ⟨⟨_, _, ds_x_Misplaced_2, ok_Misplaced_init', T.oex_Misplaced, of_decide_eq_true (more_fact cx 12 (f := fun K => decide (PySem.W.findIn K (.ref (He.ga K "Misplaced")) "__init__" = some (some (.ref (He.ma K (He.ga K "Misplaced") "__init__"))))) rfl), of_decide_eq_true (more_fact cx 9 (f := fun K => decide (PySem.W.typeIn K (.ref (He.ma K (He.ga K "Misplaced") "__init__")) = some (.type "function"))) rfl), He.glo_ok X G (c.fact 12 (f := .glo "Misplaced") rfl), hb_x_Misplaced_2, hv_x_Misplaced_2⟩⟩
  have ok_Unfinished_init' := ok_Unfinished_init (P := P) (w := w) (base := base) F_Unfinished_init T 
  obtain ⟨ds_x_Unfinished_2, hv_x_Unfinished_2, hb_x_Unfinished_2⟩ := (⟨[], .nil, FunD.bindsN F_Unfinished_init fun _ _ _ _ _ _ us hl => match us, hl with | [_, _, _], _ => rfl⟩ : ∃ ds, Vals [] ds ∧ Binds K fd_Unfinished_init ["self", "words", "place"] ds)
  have x_Unfinished_2 : XkD P w K mg base 1 (He.ga K "Unfinished") "Unfinished" ["self", "words", "place"] [] (sp_Unfinished_init K) := ⟨⟨_, _, ds_x_Unfinished_2, ok_Unfinished_init', T.oex_Unfinished, of_decide_eq_true (more_fact cx 13 (f := fun K => decide (PySem.W.findIn K (.ref (He.ga K "Unfinished")) "__init__" = some (some (.ref (He.ma K (He.ga K "Unfinished") "__init__"))))) rfl), of_decide_eq_true (more_fact cx 10 (f := fun K => decide (PySem.W.typeIn K (.ref (He.ma K (He.ga K "Unfinished") "__init__")) = some (.type "function"))) rfl), He.glo_ok X G (c.fact 13 (f := .glo "Unfinished") rfl), hb_x_Unfinished_2, hv_x_Unfinished_2⟩⟩
  have d_numbers_of : Dn P w K mg base CX0 3 "numbers_of" ["words"] [] (sp_numbers_of K) := ⟨⟨_, _, [], ok_numbers_of F_numbers_of T d_number_in, He.glo_ok X G (c.fact 14 (f := .glo "numbers_of") rfl), F_numbers_of.kp, FunD.bindsN F_numbers_of fun _ _ _ _ _ _ us hl => match us, hl with | [_], _ => rfl, .nil⟩⟩
  have d_points_row : Dn P w K mg base CX0 4 "points_row" ["words"] [] (sp_points_row K) := ⟨⟨_, _, [], ok_points_row F_points_row T d_numbers_of, He.glo_ok X G (c.fact 15 (f := .glo "points_row") rfl), F_points_row.kp, FunD.bindsN F_points_row fun _ _ _ _ _ _ us hl => match us, hl with | [_], _ => rfl, .nil⟩⟩
  have d_breaker_row : Dn P w K mg base CX0 1 "breaker_row" ["words"] [] (sp_breaker_row K) := ⟨⟨_, _, [], ok_breaker_row F_breaker_row T , He.glo_ok X G (c.fact 16 (f := .glo "breaker_row") rfl), F_breaker_row.kp, FunD.bindsN F_breaker_row fun _ _ _ _ _ _ us hl => match us, hl with | [_], _ => rfl, .nil⟩⟩
  have d_game_row : Dn P w K mg base CX0 4 "game_row" ["words"] [] (sp_game_row K) := ⟨⟨_, _, [], ok_game_row F_game_row T d_numbers_of d_is_name, He.glo_ok X G (c.fact 17 (f := .glo "game_row") rfl), F_game_row.kp, FunD.bindsN F_game_row fun _ _ _ _ _ _ us hl => match us, hl with | [_], _ => rfl, .nil⟩⟩
  have d_league_row : Dn P w K mg base (L2.CX P w) 5 "league_row" ["words", "place"] [] (sp_league_row K) := ⟨⟨_, _, [], ok_league_row F_league_row T d_points_row d_breaker_row d_game_row x_BadRow_2, He.glo_ok X G (c.fact 18 (f := .glo "league_row") rfl), F_league_row.kp, FunD.bindsN F_league_row fun _ _ _ _ _ _ us hl => match us, hl with | [_, _], _ => rfl, .nil⟩⟩
  have d_read_league : Dn P w K mg base (L2.CX P w) 6 "read_league" ["text"] [] (sp_read_league K) := ⟨⟨_, _, [], ok_read_league F_read_league T d_league_row x_Misplaced_2 x_Unfinished_2, He.glo_ok X G (c.fact 19 (f := .glo "read_league") rfl), F_read_league.kp, FunD.bindsN F_read_league fun _ _ _ _ _ _ us hl => match us, hl with | [_], _ => rfl, .nil⟩⟩
  have d__law_is_number : Dn P w K mg base CX0 1 "_law_is_number" ["_law_word", "_law_least"] [] (sp__law_is_number K) := ⟨⟨_, _, [], ok__law_is_number F__law_is_number T , He.glo_ok X G (c.fact 20 (f := .glo "_law_is_number") rfl), F__law_is_number.kp, FunD.bindsN F__law_is_number fun _ _ _ _ _ _ us hl => match us, hl with | [_, _], _ => rfl, .nil⟩⟩
  have d__law_is_name : Dn P w K mg base CX0 1 "_law_is_name" ["_law_word"] [] (sp__law_is_name K) := ⟨⟨_, _, [], ok__law_is_name F__law_is_name T , He.glo_ok X G (c.fact 21 (f := .glo "_law_is_name") rfl), F__law_is_name.kp, FunD.bindsN F__law_is_name fun _ _ _ _ _ _ us hl => match us, hl with | [_], _ => rfl, .nil⟩⟩
  have d__law_fits : Dn P w K mg base CX0 2 "_law_fits" ["_law_words"] [] (sp__law_fits K) := ⟨⟨_, _, [], ok__law_fits F__law_fits T d__law_is_name d__law_is_number, He.glo_ok X G (c.fact 22 (f := .glo "_law_fits") rfl), F__law_fits.kp, FunD.bindsN F__law_fits fun _ _ _ _ _ _ us hl => match us, hl with | [_], _ => rfl, .nil⟩⟩
  have d__law_spoilt : Dn P w K mg base CX0 1 "_law_spoilt" ["_law_rows", "_law_names_here", "_law_n"] [] (sp__law_spoilt K) := ⟨⟨_, _, [], ok__law_spoilt F__law_spoilt T , He.glo_ok X G (c.fact 23 (f := .glo "_law_spoilt") rfl), F__law_spoilt.kp, FunD.bindsN F__law_spoilt fun _ _ _ _ _ _ us hl => match us, hl with | [_, _, _], _ => rfl, .nil⟩⟩
  have d__law_due : Dn P w K mg base CX0 3 "_law_due" ["_law_rows"] [] (sp__law_due K) := ⟨⟨_, _, [], ok__law_due F__law_due T d__law_fits, He.glo_ok X G (c.fact 24 (f := .glo "_law_due") rfl), F__law_due.kp, FunD.bindsN F__law_due fun _ _ _ _ _ _ us hl => match us, hl with | [_], _ => rfl, .nil⟩⟩
  have d__law_refused : Dn P w K mg base CX0 7 "_law_refused" ["_law_text"] [] (sp__law_refused K) := ⟨⟨_, _, [], ok__law_refused F__law_refused T d_read_league, He.glo_ok X G (c.fact 25 (f := .glo "_law_refused") rfl), F__law_refused.kp, FunD.bindsN F__law_refused fun _ _ _ _ _ _ us hl => match us, hl with | [_], _ => rfl, .nil⟩⟩
  exact ok_law F_law T d__law_league d__law_names d__law_at d__law_mixed d__law_refused d__law_spoilt d__law_due
end L2.Toy
open PySem PySem.W PySem.Calls PyProof.Rows
set_option maxRecDepth 100000 in
set_option maxHeartbeats 0 in
theorem PySem.Challenge.cw_inningsbook_k71_leagues_refused_holds : PySem.Challenge.rw_inningsbook_k71_leagues_refused.Holds := by
  w_on; o_law
  refine HandSHeadRun.head_any (r := OpenLaw.row PySem.Challenge.rw_inningsbook_k71_leagues_refused) (q := view (OpenLaw.row PySem.Challenge.rw_inningsbook_k71_leagues_refused).prog [37]) (H := L2.Toy.hk) (ob := L2.Toy.ob) (M := 6000) (loose := L2.Toy.loose) (d := HandSHeadRun.topDef (OpenLaw.row PySem.Challenge.rw_inningsbook_k71_leagues_refused).prog 37) (kwd := []) L2.Toy.ob_eq
    (by kernel_rfl) (fun s => by kernel_rfl) L2.Toy.run (by kernel_rfl) (by kernel_rfl) (by kernel_rfl) (by rfl) (by first | assumption | decide +kernel) (by decide +kernel) ⟨rfl, rfl, rfl, rfl, rfl, by decide +kernel⟩ ?hw ?hc
  case hw => w_witness2
  case hc =>
    refine L2.walk_ofE (l := PySem.Challenge.rw_inningsbook_k71_leagues_refused) (n := 63) (k := 8) (x := "_law_script") (CX := L2.CX0) rfl (by decide) (by kernel_rfl) ⟨rfl, by decide, by decide⟩ ?F (fun _ _ _ _ z => z)
    intro w mg fa h Y G hmg0
    obtain ⟨K, KX, c, cx⟩ := Y
    have hmg : mg ("law" : PySem.Str) = some (.ref fa) := by
      have e : (HandSHeadRun.topDef (OpenLaw.row PySem.Challenge.rw_inningsbook_k71_leagues_refused).prog 37).name = ("law" : PySem.Str) := by kernel_rfl
      rw [← e]
      exact hmg0
    obtain ⟨fd, hb, hF⟩ := L2.Toy.facts (P := (PySem.Challenge.rw_inningsbook_k71_leagues_refused).prog) (w := w) KX G hmg c cx
    exact ⟨K, fd, L2.Toy.sp_law K, KX, hb, fun H a ns hl _ hS => ⟨L2.V.ref a, rfl, a, ns, rfl, hS, hl, fun _ => rfl⟩, hF⟩
#print axioms PySem.Challenge.cw_inningsbook_k71_leagues_refused_holds

