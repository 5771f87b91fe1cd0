import PyProof.Rows.All
import Wide.All
import OpenK.AllK
import Wide.FinOn
import HandS.ForMost
import HandS.ForExc
import HandS.IsInst
import HandS.Codes
import HandS.Flow
import HandS.Style
import HandS.Walk
import HandS.Conv
import HandS.Zip
import HandS.TupAny
import HandS.TupMul
import HandS.CallLocal
import HandS.TryMany
import HandS.ExcOwn
import HandS.ExcInit
import HandS.Words
import HandS.WordsExc
import HandS.SlotsOwn
import HandS.OwnEq
import HandS.ExcField
import HandS.FStr
import HandS.Defaults
import KE.GoesEnum
import KE.GoesZip
import KE.GoesMore
import HandS.TryOnly
import HandS.StrMore
import HandS.Text
import KE.GoesRaise
import KE.GoesComp
import HandS.List
import PySem.Challenge.RW_motionroads_k02_whole_rows_and_texts_of
set_option Elab.async false
set_option linter.all false
set_option maxRecDepth 100000
/-! Sx: readings without terms: what an expression, a test, a statement brings, goal by goal. -/
namespace Sx
abbrev Sl := L2.St
open PySem PySem.Spec PyProof.Rows L2

/-! ### slots by name -/
class inductive Var : List Str → Sl → Str → outParam V → outParam Nat → Prop
  | z {N : List Str} {σ : Sl} {x : Str} {v : V} : Var (x :: N) (some v :: σ) x v 0
  | s {N : List Str} {σ : Sl} {x y : Str} {v : V} {o : Option V} {i : Nat} (h : Var N σ x v i) : Var (y :: N) (o :: σ) x v (i + 1)
instance (priority := high) Var.iz {N : List Str} {σ : Sl} {x : Str} {v : V} : Var (x :: N) (some v :: σ) x v 0 := .z
instance (priority := low) Var.is {N : List Str} {σ : Sl} {x y : Str} {v : V} {o : Option V} {i : Nat} [h : Var N σ x v i] : Var (y :: N) (o :: σ) x v (i + 1) := .s h
theorem Var.n {N : List Str} {σ : Sl} {x : Str} {v : V} {i : Nat} (h : Var N σ x v i) : N[i]? = some x := by
  induction h with
  | z => rfl
  | s _ ih => simpa using ih
theorem Var.v {N : List Str} {σ : Sl} {x : Str} {v : V} {i : Nat} (h : Var N σ x v i) : σ[i]? = some (some v) := by
  induction h with
  | z => rfl
  | s _ ih => simpa using ih
class inductive Put : List Str → Sl → Str → V → outParam Sl → outParam Nat → Prop
  | z {N : List Str} {σ : Sl} {x : Str} {v : V} {o : Option V} : Put (x :: N) (o :: σ) x v (some v :: σ) 0
  | s {N : List Str} {σ σ' : Sl} {x y : Str} {v : V} {o : Option V} {i : Nat} (h : Put N σ x v σ' i) : Put (y :: N) (o :: σ) x v (o :: σ') (i + 1)
instance (priority := high) Put.iz {N : List Str} {σ : Sl} {x : Str} {v : V} {o : Option V} : Put (x :: N) (o :: σ) x v (some v :: σ) 0 := .z
instance (priority := low) Put.is {N : List Str} {σ σ' : Sl} {x y : Str} {v : V} {o : Option V} {i : Nat} [h : Put N σ x v σ' i] : Put (y :: N) (o :: σ) x v (o :: σ') (i + 1) := .s h
theorem Put.n {N : List Str} {σ σ' : Sl} {x : Str} {v : V} {i : Nat} (h : Put N σ x v σ' i) : N[i]? = some x := by
  induction h with
  | z => rfl
  | s _ ih => simpa using ih
theorem Put.v {N : List Str} {σ σ' : Sl} {x : Str} {v : V} {i : Nat} (h : Put N σ x v σ' i) : σ.set i (some v) = σ' := by
  induction h with
  | z => rfl
  | s _ ih => simp [ih]
class inductive Ix : List Str → outParam Nat → Str → Prop
  | z {N : List Str} {x : Str} : Ix (x :: N) 0 x
  | s {N : List Str} {x y : Str} {i : Nat} (h : Ix N i x) : Ix (y :: N) (i + 1) x
instance (priority := high) Ix.iz {N : List Str} {x : Str} : Ix (x :: N) 0 x := .z
instance (priority := low) Ix.is {N : List Str} {x y : Str} {i : Nat} [h : Ix N i x] : Ix (y :: N) (i + 1) x := .s h
theorem Ix.n {N : List Str} {i : Nat} {x : Str} (h : Ix N i x) : N[i]? = some x := by
  induction h with
  | z => rfl
  | s _ ih => simpa using ih
/-- what the built-in names hold -/
class BB (x : Str) (u : outParam Value) : Prop where
  h : bootBuiltins x = some u
instance : BB "abs" (.builtin "abs") := ⟨by decide +kernel⟩
instance : BB "len" (.builtin "len") := ⟨by decide +kernel⟩
instance : BB "isinstance" (.builtin "isinstance") := ⟨by decide +kernel⟩
instance : BB "all" (.builtin "all") := ⟨by decide +kernel⟩
instance : BB "any" (.builtin "any") := ⟨by decide +kernel⟩
instance : BB "sum" (.builtin "sum") := ⟨by decide +kernel⟩
instance : BB "sorted" (.builtin "sorted") := ⟨by decide +kernel⟩
instance : BB "max" (.builtin "max") := ⟨by decide +kernel⟩
instance : BB "min" (.builtin "min") := ⟨by decide +kernel⟩
instance : BB "int" (.type "int") := ⟨by decide +kernel⟩
instance : BB "str" (.type "str") := ⟨by decide +kernel⟩
instance : BB "bool" (.type "bool") := ⟨by decide +kernel⟩
instance : BB "list" (.type "list") := ⟨by decide +kernel⟩
instance : BB "tuple" (.type "tuple") := ⟨by decide +kernel⟩
instance : BB "dict" (.type "dict") := ⟨by decide +kernel⟩
instance : BB "set" (.type "set") := ⟨by decide +kernel⟩
/-- a def as its callers see it: no exception leaves it -/
structure Cal (P : Program) (w : World) (K : PySem.W.Frag) (mg : Str → Option Value) (base : Heap) (k : Nat) (x : Str) (sp : Sp) (dvs : List V) : Prop where
  ex : ∃ (f : Addr) (fd : FuncData) (ps : List Str) (ds : List Value), FnOk P w K mg base CX0 k f fd ps sp ∧ mg x = some (.ref f) ∧ PySem.W.keepIn K (.ref f) = true ∧ Binds K fd ps ds ∧ Vals dvs ds
/-- .. errors may leave it -/
structure CalX (P : Program) (w : World) (K : PySem.W.Frag) (mg : Str → Option Value) (base : Heap) (k : Nat) (x : Str) (sp : Sp) (dvs : List V) : Prop where
  ex : ∃ (f : Addr) (fd : FuncData) (ps : List Str) (ds : List Value), FnOk P w K mg base (L2.CX P w) k f fd ps sp ∧ mg x = some (.ref f) ∧ PySem.W.keepIn K (.ref f) = true ∧ Binds K fd ps ds ∧ Vals dvs ds

/-! ### what is wanted -/
section
variable (X : Cx)
def QE (e : Expr) (σ : Sl) (H : Hp) (Q : VK) : Prop := ∀ (pins : List (Addr × Obj)) (s : Shared), Inv X pins σ H s → wpAny (model X.prog X.w) X.A (eval e X.env) (EP X pins σ Q) X.xe s
def QT (e : Expr) (σ : Sl) (H : Hp) (Q : Bool → Hp → Prop) : Prop := ∀ (pins : List (Addr × Obj)) (s : Shared), Inv X pins σ H s → wpAny (model X.prog X.w) X.A (isTrue e X.env (eval e X.env)) (TP X pins σ Q) X.xe s
def QW (e : Expr) (σ : Sl) (H : Hp) (Q : Bool → Hp → Prop) : Prop := ∀ (wh : Sem Value) (pins : List (Addr × Obj)) (s : Shared), Inv X pins σ H s → wpAny (model X.prog X.w) X.A (isTrue e X.env wh) (TP X pins σ Q) X.xe s
def QA (es : List Expr) (σ : Sl) (H : Hp) (Q : List V → Hp → Prop) : Prop := ∀ (pos : Pos) (pins : List (Addr × Obj)) (s : Shared), Inv X pins σ H s → wpAny (model X.prog X.w) X.A (spliced (backTo pos (starEach es X.env))) (AP X pins σ Q) X.xe s
def QS (st : Stmt) (D : Ends) (σ : Sl) (H : Hp) : Prop := ∀ (pins : List (Addr × Obj)) (s : Shared), Inv X pins σ H s → wpAny (model X.prog X.w) X.A (exec st X.env) (SP X pins D) X.xe s
def QB (sts : List Stmt) (D : Ends) (σ : Sl) (H : Hp) : Prop := ∀ (pins : List (Addr × Obj)) (s : Shared), Inv X pins σ H s → wpAny (model X.prog X.w) X.A (execs sts X.env) (SP X pins D) X.xe s
def QG (tg : Expr) (v : V) (σ : Sl) (H : Hp) (Q : Sl → Hp → Prop) : Prop := ∀ (pins : List (Addr × Obj)) (s : Shared) (u : Value), Inv X pins σ H s → RelV v u → wpAny (model X.prog X.w) X.A (assign tg X.env u) (fun _ s' => ∃ σ' H', Inv X pins σ' H' s' ∧ Q σ' H') X.xe s
def QGs (tgs : List Expr) (vs : List V) (σ : Sl) (H : Hp) (Q : Sl → Hp → Prop) : Prop := ∀ (pins : List (Addr × Obj)) (s : Shared) (us : List Value), Inv X pins σ H s → Vals vs us → wpAny (model X.prog X.w) X.A (assignInOrder ((assignEach tgs X.env).map (·.2)) us) (fun _ s' => ∃ σ' H', Inv X pins σ' H' s' ∧ Q σ' H') X.xe s
/-- a two-place operation at two values -/
def OpW (f : Value → Value → Sem Value) (x y : V) (H : Hp) (Q : VK) : Prop := ∀ (pins : List (Addr × Obj)) (s : Shared) (σ : Sl) (v u : Value), Inv X pins σ H s → RelV x v → RelV y u → wpAny (model X.prog X.w) X.A (f v u) (EP X pins σ Q) X.xe s
def UnW (f : Value → Sem Value) (x : V) (H : Hp) (Q : VK) : Prop := ∀ (pins : List (Addr × Obj)) (s : Shared) (σ : Sl) (v : Value), Inv X pins σ H s → RelV x v → wpAny (model X.prog X.w) X.A (f v) (EP X pins σ Q) X.xe s
def CallW (f : Value) (xs : List V) (H : Hp) (Q : VK) : Prop := ∀ (pins : List (Addr × Obj)) (s : Shared) (σ : Sl) (us : List Value), Inv X pins σ H s → Vals xs us → wpAny (model X.prog X.w) X.A (call f us) (EP X pins σ Q) X.xe s
end

section
variable {X : Cx} {e a b c : Expr} {es : List Expr} {σ σ' : Sl} {H : Hp} {Q : VK} {pos p : Pos} {t : TE} {x : Str} {v : V}
theorem pe_sem : PE X e (QE X e) := ⟨fun pins s _ _ _ I h => h pins s I⟩
theorem pt_sem : PT X e (QT X e) := ⟨fun pins s _ _ _ I h => h pins s I⟩
theorem pw_sem : PW X e (QW X e) := ⟨fun wh pins s _ _ _ I h => h wh pins s I⟩
theorem pa_sem : PA X es (QA X es) := ⟨fun pos pins s _ _ _ I h => h pos pins s I⟩
theorem ps_sem {st : Stmt} : PS X st (QS X st) := ⟨fun pins s _ _ _ I h => h pins s I⟩
theorem pss_sem {sts : List Stmt} : PSs X sts (QB X sts) := ⟨fun pins s _ _ _ I h => h pins s I⟩
theorem pg_sem {tg : Expr} : PG X tg (QG X tg) := ⟨fun pins s _ _ _ u _ I r h => h pins s u I r⟩
theorem pgs_sem {tgs : List Expr} : PGs X tgs (QGs X tgs) := ⟨fun pins s _ _ _ us _ I r h => h pins s us I r⟩
theorem op_sem {f : Value → Value → Sem Value} : OpR X f (OpW X f) := fun pins s σ _ _ _ v u _ I rx ry h => h pins s σ v u I rx ry
theorem un_sem {f : Value → Sem Value} : UnR X f (UnW X f) := fun pins s σ _ _ v _ I rx h => h pins s σ v I rx
theorem call_sem {f : Value} : CallR X f (CallW X f) := fun pins s σ _ _ us _ I r h => h pins s σ us I r
theorem we_of (h : PE X e t) (q : t σ H Q) : QE X e σ H Q := fun pins s I => h.run pins s σ H Q I q
theorem wt_of {t : TT} {Q : Bool → Hp → Prop} (h : PT X e t) (q : t σ H Q) : QT X e σ H Q := fun pins s I => h.run pins s σ H Q I q
theorem ww_of {t : TT} {Q : Bool → Hp → Prop} (h : PW X e t) (q : t σ H Q) : QW X e σ H Q := fun wh pins s I => h.run wh pins s σ H Q I q
theorem wa_of {t : TA} {Q : List V → Hp → Prop} (h : PA X es t) (q : t σ H Q) : QA X es σ H Q := fun pos pins s I => h.run pos pins s σ H Q I q
theorem ws_of {st : Stmt} {t : TS} {D : Ends} (h : PS X st t) (q : t D σ H) : QS X st D σ H := fun pins s I => h.run pins s σ H D I q
theorem wss_of {sts : List Stmt} {t : TS} {D : Ends} (h : PSs X sts t) (q : t D σ H) : QB X sts D σ H := fun pins s I => h.run pins s σ H D I q
theorem wg_of {tg : Expr} {t : TG} {Q : Sl → Hp → Prop} (h : PG X tg t) (q : t v σ H Q) : QG X tg v σ H Q := fun pins s u I r => h.run pins s σ H v u Q I r q
theorem wgs_of {tgs : List Expr} {vs : List V} {t : TGs} {Q : Sl → Hp → Prop} (h : PGs X tgs t) (q : t vs σ H Q) : QGs X tgs vs σ H Q := fun pins s us I r => h.run pins s σ H vs us Q I r q
theorem opw_of {f : Value → Value → Sem Value} {r : R2} {y : V} (h : OpR X f r) (q : r v y H Q) : OpW X f v y H Q := fun pins s σ u w I rx ry => h pins s σ H v y u w Q I rx ry q
theorem unw_of {f : Value → Sem Value} {r : V → Hp → VK → Prop} (h : UnR X f r) (q : r v H Q) : UnW X f v H Q := fun pins s σ u I rx => h pins s σ H v u Q I rx q
theorem callw_of {f : Value} {r : List V → Hp → VK → Prop} {xs : List V} (h : CallR X f r) (q : r xs H Q) : CallW X f xs H Q := fun pins s σ us I rx => h pins s σ H xs us Q I rx q
/-! ### mono -/
theorem QE.imp {Q' : VK} (h : QE X e σ H Q) (k : ∀ v H', Q v H' → Q' v H') : QE X e σ H Q' := fun pins s I => thn (h pins s I) fun _ _ ⟨v, H', J, r, q⟩ => ⟨v, H', J, r, k v H' q⟩

/-! ### expressions -/
theorem we_name {N : List Str} {i : Nat} (h : Var N σ x v i) (hN : X.N = N) (hv : Vis X.env.scope x) (q : Q v H) (hd : (x == ("__debug__" : Str)) = false := by decide) (hcd : (x == ("__classdict__" : Str)) = false := by decide) : QE X (.Name x pos) σ H Q :=
  we_of (pe_var (i := i) (hN ▸ h.n) hv hd hcd) ⟨v, h.v, q⟩
theorem we_int {i : Int} {j} (q : Q (.int i) H) : QE X (.Constant (.int i) j pos) σ H Q := we_of pe_int q
theorem we_bl {i : Bool} {j} (q : Q (.bl i) H) : QE X (.Constant (.bool i) j pos) σ H Q := we_of pe_bl q
theorem we_non {j} (q : Q .non H) : QE X (.Constant .none j pos) σ H Q := we_of pe_non q
theorem we_str {z : Str} {j} (q : Q (.str z) H) : QE X (.Constant (.str z) j pos) σ H Q := we_of pe_str q
theorem we_bin {op : Operator} (q : QE X a σ H fun x H1 => QE X b σ H1 fun y H2 => OpW X (binaryOp op) x y H2 Q) : QE X (.BinOp a op b pos) σ H Q := we_of (pe_op op_sem pe_sem pe_sem) q
theorem we_un {op : UnaryOp} (q : QE X a σ H fun x H1 => UnW X (unaryOp op) x H1 Q) : QE X (.UnaryOp op a pos) σ H Q := we_of (pe_un un_sem pe_sem) q
theorem we_not (q : QE X a σ H fun x H1 => ∃ c, x = .bl c ∧ Q (.bl (!c)) H1) : QE X (.UnaryOp .Not a pos) σ H Q := we_of (pe_not pe_sem) q
theorem we_cmp {op : CmpOp} (hm : behindInMarks op b = false) (q : QE X a σ H fun x H1 => QE X b σ H1 fun y H2 => OpW X (compareOp op) x y H2 Q) : QE X (.Compare a [op] [b] pos) σ H Q := we_of (pe_cmpR op_sem pe_sem pe_sem hm) q
theorem we_chain {op op' : CmpOp} (hm : lastMarks [op, op'] [b, c] = false)
    (q : QE X a σ H fun x H1 => QE X b σ H1 fun y H2 => OpW X (compareOp op) x y H2 fun z H3 => ∃ k, z = .bl k ∧ (if k = true then QE X c σ H3 fun w H4 => OpW X (compareOp op') y w H4 Q else Q (.bl false) H3)) :
    QE X (.Compare a [op, op'] [b, c] pos) σ H Q := we_of (pe_chain op_sem op_sem pe_sem pe_sem pe_sem hm) q
theorem we_and {rest : List Expr} (q : QE X a σ H fun x H1 => ∃ c, x = .bl c ∧ if c = true then QE X (.BoolOp .And (b :: rest) pos) σ H1 Q else Q (.bl false) H1) : QE X (.BoolOp .And (a :: b :: rest) pos) σ H Q := we_of (pe_and pe_sem pe_sem) q
theorem we_or {rest : List Expr} (q : QE X a σ H fun x H1 => ∃ c, x = .bl c ∧ if c = true then Q (.bl true) H1 else QE X (.BoolOp .Or (b :: rest) pos) σ H1 Q) : QE X (.BoolOp .Or (a :: b :: rest) pos) σ H Q := we_of (pe_or pe_sem pe_sem) q
theorem we_one {op : BoolOp} (q : QE X a σ H Q) : QE X (.BoolOp op [a] pos) σ H Q := we_of (pe_one pe_sem) q
theorem we_ifx (q : QT X c σ H fun k H1 => if k = true then QE X a σ H1 Q else QE X b σ H1 Q) : QE X (.IfExp c a b pos) σ H Q := we_of (pe_ifExp pt_sem pe_sem pe_sem) q
theorem same_new {H : Hp} {q : Addr} {o : HO} (h : H q = none) : Same H (upd H q o) := fun b u e => by rw [upd_ne (ne_of_none e h)]; exact e
theorem we_tup {k : Nat} (q : QA X es σ H fun xs H1 => xs.length ≤ sizeLine ∧ ∀ p H2, H1 p = none → Same H1 H2 → H2 p = some (.tup xs) → Q (.ref p) H2) : QE X (.Tuple es k pos) σ H Q :=
  we_of (pe_tup pa_sem) (fun pos pins s I => thn (q pos pins s I) fun us s' ⟨vs, H', J, r, hl, z⟩ => ⟨vs, H', J, r, hl, fun p hp => z p _ hp (same_new hp) upd_same⟩)
theorem we_lst (q : QA X es σ H fun xs H1 => xs.length ≤ sizeLine ∧ ∀ p H2, H1 p = none → Same H1 H2 → H2 p = some (.lst xs) → Q (.ref p) H2) : QE X (.List es pos) σ H Q :=
  we_of (pe_lst pa_sem) (fun pos pins s I => thn (q pos pins s I) fun us s' ⟨vs, H', J, r, hl, z⟩ => ⟨vs, H', J, r, hl, fun p hp => z p _ hp (same_new hp) upd_same⟩)
theorem wa_nil {Q : List V → Hp → Prop} (q : Q [] H) : QA X [] σ H Q := wa_of pa_nil q
theorem wa_cons {Q : List V → Hp → Prop} (hs : starEach (e :: es) X.env = (false, eval e X.env) :: starEach es X.env) (q : QE X e σ H fun x H1 => QA X es σ H1 fun xs H2 => Q (x :: xs) H2) : QA X (e :: es) σ H Q := wa_of (pa_cons pe_sem pa_sem hs) q
theorem we_call {j k : Nat} {sp : Sp} {dvs : List V} (c : Cal X.prog X.w X.K X.mg X.base k x sp dvs) (hr : Room j X.A) (hk : k ≤ j) (hg : Gl X x)
    (q : QA X (e :: es) σ H fun vs H1 => sp (vs ++ dvs) H1 Q L2.E0)
    (hdb : (x == ("__debug__" : Str)) = false := by decide) (he : starEach (e :: es) X.env = (false, eval e X.env) :: starEach es X.env := by rfl) (hpl : (backTo pos (starEach es X.env)).any (·.1) = false := by rfl) :
    QE X (.Call (.Name x p) (e :: es) [] pos) σ H Q := by
  obtain ⟨f, fd, ps, ds, F, hm, kp, b, d⟩ := c.ex
  exact we_of (pe_call F (hr.mono hk) hg hm kp b d pass0 pa_sem hdb he hpl) q
theorem we_bltn {id : String} (hm : X.mg x = none) (hg : Gl X x) (hv : BB x (.builtin id)) (q : QA X (e :: es) σ H fun vs H1 => CallW X (.builtin id) vs H1 Q) (hn : x ≠ "__name__" := by decide) (hdb : (x == ("__debug__" : Str)) = false := by decide)
    (he : starEach (e :: es) X.env = (false, eval e X.env) :: starEach es X.env := by rfl) (hpl : (backTo pos (starEach es X.env)).any (·.1) = false := by rfl) : QE X (.Call (.Name x p) (e :: es) [] pos) σ H Q :=
  we_of (pe_callB call_sem hg hm hv.h pa_sem hn hdb he hpl) q
theorem we_type {T : String} (hm : X.mg x = none) (hg : Gl X x) (hv : BB x (.type T)) (q : QA X (e :: es) σ H fun vs H1 => CallW X (.type T) vs H1 Q) (hn : x ≠ "__name__" := by decide) (hdb : (x == ("__debug__" : Str)) = false := by decide)
    (he : starEach (e :: es) X.env = (false, eval e X.env) :: starEach es X.env := by rfl) (hpl : (backTo pos (starEach es X.env)).any (·.1) = false := by rfl) : QE X (.Call (.Name x p) (e :: es) [] pos) σ H Q :=
  we_of (pe_callTy call_sem hg hm hv.h pa_sem hn hdb he hpl) q
/-- a built-in's name as a value (isinstance's second argument) -/
theorem we_bval {u : Value} {v : V} (hm : X.mg x = none) (hg : Gl X x) (hv : BB x u) (r : RelV v u) (q : Q v H) (hn : x ≠ "__name__" := by decide) (hdb : (x == ("__debug__" : Str)) = false := by decide) : QE X (.Name x pos) σ H Q :=
  we_of (pe_bltn hg hm hv.h r hn hdb) q
theorem we_tyval {T : String} (hm : X.mg x = none) (hg : Gl X x) (hv : BB x (.type T)) (q : Q (.ty T) H) (hn : x ≠ "__name__" := by decide) (hdb : (x == ("__debug__" : Str)) = false := by decide) : QE X (.Name x pos) σ H Q :=
  we_of (pe_bltn hg hm hv.h (v := .ty T) rfl hn hdb) q
theorem we_gval {u : Value} {v : V} (hm : X.mg x = some u) (hg : Gl X x) (r : RelV v u) (q : Q v H) (hdb : (x == ("__debug__" : Str)) = false := by decide) : QE X (.Name x pos) σ H Q :=
  we_of (C8.pe_gc hg ⟨u, hm, r⟩ hdb) q

/-! ### tests -/
theorem wt_cmp {op : CmpOp} {Q : Bool → Hp → Prop} (hm : behindInMarks op b = false) (q : QE X a σ H fun x H1 => QE X b σ H1 fun y H2 => OpW X (compareOp op) x y H2 fun z H3 => ∃ k, z = .bl k ∧ Q k H3) : QT X (.Compare a [op] [b] pos) σ H Q := wt_of (pt_cmpR op_sem pe_sem pe_sem hm) q
theorem wt_chain {op op' : CmpOp} {Q : Bool → Hp → Prop} (hm : lastMarks [op, op'] [b, c] = false)
    (q : QE X a σ H fun x H1 => QE X b σ H1 fun y H2 => OpW X (compareOp op) x y H2 fun z H3 => ∃ k, z = .bl k ∧ (if k = true then QE X c σ H3 fun w H4 => OpW X (compareOp op') y w H4 fun z H5 => ∃ k, z = .bl k ∧ Q k H5 else ∃ k, V.bl false = .bl k ∧ Q k H3)) :
    QT X (.Compare a [op, op'] [b, c] pos) σ H Q := wt_of (pt_chain op_sem op_sem pe_sem pe_sem pe_sem hm) q
theorem wt_not {Q : Bool → Hp → Prop} (q : QT X a σ H fun k H1 => Q (!k) H1) : QT X (.UnaryOp .Not a pos) σ H Q := wt_of (pt_not pt_sem) q
theorem wt_boolop {op : BoolOp} {Q : Bool → Hp → Prop} (q : QW X (.BoolOp op es pos) σ H Q) : QT X (.BoolOp op es pos) σ H Q := wt_of pw_sem.pt q
theorem ww_and {rest : List Expr} {Q : Bool → Hp → Prop} (q : QT X a σ H fun k H1 => if k = true then QW X (.BoolOp .And (b :: rest) pos) σ H1 Q else Q false H1) : QW X (.BoolOp .And (a :: b :: rest) pos) σ H Q := ww_of (pw_and pt_sem pw_sem) q
theorem ww_or {rest : List Expr} {Q : Bool → Hp → Prop} (q : QT X a σ H fun k H1 => if k = true then Q true H1 else QW X (.BoolOp .Or (b :: rest) pos) σ H1 Q) : QW X (.BoolOp .Or (a :: b :: rest) pos) σ H Q := ww_of (pw_or pt_sem pw_sem) q
theorem ww_and1 {Q : Bool → Hp → Prop} (q : QT X a σ H Q) : QW X (.BoolOp .And [a] pos) σ H Q := ww_of (pw_and1 pt_sem) q
theorem ww_or1 {Q : Bool → Hp → Prop} (q : QT X a σ H Q) : QW X (.BoolOp .Or [a] pos) σ H Q := ww_of (pw_or1 pt_sem) q
theorem wt_val {Q : Bool → Hp → Prop} (he : ∀ whole, isTrue e X.env whole = (do let v ← whole; standAt e.pos; holding [v] (truthy v))) (q : QE X e σ H fun x H1 => ∃ k, x = .bl k ∧ Q k H1) : QT X e σ H Q := wt_of (pt_val pe_sem he) q

/-! ### operations at values -/
theorem opw_add {i j : Int} (q : Q (.int (i + j)) H) : OpW X (binaryOp .Add) (.int i) (.int j) H Q := opw_of op_add ⟨i, j, rfl, rfl, q⟩
theorem opw_sub {i j : Int} (q : Q (.int (i - j)) H) : OpW X (binaryOp .Sub) (.int i) (.int j) H Q := opw_of op_sub ⟨i, j, rfl, rfl, q⟩
theorem opw_mul {i j : Int} (hc : CMul i j) (q : Q (.int (i * j)) H) : OpW X (binaryOp .Mult) (.int i) (.int j) H Q := opw_of op_mul ⟨i, j, rfl, rfl, hc, q⟩
theorem opw_div {i j : Int} (hc : CDiv i j) (q : Q (.int (i / j)) H) : OpW X (binaryOp .FloorDiv) (.int i) (.int j) H Q := opw_of op_fdiv ⟨i, j, rfl, rfl, hc, q⟩
theorem opw_divN {i j : Int} (hc : CDivN i j) (q : Q (.int (i.fdiv j)) H) : OpW X (binaryOp .FloorDiv) (.int i) (.int j) H Q := opw_of op_fdivN ⟨i, j, rfl, rfl, hc, q⟩
theorem opw_mod {i j : Int} (hc : 0 < j) (q : Q (.int (i % j)) H) : OpW X (binaryOp .Mod) (.int i) (.int j) H Q := opw_of op_mod ⟨i, j, rfl, rfl, hc, q⟩
theorem opw_modN {i j : Int} (hc : j ≠ 0) (q : Q (.int (i.fmod j)) H) : OpW X (binaryOp .Mod) (.int i) (.int j) H Q := opw_of op_modN ⟨i, j, rfl, rfl, hc, q⟩
theorem unw_neg {i : Int} (q : Q (.int (-i)) H) : UnW X (unaryOp .USub) (.int i) H Q := unw_of un_neg ⟨i, rfl, q⟩
theorem opw_lt {i j : Int} (q : Q (.bl (decide (i < j))) H) : OpW X (compareOp .Lt) (.int i) (.int j) H Q := opw_of op_lt ⟨i, j, rfl, rfl, q⟩
theorem opw_le {i j : Int} (q : Q (.bl (decide (i ≤ j))) H) : OpW X (compareOp .LtE) (.int i) (.int j) H Q := opw_of op_le ⟨i, j, rfl, rfl, q⟩
theorem opw_gt {i j : Int} (q : Q (.bl (decide (j < i))) H) : OpW X (compareOp .Gt) (.int i) (.int j) H Q := opw_of op_gt ⟨i, j, rfl, rfl, q⟩
theorem opw_ge {i j : Int} (q : Q (.bl (decide (j ≤ i))) H) : OpW X (compareOp .GtE) (.int i) (.int j) H Q := opw_of op_ge ⟨i, j, rfl, rfl, q⟩
theorem opw_eq {i j : Int} (q : Q (.bl (decide (i = j))) H) : OpW X (compareOp .Eq) (.int i) (.int j) H Q := opw_of op_eq ⟨rfl, by rw [show decide (V.int i = V.int j) = decide (i = j) from by simp]; exact q⟩
theorem opw_ne {i j : Int} (q : Q (.bl (!decide (i = j))) H) : OpW X (compareOp .NotEq) (.int i) (.int j) H Q := opw_of op_ne ⟨rfl, by rw [show decide (V.int i = V.int j) = decide (i = j) from by simp]; exact q⟩
theorem opw_eqb {i j : Bool} (q : Q (.bl (decide (i = j))) H) : OpW X (compareOp .Eq) (.bl i) (.bl j) H Q := opw_of op_eq ⟨rfl, by rw [show decide (V.bl i = V.bl j) = decide (i = j) from by simp]; exact q⟩
theorem opw_neb {i j : Bool} (q : Q (.bl (!decide (i = j))) H) : OpW X (compareOp .NotEq) (.bl i) (.bl j) H Q := opw_of op_ne ⟨rfl, by rw [show decide (V.bl i = V.bl j) = decide (i = j) from by simp]; exact q⟩
theorem opw_eqs {i j : Str} (q : Q (.bl (decide (i = j))) H) : OpW X (compareOp .Eq) (.str i) (.str j) H Q := opw_of op_eq ⟨rfl, by rw [show decide (V.str i = V.str j) = decide (i = j) from by simp]; exact q⟩
theorem opw_nes {i j : Str} (q : Q (.bl (!decide (i = j))) H) : OpW X (compareOp .NotEq) (.str i) (.str j) H Q := opw_of op_ne ⟨rfl, by rw [show decide (V.str i = V.str j) = decide (i = j) from by simp]; exact q⟩
theorem callw_abs {i : Int} (q : Q (.int (if i < 0 then -i else i)) H) : CallW X (.builtin "abs") [.int i] H Q := callw_of call_abs ⟨i, rfl, q⟩
theorem callw_int {i : Int} (q : Q (.int i) H) : CallW X (.type "int") [.int i] H Q := callw_of call_int1 (.inl ⟨i, rfl, q⟩)
theorem callw_intb {k : Bool} (q : Q (.int (if k then 1 else 0)) H) : CallW X (.type "int") [.bl k] H Q := callw_of call_int1 (.inr ⟨k, rfl, q⟩)
end

/-! ### statements -/
section
variable {X : Cx} {e c : Expr} {st : Stmt} {sts rest body orelse : List Stmt} {σ σ' : Sl} {H : Hp} {D : Ends} {pos p : Pos} {x : Str} {v : V}
theorem wss_nil (q : D.nx σ H) : QB X [] D σ H := wss_of pss_nil q
theorem wss_cons (q : QS X st { D with nx := fun σ' H' => QB X rest D σ' H' } σ H) : QB X (st :: rest) D σ H := wss_of (pss_cons ps_sem pss_sem) q
theorem wss_one (q : QS X st D σ H) : QB X [st] D σ H := wss_of (pss_one ps_sem) q
theorem ws_ret (q : QE X e σ H D.rt) : QS X (.Return (some e) pos) D σ H := ws_of (ps_ret pe_sem) q
theorem ws_retN (q : D.rt .non H) : QS X (.Return none pos) D σ H := ws_of ps_retN q
theorem ws_if (q : QT X c σ H fun k H1 => if k = true then QB X body D σ H1 else QB X orelse D σ H1) : QS X (.If c body orelse pos) D σ H := ws_of (ps_if pt_sem pss_sem pss_sem) q
theorem ws_expr (hs : swapsWith e none pos.line X.env = pure false) (q : QE X e σ H fun _ H1 => D.nx σ H1) : QS X (.Expr e pos) D σ H := ws_of (ps_expr pe_sem hs) q
theorem wg_name {N : List Str} {i : Nat} {Q : Sl → Hp → Prop} (h : Put N σ x v σ' i) (hN : X.N = N) (nd : X.N.Nodup) (hx : Loc X.env.scope x) (hf : X.fn x = true ∨ X.env.scope.names.lookup x = some .local) (q : Q σ' H) : QG X (.Name x pos) v σ H Q :=
  wg_of (pg_name (i := i) nd (hN ▸ h.n) hx hf) (by show Q (σ.set i (some v)) H; rw [h.v]; exact q)
theorem wgs_nil {Q : Sl → Hp → Prop} (q : Q σ H) : QGs X [] [] σ H Q := wgs_of pgs_nil ⟨rfl, q⟩
theorem wgs_cons {es : List Expr} {vs : List V} {Q : Sl → Hp → Prop} (hs : (assignEach (e :: es) X.env).map (·.2) = assign e X.env :: (assignEach es X.env).map (·.2)) (q : QG X e v σ H fun σ' H' => QGs X es vs σ' H' Q) : QGs X (e :: es) (v :: vs) σ H Q :=
  wgs_of (pgs_cons pg_sem pgs_sem hs) ⟨v, vs, rfl, q⟩
theorem wg_tup {es : List Expr} {k : Nat} {a : Addr} {xs : List V} {Q : Sl → Hp → Prop} (hc : X.calm = true) (ht : SqT X.K H a xs) (hl : xs.length = (assignEach es X.env).length) (hst : (assignEach es X.env).findIdx? (·.1) = none) (q : QGs X es xs σ H Q) : QG X (.Tuple es k pos) (.ref a) σ H Q :=
  wg_of (pg_tup hc pgs_sem rfl hst) ⟨a, xs, rfl, ht, hl, q⟩
theorem ws_asg {tg : Expr} (hs : swapsWithSole [tg] e pos.line X.env = pure false) (hw : swappedStores [tg] e X.env = pure none) (h1 : (assignEach [tg] X.env).map (·.2) = [assign tg X.env]) (q : QE X e σ H fun v H1 => QG X tg v σ H1 D.nx) : QS X (.Assign [tg] e pos) D σ H :=
  ws_of (ps_asg pe_sem pg_sem hs hw h1) q
theorem ws_set (hs : swapsWith e (some (.Name x p)) pos.line X.env = pure false) (nd : X.N.Nodup) (hx : Loc X.env.scope x) (hf : X.fn x = true ∨ X.env.scope.names.lookup x = some .local) {N : List Str} (hN : X.N = N) {i : Nat} (hi : N[i]? = some x)
    (q : QE X e σ H fun v H1 => D.nx (σ.set i (some v)) H1) : QS X (.Assign [.Name x p] e pos) D σ H :=
  ws_of (ps_set (i := i) nd (hN ▸ hi) hx pe_sem hs hf) q
theorem ws_par {y : Str} {a b : Expr} {px py pt : Pos} {kt k2 pt2} {N : List Str} {i j : Nat} (hN : X.N = N) (hi : Ix N i x) (hj : Ix N j y) (hij : i ≠ j) (hc : X.calm = true) (nd : X.N.Nodup)
    (hx : X.env.scope.names.lookup x = some .local) (hy : X.env.scope.names.lookup y = some .local)
    (hw : swappedStores [.Tuple [.Name x px, .Name y py] kt pt] (.Tuple [a, b] k2 pt2) X.env = pure (some [x, y]))
    (hs : swapsWithSole [.Tuple [.Name x px, .Name y py] kt pt] (.Tuple [a, b] k2 pt2) pos.line X.env = pure false)
    (q : QA X [a, b] σ H fun vs H1 => ∃ v w, vs = [v, w] ∧ ∃ σ1 σ2, Put N σ x v σ1 i ∧ Put N σ1 y w σ2 j ∧ D.nx σ2 H1) : QS X (.Assign [.Tuple [.Name x px, .Name y py] kt pt] (.Tuple [a, b] k2 pt2) pos) D σ H :=
  ws_of (ps_par hc nd (hN ▸ hi.n) (hN ▸ hj.n) hij hx hy pa_sem hw hs) (fun pos pins s I => thn (q pos pins s I) fun us s' ⟨vs, H', J, r, v, w, e, σ1, σ2, p1, p2, z⟩ => ⟨vs, H', J, r, v, w, e, by rw [p1.v, p2.v]; exact z⟩)
theorem ws_par3 {y z : Str} {a b c : Expr} {px py pz pt : Pos} {kt k2 pt2} {N : List Str} {i j l : Nat} (hN : X.N = N) (hi : Ix N i x) (hj : Ix N j y) (hl : Ix N l z) (hij : i ≠ j) (hil : i ≠ l) (hjl : j ≠ l) (hc : X.calm = true) (nd : X.N.Nodup)
    (hx : X.env.scope.names.lookup x = some .local) (hy : X.env.scope.names.lookup y = some .local) (hz : X.env.scope.names.lookup z = some .local)
    (hw : swappedStores [.Tuple [.Name x px, .Name y py, .Name z pz] kt pt] (.Tuple [a, b, c] k2 pt2) X.env = pure (some [x, y, z]))
    (hs : swapsWithSole [.Tuple [.Name x px, .Name y py, .Name z pz] kt pt] (.Tuple [a, b, c] k2 pt2) pos.line X.env = pure false)
    (q : QA X [a, b, c] σ H fun vs H1 => ∃ u v w, vs = [u, v, w] ∧ ∃ σ1 σ2 σ3, Put N σ x u σ1 i ∧ Put N σ1 y v σ2 j ∧ Put N σ2 z w σ3 l ∧ D.nx σ3 H1) : QS X (.Assign [.Tuple [.Name x px, .Name y py, .Name z pz] kt pt] (.Tuple [a, b, c] k2 pt2) pos) D σ H :=
  ws_of (ps_par3 hc nd (hN ▸ hi.n) (hN ▸ hj.n) (hN ▸ hl.n) hij hil hjl hx hy hz pa_sem hw hs) (fun pos pins s I => thn (q pos pins s I) fun us s' ⟨vs, H', J, r, u, v, w, e, σ1, σ2, σ3, p1, p2, p3, zz⟩ => ⟨vs, H', J, r, u, v, w, e, by rw [p1.v, p2.v, p3.v]; exact zz⟩)
theorem ifd {c A B : Prop} [Decidable c] (h1 : c → A) (h2 : ¬ c → B) : if decide c = true then A else B := by
  by_cases h : c
  · rw [if_pos (decide_eq_true h)]
    exact h1 h
  · rw [if_neg (by simpa using h)]
    exact h2 h
theorem ifn {c A B : Prop} [Decidable c] (h1 : ¬ c → A) (h2 : c → B) : if (!decide c) = true then A else B := by
  by_cases h : c
  · rw [if_neg (by simpa using h)]
    exact h2 h
  · rw [if_pos (by simpa using h)]
    exact h1 h
theorem ifb {b : Bool} {A B : Prop} (h1 : b = true → A) (h2 : b = false → B) : if b = true then A else B := by
  cases b with
  | true => exact h1 rfl
  | false => rw [if_neg Bool.false_ne_true]; exact h2 rfl
theorem ifnb {b : Bool} {A B : Prop} (h1 : b = false → A) (h2 : b = true → B) : if (!b) = true then A else B := by
  cases b with
  | false => exact h1 rfl
  | true => rw [if_neg (by decide)]; exact h2 rfl
/-- while, by an invariant and a measure -/
theorem ws_while (I : Sl → Hp → Prop) (μ : Sl → Hp → Nat) (hp : PassesOwn (model X.prog X.w) X.A X.env X.xe) (h0 : I σ H)
    (h : ∀ σ1 H1, I σ1 H1 → QT X c σ1 H1 fun k H2 => if k = true then QB X body { D with nx := fun σ3 H3 => I σ3 H3 ∧ μ σ3 H3 < μ σ1 H1, ct := fun σ3 H3 => I σ3 H3 ∧ μ σ3 H3 < μ σ1 H1, bk := D.nx } σ1 H2 else D.nx σ1 H2) : QS X (.While c body [] pos) D σ H := by
  refine ws_of (ps_while hp pt_sem pss_sem) ⟨fun m σ1 H1 => I σ1 H1 ∧ μ σ1 H1 = m, ⟨_, h0, rfl⟩, fun m σ1 H1 hm => ?_⟩
  obtain ⟨i1, rfl⟩ := hm
  intro pins s J
  refine thn (h σ1 H1 i1 pins s J) fun k s2 ⟨H2, J2, q2⟩ => ⟨H2, J2, ?_⟩
  cases k with
  | true =>
    rw [if_pos rfl] at q2 ⊢
    exact ⟨fun σ3 H3 => I σ3 H3 ∧ μ σ3 H3 < μ σ1 H1, fun σ3 H3 q => ⟨_, q.2, q.1, rfl⟩, q2⟩
  | false =>
    rw [if_neg Bool.false_ne_true] at q2 ⊢
    exact q2
end
end Sx

/-! Sd: data as a whole, and what stands for it. -/
namespace Sx
open PySem PySem.Spec PyProof.Rows L2

inductive D where
  | non | bl (b : Bool) | int (i : Int) | str (x : Str) | tup (ds : List D) | lst (ds : List D) | obj (c : Addr) (ns : List Str) (ds : List D)

mutual
/-- no list inside -/
def D.im : D → Bool
  | .lst _ => false
  | .tup ds => imAll ds
  | .obj _ _ ds => imAll ds
  | _ => true
def imAll : List D → Bool
  | [] => true
  | d :: r => d.im && imAll r
end
mutual
inductive Rp (K : PySem.W.Frag) (H : Hp) : V → D → Prop
  | non : Rp K H .non .non
  | bl (b : Bool) : Rp K H (.bl b) (.bl b)
  | int (i : Int) : Rp K H (.int i) (.int i)
  | str (x : Str) : Rp K H (.str x) (.str x)
  | tup {a : Addr} {xs : List V} {ds : List D} : SqT K H a xs → RpAll K H xs ds → Rp K H (.ref a) (.tup ds)
  | lst {a : Addr} {xs : List V} {ds : List D} : SqL K H a xs → RpAll K H xs ds → Rp K H (.ref a) (.lst ds)
  | obj {a c dx : Addr} {fs : List (Str × V)} {ns : List Str} {ds : List D} : H a = some (.ins c dx fs) → fs.map (·.1) = ns → RpAll K H (fs.map (·.2)) ds → Rp K H (.ref a) (.obj c ns ds)
inductive RpAll (K : PySem.W.Frag) (H : Hp) : List V → List D → Prop
  | nil : RpAll K H [] []
  | cons {v : V} {vs : List V} {d : D} {ds : List D} : Rp K H v d → RpAll K H vs ds → RpAll K H (v :: vs) (d :: ds)
end
section
variable {K : PySem.W.Frag} {H H' : Hp}
theorem Same.tupR {a : Addr} {xs : List V} (e : Same H H') (h : SqT K H a xs) : SqT K H' a xs := by
  rcases h with (h | ⟨o, h⟩) | h
  · exact .inl (.inl (e _ _ h))
  · exact .inl (.inr ⟨o, e _ _ h⟩)
  · exact .inr h
mutual
theorem Rp.mono (s : Same H H') : ∀ (d : D) (v : V), Rp K H v d → Rp K H' v d
  | .non, _, h => by cases h; exact .non
  | .bl _, _, h => by cases h; exact .bl _
  | .int _, _, h => by cases h; exact .int _
  | .str _, _, h => by cases h; exact .str _
  | .tup ds, _, h => by
    cases h with
    | tup h1 h2 => exact .tup (Same.tupR s h1) (RpAll.mono s ds _ h2)
  | .lst ds, _, h => by
    cases h with
    | lst h1 h2 => exact .lst (s.seq h1) (RpAll.mono s ds _ h2)
  | .obj c ns ds, _, h => by
    cases h with
    | obj h1 h2 h3 => exact .obj (s _ _ h1) h2 (RpAll.mono s ds _ h3)
theorem RpAll.mono (s : Same H H') : ∀ (ds : List D) (vs : List V), RpAll K H vs ds → RpAll K H' vs ds
  | [], _, h => by cases h; exact .nil
  | d :: ds, _, h => by
    cases h with
    | cons h1 h2 => exact .cons (Rp.mono s d _ h1) (RpAll.mono s ds _ h2)
end
theorem Rp.to {d : D} {v : V} (h : Rp K H v d) (s : Same H H') : Rp K H' v d := Rp.mono s d v h
theorem RpAll.to {ds : List D} {vs : List V} (h : RpAll K H vs ds) (s : Same H H') : RpAll K H' vs ds := RpAll.mono s ds vs h
/-- a list is written: what holds no list stands -/
def Lst (H : Hp) (p : Addr) : Prop := ∃ xs, H p = some (.lst xs)
mutual
theorem Rp.keep {p : Addr} (l : Lst H p) (s : ∀ b o, b ≠ p → H b = some o → H' b = some o) : ∀ (d : D) (v : V), d.im = true → Rp K H v d → Rp K H' v d
  | .non, _, _, h => by cases h; exact .non
  | .bl _, _, _, h => by cases h; exact .bl _
  | .int _, _, _, h => by cases h; exact .int _
  | .str _, _, _, h => by cases h; exact .str _
  | .tup ds, _, m, h => by
    obtain ⟨zs, hz⟩ := l
    cases h with
    | tup h1 h2 =>
      refine .tup ?_ (RpAll.keep ⟨zs, hz⟩ s ds _ (by simpa [D.im] using m) h2)
      rcases h1 with (h1 | ⟨o, h1⟩) | h1
      · exact .inl (.inl (s _ _ (ne_of h1 hz (by intro z; cases z)) h1))
      · exact .inl (.inr ⟨o, s _ _ (ne_of h1 hz (by intro z; cases z)) h1⟩)
      · exact .inr h1
  | .lst _, _, m, _ => by simp [D.im] at m
  | .obj c ns ds, _, m, h => by
    obtain ⟨zs, hz⟩ := l
    cases h with
    | obj h1 h2 h3 => exact .obj (s _ _ (ne_of h1 hz (by intro z; cases z)) h1) h2 (RpAll.keep ⟨zs, hz⟩ s ds _ (by simpa [D.im] using m) h3)
theorem RpAll.keep {p : Addr} (l : Lst H p) (s : ∀ b o, b ≠ p → H b = some o → H' b = some o) : ∀ (ds : List D) (vs : List V), imAll ds = true → RpAll K H vs ds → RpAll K H' vs ds
  | [], _, _, h => by cases h; exact .nil
  | d :: ds, _, m, h => by
    have m' : d.im = true ∧ imAll ds = true := by simpa [imAll] using m
    cases h with
    | cons h1 h2 => exact .cons (Rp.keep l s d _ m'.1 h1) (RpAll.keep l s ds _ m'.2 h2)
end
theorem RpAll.len : ∀ {vs : List V} {ds : List D}, RpAll K H vs ds → vs.length = ds.length
  | _, _, .nil => rfl
  | _, _, .cons _ t => by simp [RpAll.len t]
theorem RpAll.get : ∀ {vs : List V} {ds : List D} {i : Nat} {v : V}, RpAll K H vs ds → vs[i]? = some v → ∃ d, ds[i]? = some d ∧ Rp K H v d
  | _, _, _, _, .nil, e => by simp at e
  | _, _, 0, _, .cons r _, e => by simp at e; subst e; exact ⟨_, rfl, r⟩
  | _, _, i + 1, v, .cons _ t, e => by
    obtain ⟨d, h1, h2⟩ := RpAll.get (i := i) (v := v) t (by simpa using e)
    exact ⟨d, by simpa using h1, h2⟩
theorem RpAll.getD' : ∀ {vs : List V} {ds : List D} {i : Nat} {d : D}, RpAll K H vs ds → ds[i]? = some d → ∃ v, vs[i]? = some v ∧ Rp K H v d
  | _, _, _, _, .nil, e => by simp at e
  | _, _, 0, _, .cons r _, e => by simp at e; subst e; exact ⟨_, rfl, r⟩
  | _, _, i + 1, v, .cons _ t, e => by
    obtain ⟨d, h1, h2⟩ := RpAll.getD' (i := i) (d := v) t (by simpa using e)
    exact ⟨d, by simpa using h1, h2⟩
theorem RpAll.snoc : ∀ {vs : List V} {ds : List D} {v : V} {d : D}, RpAll K H vs ds → Rp K H v d → RpAll K H (vs ++ [v]) (ds ++ [d])
  | _, _, _, _, .nil, h => .cons h .nil
  | _, _, _, _, .cons r t, h => .cons r (RpAll.snoc t h)
theorem RpAll.app : ∀ {vs ws : List V} {ds es : List D}, RpAll K H vs ds → RpAll K H ws es → RpAll K H (vs ++ ws) (ds ++ es)
  | _, _, _, _, .nil, h => h
  | _, _, _, _, .cons r t, h => .cons r (RpAll.app t h)
theorem imAll_iff : ∀ {ds : List D}, imAll ds = true ↔ ∀ d ∈ ds, d.im = true
  | [] => by simp [imAll]
  | d :: r => by simp [imAll, imAll_iff (ds := r)]
theorem RpAll.ints : ∀ (ns : List Int), RpAll K H (ns.map V.int) (ns.map D.int)
  | [] => .nil
  | n :: r => .cons (.int n) (RpAll.ints r)
theorem RpAll.ints_inv : ∀ {ns : List Int} {vs : List V}, RpAll K H vs (ns.map D.int) → vs = ns.map V.int
  | [], _, h => by cases h; rfl
  | n :: r, _, h => by
    cases h with
    | cons h1 h2 => cases h1; rw [RpAll.ints_inv h2]; rfl
theorem RpAll.bls_inv : ∀ {ns : List Bool} {vs : List V}, RpAll K H vs (ns.map D.bl) → vs = ns.map V.bl
  | [], _, h => by cases h; rfl
  | n :: r, _, h => by
    cases h with
    | cons h1 h2 => cases h1; rw [RpAll.bls_inv h2]; rfl
theorem RpAll.strs_inv : ∀ {ns : List Str} {vs : List V}, RpAll K H vs (ns.map D.str) → vs = ns.map V.str
  | [], _, h => by cases h; rfl
  | n :: r, _, h => by
    cases h with
    | cons h1 h2 => cases h1; rw [RpAll.strs_inv h2]; rfl
mutual
/-- .. as the library's data, where no object is inside -/
def D.py : D → Option PyData
  | .non => some .none
  | .bl b => some (.bool b)
  | .int i => some (.int i)
  | .str x => some (.str x)
  | .tup ds => (pyAll ds).map .tuple
  | .lst ds => (pyAll ds).map .list
  | .obj _ _ _ => none
def pyAll : List D → Option (List PyData)
  | [] => some []
  | d :: r => match d.py, pyAll r with
    | some x, some xs => some (x :: xs)
    | _, _ => none
end
mutual
theorem Rp.py : ∀ (d : D) (v : V) (e : PyData), Rp K H v d → d.py = some e → Dp K H v e
  | .non, _, _, h, q => by cases h; cases q; exact .non
  | .bl _, _, _, h, q => by cases h; cases q; exact .bl _
  | .int _, _, _, h, q => by cases h; cases q; exact .int _
  | .str _, _, _, h, q => by cases h; cases q; exact .str _
  | .tup ds, _, _, h, q => by
    cases h with
    | tup h1 h2 =>
      unfold D.py at q
      cases w : pyAll ds with
      | none => rw [w] at q; cases q
      | some xs => rw [w] at q; cases q; exact .tup h1 (RpAll.py ds _ xs h2 w)
  | .lst ds, _, _, h, q => by
    cases h with
    | lst h1 h2 =>
      unfold D.py at q
      cases w : pyAll ds with
      | none => rw [w] at q; cases q
      | some xs => rw [w] at q; cases q; exact .lst h1 (RpAll.py ds _ xs h2 w)
  | .obj _ _ _, _, _, _, q => by unfold D.py at q; cases q
theorem RpAll.py : ∀ (ds : List D) (vs : List V) (es : List PyData), RpAll K H vs ds → pyAll ds = some es → DpAll K H vs es
  | [], _, _, h, q => by cases h; unfold pyAll at q; cases q; exact .nil
  | d :: ds, _, _, h, q => by
    cases h with
    | cons h1 h2 =>
      unfold pyAll at q
      cases w1 : d.py with
      | none => rw [w1] at q; cases q
      | some x =>
        cases w2 : pyAll ds with
        | none => rw [w1, w2] at q; cases q
        | some xs => rw [w1, w2] at q; cases q; exact .cons (Rp.py d _ x h1 w1) (RpAll.py ds _ xs h2 w2)
end
/-! ### a datum's type -/
def D.ty : D → Option String
  | .non => some "NoneType"
  | .bl _ => some "bool"
  | .int _ => some "int"
  | .str _ => some "str"
  | .tup _ => some "tuple"
  | .lst _ => some "list"
  | .obj .. => none
theorem Rp.tyx : ∀ {d : D} {v : V} {n : String}, Rp K H v d → d.ty = some n → TyX K H v (.type n)
  | _, _, _, .non, e => by cases e; exact .base .non
  | _, _, _, .bl _, e => by cases e; exact .base (.bl _)
  | _, _, _, .int _, e => by cases e; exact .base (.int _)
  | _, _, _, .str _, e => by cases e; exact .base (.str _)
  | _, _, _, .tup h _, e => by
    cases e
    rcases h with (h | ⟨o, h⟩) | ⟨o, its, n, h1, h2, _⟩
    · exact .base (.tup h)
    · exact .fTuple h
    · exact .kTuple h1 h2
  | _, _, _, .lst h _, e => by
    cases e
    rcases h with (h | ⟨o, h⟩) | ⟨o, its, n, h1, h2, _⟩
    · exact .base (.lst h)
    · exact .base (.frz h)
    · exact .kList h1 h2
  | _, _, _, .obj .., e => by cases e
end
def D.isI : D → Bool
  | .int _ => true
  | .bl _ => true
  | _ => false
def D.whole : D → Bool
  | .int _ => true
  | _ => false
def D.isB : D → Bool
  | .bl _ => true
  | _ => false
def D.isS : D → Bool
  | .str _ => true
  | _ => false
def D.isT : D → Bool
  | .tup _ => true
  | _ => false
def D.isL : D → Bool
  | .lst _ => true
  | _ => false
theorem D.whole_eq (d : D) : d.whole = (d.isI && !d.isB) := by cases d <;> rfl
section
variable {X : Cx} {H : Hp} {Q : VK} {v : V} {d : D}
theorem callw_isi {n c : String} {b : Bool} (h : Rp X.K H v d) (e : d.ty = some n) (k : kitB n c = some b) (q : Q (.bl b) H) : CallW X (.builtin "isinstance") [v, .ty c] H Q :=
  callw_of call_isi ⟨v, .ty c, .type n, .type c, b, rfl, .ty c, h.tyx e, kit_ty k, q⟩
theorem isi_int (h : Rp X.K H v d) (o : d.ty.isSome = true) (q : Q (.bl d.isI) H) : CallW X (.builtin "isinstance") [v, .ty "int"] H Q := by
  cases d <;> first | exact callw_isi (b := true) h rfl (by decide +kernel) q | exact callw_isi (b := false) h rfl (by decide +kernel) q | cases o
theorem isi_bool (h : Rp X.K H v d) (o : d.ty.isSome = true) (q : Q (.bl d.isB) H) : CallW X (.builtin "isinstance") [v, .ty "bool"] H Q := by
  cases d <;> first | exact callw_isi (b := true) h rfl (by decide +kernel) q | exact callw_isi (b := false) h rfl (by decide +kernel) q | cases o
theorem isi_str (h : Rp X.K H v d) (o : d.ty.isSome = true) (q : Q (.bl d.isS) H) : CallW X (.builtin "isinstance") [v, .ty "str"] H Q := by
  cases d <;> first | exact callw_isi (b := true) h rfl (by decide +kernel) q | exact callw_isi (b := false) h rfl (by decide +kernel) q | cases o
theorem isi_tuple (h : Rp X.K H v d) (o : d.ty.isSome = true) (q : Q (.bl d.isT) H) : CallW X (.builtin "isinstance") [v, .ty "tuple"] H Q := by
  cases d <;> first | exact callw_isi (b := true) h rfl (by decide +kernel) q | exact callw_isi (b := false) h rfl (by decide +kernel) q | cases o
end
end Sx

/-! Sc: what loops and comprehensions walk; containers. -/
namespace Sx
open PySem PySem.Spec PyProof.Rows L2

section
variable (X : Cx)
def QI (tg iter : Expr) (σ : Sl) (H : Hp) (R : It → Hp → Prop) : Prop := ∀ (pins : List (Addr × Obj)) (s : Shared), Inv X pins σ H s → wpAny (model X.prog X.w) X.A (eval iter X.env) (fun v s1 => wpAny (model X.prog X.w) X.A (pyIter v) (PIE X pins σ tg R) X.xe s1) X.xe s
/-- in a comprehension's block, wherever it begins -/
def BG (scope : Scope) (tg : Expr) (v : V) (σ : Sl) (H : Hp) (Q : Sl → Hp → Prop) : Prop := ∀ (s : Shared) (H0 : Hp) (C : Addr) (cl : List (Str × Addr)) (fp : List Addr), QG (X.blk s H0 scope (compEnvC scope cl C X.env) fp) tg v σ H Q
def BE (scope : Scope) (e : Expr) (σ : Sl) (H : Hp) (Q : VK) : Prop := ∀ (s : Shared) (H0 : Hp) (C : Addr) (cl : List (Str × Addr)) (fp : List Addr), QE (X.blk s H0 scope (compEnvC scope cl C X.env) fp) e σ H Q
def BT (scope : Scope) (e : Expr) (σ : Sl) (H : Hp) (Q : Bool → Hp → Prop) : Prop := ∀ (s : Shared) (H0 : Hp) (C : Addr) (cl : List (Str × Addr)) (fp : List Addr), QT (X.blk s H0 scope (compEnvC scope cl C X.env) fp) e σ H Q
end
section
variable {X : Cx} {tg iter e a b l : Expr} {σ : Sl} {H : Hp} {R : It → Hp → Prop} {pos p : Pos}
theorem pi_sem : PI X tg iter (QI X tg iter) := ⟨fun pins s _ _ _ I h => h pins s I⟩
theorem qi_of {wi : TI} (h : PI X tg iter wi) (q : wi σ H R) : QI X tg iter σ H R := fun pins s I => h.run pins s σ H R I q
theorem qi_list (q : QE X l σ H fun x H1 => ∃ a, x = .ref a ∧ (∃ xs, SqL X.K H1 a xs) ∧ R (Itl X.K a) H1) : QI X tg l σ H R := qi_of (pi_list pe_sem) q
theorem qi_tup (q : QE X l σ H fun x H1 => ∃ a, x = .ref a ∧ (∃ xs, SqT X.K H1 a xs) ∧ R (Itt X.K a) H1) : QI X tg l σ H R := qi_of (pi_tup pe_sem) q
theorem qi_range1 (hm : X.mg "range" = none) (hg : Gl X "range") (hs : starEach [a] X.env = [(false, eval a X.env)]) (q : QE X a σ H fun x H1 => ∃ j : Int, x = .int j ∧ (-(2 ^ 62) ≤ j ∧ j < 2 ^ 62) ∧ R (Itr 0 j.toNat) H1) : QI X tg (.Call (.Name "range" p) [a] [] pos) σ H R :=
  qi_of (pi_range1 hg hm pa_sem hs) (wa_cons hs (by exact fun pins s I => thn (q pins s I) fun u s1 ⟨v, H1, J, r, j, e, ⟨h1, h2⟩, z⟩ => ⟨v, H1, J, r, wa_nil ⟨j, by rw [e], h1, h2, z⟩⟩))
theorem qi_range2 (hm : X.mg "range" = none) (hg : Gl X "range") (hs : starEach [a, b] X.env = [(false, eval a X.env), (false, eval b X.env)]) (hs2 : starEach [b] X.env = [(false, eval b X.env)])
    (q : QE X a σ H fun x H1 => QE X b σ H1 fun y H2 => ∃ i j : Int, x = .int i ∧ y = .int j ∧ (-(2 ^ 62) ≤ i ∧ i < 2 ^ 62 ∧ -(2 ^ 62) ≤ j ∧ j < 2 ^ 62) ∧ R (Itr i (j - i).toNat) H2) : QI X tg (.Call (.Name "range" p) [a, b] [] pos) σ H R :=
  qi_of (pi_range2 hg hm pa_sem hs hs2) (wa_cons (by rw [hs, hs2]) (by
    exact fun pins s I => thn (q pins s I) fun u s1 ⟨v, H1, J, r, z⟩ => ⟨v, H1, J, r, wa_cons hs2 (by
      exact fun pins s I => thn (z pins s I) fun u s1 ⟨v2, H2, J2, r2, i, j, e1, e2, h, z2⟩ => ⟨v2, H2, J2, r2, wa_nil ⟨i, j, by rw [e1, e2], h, z2⟩⟩)⟩))
theorem QI.imp {R' : It → Hp → Prop} (h : QI X tg iter σ H R) (k : ∀ J H1, R J H1 → R' J H1) : QI X tg iter σ H R' := fun pins s I => thn (h pins s I) fun v s1 h1 => thn h1 fun itv s2 ⟨it, fp, tn, J, H', e, J1, T, t0, f, r⟩ => ⟨it, fp, tn, J, H', e, J1, T, t0, f, k _ _ r⟩
/-- for: what it walks, Pv by the turn, the slots and the heap -/
theorem qs_for {body : List Stmt} {E : Ends} (hp : PassesOwn (model X.prog X.w) X.A X.env X.xe) (hc : X.calm = true) (hfs : ∀ x, foldedSetIterable iter X.env x = pure x)
    (q : QI X tg iter σ H fun J H1 => ∃ (n : Nat) (G : Hp → Prop) (Y : Nat → Hp → V → Hp → Prop), Walk J n G Y ∧ ∃ Pv : Nat → Sl → Hp → Prop, Pv 0 σ H1 ∧ (∀ i σ H, i ≤ n → Pv i σ H → G H) ∧
      (∀ i x σ H H', i < n → Pv i σ H → Y i H x H' → QG X tg x σ H' fun σ2 H2 => QB X body { E with nx := Pv (i + 1), ct := Pv (i + 1), bk := E.nx } σ2 H2) ∧ (∀ σ H, Pv n σ H → E.nx σ H)) : QS X (.For tg iter body [] pos) E σ H :=
  ws_of (ps_for hp hc pi_sem pg_sem pss_sem hfs) (q.imp fun J H1 ⟨n, G, Y, w, Pv, h0, hG, hs, hd⟩ => for_it w Pv h0 hG hs hd)
/-! ### comprehensions -/
def bits (n : Nat) (F : Nat → Option D) : List D := (List.range n).filterMap F
theorem bits_succ (n : Nat) (F : Nat → Option D) : bits (n + 1) F = bits n F ++ (F n).toList := by
  unfold bits
  rw [List.range_succ, List.filterMap_append]
  cases e : F n <;> simp [e]
theorem bits_len (n : Nat) (F : Nat → Option D) : (bits n F).length ≤ n := by
  unfold bits
  exact Nat.le_trans (List.length_filterMap_le _ _) (by simp)
/-- what a comprehension has made behind i turns -/
structure LcAt (K : PySem.W.Frag) (H1 : Hp) (Dl : Addr) (F : Nat → Option D) (i : Nat) (H : Hp) : Prop where
  s : Same H1 H
  l : ∃ acc, H Dl = some (.lst acc) ∧ RpAll K H acc (bits i F)
theorem LcAt.zero {K : PySem.W.Frag} {H1 : Hp} {Dl : Addr} {F : Nat → Option D} (h : H1 Dl = none) : LcAt K H1 Dl F 0 (upd H1 Dl (.lst [])) := ⟨same_new h, [], upd_same, .nil⟩
theorem LcAt.skip {K : PySem.W.Frag} {H1 H H' : Hp} {Dl : Addr} {F : Nat → Option D} {i : Nat} (h : LcAt K H1 Dl F i H) (s : Same H H') (e : F i = none) : LcAt K H1 Dl F (i + 1) H' := by
  obtain ⟨acc, h1, h2⟩ := h.l
  exact ⟨h.s.trans s, acc, s _ _ h1, by rw [bits_succ, e]; simpa using h2.to s⟩
theorem LcAt.more {K : PySem.W.Frag} {H1 H H' : Hp} {Dl : Addr} {F : Nat → Option D} {i : Nat} {y : V} {d : D} (h : LcAt K H1 Dl F i H) (h0 : H1 Dl = none) (s : Same H H') (e : F i = some d) (him : ∀ i d, F i = some d → d.im = true) (r : Rp K H' y d) :
    ∃ acc, H' Dl = some (.lst acc) ∧ acc.length = (bits i F).length ∧ LcAt K H1 Dl F (i + 1) (upd H' Dl (.lst (acc ++ [y]))) := by
  obtain ⟨acc, h1, h2⟩ := h.l
  have hk : ∀ b o, b ≠ Dl → H' b = some o → (upd H' Dl (.lst (acc ++ [y]))) b = some o := fun b o n q => by rw [upd_ne n]; exact q
  have hall : imAll (bits i F) = true := by
    rw [imAll_iff]
    intro d hd
    unfold bits at hd
    rw [List.mem_filterMap] at hd
    obtain ⟨j, _, hj⟩ := hd
    exact him j d hj
  refine ⟨acc, s _ _ h1, h2.len, ⟨fun b o q => ?_, acc ++ [y], upd_same, ?_⟩⟩
  · rw [upd_ne (ne_of_none q h0)]
    exact s _ _ (h.s _ _ q)
  · rw [bits_succ, e]
    exact (RpAll.keep ⟨acc, s _ _ h1⟩ hk _ _ hall (h2.to s)).snoc (Rp.keep ⟨acc, s _ _ h1⟩ hk _ _ (him i d e) r)
/-- a comprehension with at most one test, from its parts -/
def QT1 (X : Cx) (scope : Scope) : List Expr → Sl → Hp → (Bool → Hp → Prop) → Prop
  | [] => tYes
  | [c] => BT X scope c
  | _ => fun _ _ _ => False
def QL (X : Cx) (elt tg iter : Expr) (ifs : List Expr) (scope : Scope) (vs : List Nat) (σ : Sl) (H : Hp) (Q : VK) : Prop := tLc (QI X tg iter) (BG X scope tg) (QT1 X scope ifs) (BE X scope elt) vs σ H Q
theorem pts_1 {scope : Scope} : ∀ (ifs : List Expr) (s : Shared) (H : Hp) (C : Addr) (cl : List (Str × Addr)) (fp : List Addr), PTs (X.blk s H scope (compEnvC scope cl C X.env) fp) ifs (QT1 X scope ifs)
  | [], _, _, _, _, _ => pts_nil
  | [c], s, H, C, cl, fp => pts_one ⟨fun pins s1 σ1 H2 Q1 I h => h s H C cl fp pins s1 I⟩
  | _ :: _ :: _, _, _, _, _, _ => by
    exact ⟨fun _ _ _ _ _ _ h => h.elim⟩
theorem we_lc {elt : Expr} {ifs : List Expr} {scope : Scope} {own : List (Str × Nat)} {vs : List Nat} {Q : VK} (hv : own.map (·.2) = vs) (hc : X.calm = true) (nd : X.N.Nodup) (ok : BlkOk X.N X.env.scope scope own) (hs : ∀ x, foldedSetIterable iter X.env x = pure x)
    (q : QL X elt tg iter ifs scope vs σ H Q) : QE X (.ListComp elt [⟨tg, iter, ifs, 0⟩] scope pos) σ H Q := by
  subst hv
  exact we_of (pe_lc hc nd pi_sem ok (g := BG X scope tg) (tt := QT1 X scope ifs) (te := BE X scope elt) (fun s H0 C cl fp => ⟨fun pins s1 σ1 H2 v u Q1 I r h => h s H0 C cl fp pins s1 u I r⟩) (pts_1 ifs) (fun s H0 C cl fp => ⟨fun pins s1 σ1 H2 Q1 I h => h s H0 C cl fp pins s1 I⟩) hs) q
/-- name = [..] in a def -/
theorem ws_setLc {elt : Expr} {ifs : List Expr} {scope : Scope} {own : List (Str × Nat)} {vs : List Nat} {D : Ends} {y : Str} {j : Nat} {py spos : Pos} (hv : own.map (·.2) = vs) (hc : X.calm = true) (nd : X.N.Nodup) (hy : X.N[j]? = some y) (hyl : X.env.scope.names.lookup y = some .local)
    (hsw : swapsWith (.ListComp elt [⟨tg, iter, ifs, 0⟩] scope pos) (some (.Name y py)) spos.line X.env = pure true) (ok : BlkOk X.N X.env.scope scope own) (hs : ∀ x, foldedSetIterable iter X.env x = pure x)
    (q : QL X elt tg iter ifs scope vs σ H fun v H1 => D.nx (σ.set j (some v)) H1) : QS X (.Assign [.Name y py] (.ListComp elt [⟨tg, iter, ifs, 0⟩] scope pos) spos) D σ H := by
  subst hv
  exact ws_of (ps_setLc hc nd hy hyl hsw pi_sem ok (g := BG X scope tg) (tt := QT1 X scope ifs) (te := BE X scope elt) (fun s H0 C cl fp => ⟨fun pins s1 σ1 H2 v u Q1 I r h => h s H0 C cl fp pins s1 u I r⟩) (pts_1 ifs) (fun s H0 C cl fp => ⟨fun pins s1 σ1 H2 Q1 I h => h s H0 C cl fp pins s1 I⟩) hs) q
/-- [elt for tg in iter]: F tells what turn i brings -/
theorem ql_lc {elt : Expr} {scope : Scope} {vs : List Nat} {Q : VK} {σw : Sl} (hw : wipe σ vs = σw)
    (q : QI X tg iter σ H fun J H1 => ∃ (n : Nat) (G : Hp → Prop) (Y : Nat → Hp → V → Hp → Prop), Walk J n G Y ∧ n < sizeLine ∧ (∀ H', Same H1 H' → G H') ∧ ∃ F : Nat → Option D, (∀ i d, F i = some d → d.im = true) ∧
      (∀ i x H2 H3, i < n → Same H1 H2 → Y i H2 x H3 → BG X scope tg x σw H3 fun σ2 H4 => wipe σ2 vs = σw ∧ BE X scope elt σ2 H4 fun y H5 => Same H2 H5 ∧ ∃ d, F i = some d ∧ Rp X.K H5 y d) ∧
      (∀ p H2 ys, Same H1 H2 → H1 p = none → H2 p = some (.lst ys) → RpAll X.K H2 ys (bits n F) → Q (.ref p) H2)) : QL X elt tg iter [] scope vs σ H Q := by
  show QI X tg iter σ H _
  refine q.imp fun J H1 ⟨n, G, Y, w, hn, hG, F, him, hb, hq⟩ Dl hD => ?_
  refine lc_it w (LcAt X.K H1 Dl F) (LcAt.zero hD) (fun i H _ h => hG H h.s) (fun i x H2 H3 hi h y => ?_) (fun H2 h => ?_)
  · rw [hw]
    have hb' := hb i x H2 H3 hi h.s y
    intro s H0 C cl fp pins s1 u I r
    refine thn (hb' s H0 C cl fp pins s1 u I r) fun _ s2 ⟨σ2, H4, I4, e4, b4⟩ => ⟨σ2, H4, I4, e4, ?_⟩
    delta QT1 tYes
    dsimp only
    rw [if_pos rfl]
    intro s H0 C cl fp pins s1 I
    refine thn (b4 s H0 C cl fp pins s1 I) fun u s3 ⟨v, H5, I5, r5, s5, d, e5, rp⟩ => ⟨v, H5, I5, r5, ?_⟩
    obtain ⟨acc, h1, h2, h3⟩ := h.more hD s5 e5 him rp
    exact ⟨acc, h1, by rw [h2]; exact Nat.lt_of_le_of_lt (bits_len _ _) (by omega), h3⟩
  · obtain ⟨acc, h1, h2⟩ := h.l
    exact hq Dl H2 acc h.s hD h1 h2
/-- [elt for tg in iter if c] -/
theorem ql_lcT {elt c : Expr} {scope : Scope} {vs : List Nat} {Q : VK} {σw : Sl} (hw : wipe σ vs = σw)
    (q : QI X tg iter σ H fun J H1 => ∃ (n : Nat) (G : Hp → Prop) (Y : Nat → Hp → V → Hp → Prop), Walk J n G Y ∧ n < sizeLine ∧ (∀ H', Same H1 H' → G H') ∧ ∃ F : Nat → Option D, (∀ i d, F i = some d → d.im = true) ∧
      (∀ i x H2 H3, i < n → Same H1 H2 → Y i H2 x H3 → BG X scope tg x σw H3 fun σ2 H4 => wipe σ2 vs = σw ∧ BT X scope c σ2 H4 fun b H5 => (b = true → BE X scope elt σ2 H5 fun y H6 => Same H2 H6 ∧ ∃ d, F i = some d ∧ Rp X.K H6 y d) ∧ (b = false → Same H2 H5 ∧ F i = none)) ∧
      (∀ p H2 ys, Same H1 H2 → H1 p = none → H2 p = some (.lst ys) → RpAll X.K H2 ys (bits n F) → Q (.ref p) H2)) : QL X elt tg iter [c] scope vs σ H Q := by
  show QI X tg iter σ H _
  refine q.imp fun J H1 ⟨n, G, Y, w, hn, hG, F, him, hb, hq⟩ Dl hD => ?_
  refine lc_it w (LcAt X.K H1 Dl F) (LcAt.zero hD) (fun i H _ h => hG H h.s) (fun i x H2 H3 hi h y => ?_) (fun H2 h => ?_)
  · rw [hw]
    have hb' := hb i x H2 H3 hi h.s y
    intro s H0 C cl fp pins s1 u I r
    refine thn (hb' s H0 C cl fp pins s1 u I r) fun _ s2 ⟨σ2, H4, I4, e4, b4⟩ => ⟨σ2, H4, I4, e4, ?_⟩
    intro s H0 C cl fp pins s1 I
    refine thn (b4 s H0 C cl fp pins s1 I) fun b s3 ⟨H5, I5, t5, f5⟩ => ⟨H5, I5, ?_⟩
    cases b with
    | true =>
      rw [if_pos rfl]
      have t5 := t5 rfl
      intro s H0 C cl fp pins s1 I
      refine thn (t5 s H0 C cl fp pins s1 I) fun u s3 ⟨v, H5, I5, r5, s5, d, e5, rp⟩ => ⟨v, H5, I5, r5, ?_⟩
      obtain ⟨acc, h1, h2, h3⟩ := h.more hD s5 e5 him rp
      exact ⟨acc, h1, by rw [h2]; exact Nat.lt_of_le_of_lt (bits_len _ _) (by omega), h3⟩
    | false =>
      rw [if_neg Bool.false_ne_true]
      obtain ⟨s5, e5⟩ := f5 rfl
      exact h.skip s5 e5
  · obtain ⟨acc, h1, h2⟩ := h.l
    exact hq Dl H2 acc h.s hD h1 h2
/-! ### two clauses -/
def BI (X : Cx) (scope : Scope) (tg iter : Expr) (σ : Sl) (H : Hp) (R : It → Hp → Prop) : Prop := ∀ (s : Shared) (H0 : Hp) (C : Addr) (cl : List (Str × Addr)) (fp : List Addr), QI (X.blk s H0 scope (compEnvC scope cl C X.env) fp) tg iter σ H R
def QL2 (X : Cx) (elt tg iter tg1 iter1 : Expr) (ifs ifs1 : List Expr) (scope : Scope) (vs vs1 : List Nat) (σ : Sl) (H : Hp) (Q : VK) : Prop :=
  tLc2 (QI X tg iter) (BG X scope tg) (QT1 X scope ifs) (BI X scope tg1 iter1) (BG X scope tg1) (QT1 X scope ifs1) (BE X scope elt) vs vs1 σ H Q
theorem we_lc2 {elt tg1 iter1 : Expr} {ifs ifs1 : List Expr} {scope : Scope} {own : List (Str × Nat)} {vs vs1 : List Nat} {Q : VK} (hv : own.map (·.2) = vs) (hv1 : ∀ i ∈ vs1, i ∈ own.map (·.2)) (hc : X.calm = true) (nd : X.N.Nodup) (ok : BlkOk X.N X.env.scope scope own) (hs : ∀ x, foldedSetIterable iter X.env x = pure x) (hs1 : ∀ env x, foldedSetIterable iter1 env x = pure x)
    (q : QL2 X elt tg iter tg1 iter1 ifs ifs1 scope vs vs1 σ H Q) : QE X (.ListComp elt [⟨tg, iter, ifs, 0⟩, ⟨tg1, iter1, ifs1, 0⟩] scope pos) σ H Q := by
  subst hv
  exact we_of (pe_lc2 hc nd pi_sem ok hv1 (g := BG X scope tg) (tt := QT1 X scope ifs) (wi1 := BI X scope tg1 iter1) (g1 := BG X scope tg1) (tt1 := QT1 X scope ifs1) (te := BE X scope elt) (fun s H0 C cl fp => ⟨fun pins s1 σ1 H2 v u Q1 I r h => h s H0 C cl fp pins s1 u I r⟩) (pts_1 ifs)
    (fun s H0 C cl fp => ⟨fun pins s1 σ1 H2 R I h => h s H0 C cl fp pins s1 I⟩) (fun s H0 C cl fp => ⟨fun pins s1 σ1 H2 v u Q1 I r h => h s H0 C cl fp pins s1 u I r⟩) (pts_1 ifs1) (fun s H0 C cl fp => ⟨fun pins s1 σ1 H2 Q1 I h => h s H0 C cl fp pins s1 I⟩) hs hs1) q
theorem ws_setLc2 {elt tg1 iter1 : Expr} {ifs ifs1 : List Expr} {scope : Scope} {own : List (Str × Nat)} {vs vs1 : List Nat} {D : Ends} {y : Str} {j : Nat} {py spos : Pos} (hv : own.map (·.2) = vs) (hv1 : ∀ i ∈ vs1, i ∈ own.map (·.2)) (hc : X.calm = true) (nd : X.N.Nodup) (hy : X.N[j]? = some y) (hyl : X.env.scope.names.lookup y = some .local)
    (hsw : swapsWith (.ListComp elt [⟨tg, iter, ifs, 0⟩, ⟨tg1, iter1, ifs1, 0⟩] scope pos) (some (.Name y py)) spos.line X.env = pure true) (ok : BlkOk X.N X.env.scope scope own) (hs : ∀ x, foldedSetIterable iter X.env x = pure x) (hs1 : ∀ env x, foldedSetIterable iter1 env x = pure x)
    (q : QL2 X elt tg iter tg1 iter1 ifs ifs1 scope vs vs1 σ H fun v H1 => D.nx (σ.set j (some v)) H1) : QS X (.Assign [.Name y py] (.ListComp elt [⟨tg, iter, ifs, 0⟩, ⟨tg1, iter1, ifs1, 0⟩] scope pos) spos) D σ H := by
  subst hv
  exact ws_of (ps_setLc2 hc nd hy hyl hsw pi_sem ok hv1 (g := BG X scope tg) (tt := QT1 X scope ifs) (wi1 := BI X scope tg1 iter1) (g1 := BG X scope tg1) (tt1 := QT1 X scope ifs1) (te := BE X scope elt) (fun s H0 C cl fp => ⟨fun pins s1 σ1 H2 v u Q1 I r h => h s H0 C cl fp pins s1 u I r⟩) (pts_1 ifs)
    (fun s H0 C cl fp => ⟨fun pins s1 σ1 H2 R I h => h s H0 C cl fp pins s1 I⟩) (fun s H0 C cl fp => ⟨fun pins s1 σ1 H2 v u Q1 I r h => h s H0 C cl fp pins s1 u I r⟩) (pts_1 ifs1) (fun s H0 C cl fp => ⟨fun pins s1 σ1 H2 Q1 I h => h s H0 C cl fp pins s1 I⟩) hs hs1) q
/-- what the outer turns before i have made -/
def flat (m : Nat → Nat) (F : Nat → Nat → Option D) (i : Nat) : List D := (List.range i).flatMap fun i => bits (m i) (F i)
theorem flat_succ (m : Nat → Nat) (F : Nat → Nat → Option D) (i : Nat) : flat m F (i + 1) = flat m F i ++ bits (m i) (F i) := by
  unfold flat
  rw [List.range_succ, List.flatMap_append]
  simp
theorem flat_len (m : Nat → Nat) (F : Nat → Nat → Option D) (M : Nat) : ∀ i, (∀ k, k < i → m k ≤ M) → (flat m F i).length ≤ i * M
  | 0, _ => by simp [flat]
  | i + 1, h => by
    rw [flat_succ, List.length_append, Nat.succ_mul]
    have := flat_len m F M i fun k hk => h k (by omega)
    have := bits_len (m i) (F i)
    have := h i (by omega)
    omega
theorem flat_im {m : Nat → Nat} {F : Nat → Nat → Option D} (him : ∀ i j d, F i j = some d → d.im = true) (i j k : Nat) : imAll (flat m F i ++ bits j (F k)) = true := by
  rw [imAll_iff]
  intro d hd
  have aux : ∀ n i, d ∈ bits n (F i) → d.im = true := fun n i h => by
    unfold bits at h
    rw [List.mem_filterMap] at h
    obtain ⟨j, _, hj⟩ := h
    exact him i j d hj
  rw [List.mem_append] at hd
  rcases hd with hd | hd
  · unfold flat at hd
    rw [List.mem_flatMap] at hd
    obtain ⟨i, _, h⟩ := hd
    exact aux _ _ h
  · exact aux _ _ hd
structure LcL (K : PySem.W.Frag) (H1 : Hp) (Dl : Addr) (L : List D) (H : Hp) : Prop where
  s : Same H1 H
  l : ∃ acc, H Dl = some (.lst acc) ∧ RpAll K H acc L
theorem LcL.to {K : PySem.W.Frag} {H1 H H' : Hp} {Dl : Addr} {L : List D} (h : LcL K H1 Dl L H) (s : Same H H') : LcL K H1 Dl L H' := by
  obtain ⟨acc, h1, h2⟩ := h.l
  exact ⟨h.s.trans s, acc, s _ _ h1, h2.to s⟩
theorem LcL.more {K : PySem.W.Frag} {H1 H : Hp} {Dl : Addr} {L : List D} {y : V} {d : D} (h : LcL K H1 Dl L H) (h0 : H1 Dl = none) (him : imAll L = true) (hd : d.im = true) (r : Rp K H y d) :
    ∃ acc, H Dl = some (.lst acc) ∧ acc.length = L.length ∧ LcL K H1 Dl (L ++ [d]) (upd H Dl (.lst (acc ++ [y]))) := by
  obtain ⟨acc, h1, h2⟩ := h.l
  have hk : ∀ b o, b ≠ Dl → H b = some o → (upd H Dl (.lst (acc ++ [y]))) b = some o := fun b o n q => by rw [upd_ne n]; exact q
  refine ⟨acc, h1, h2.len, ⟨fun b o q => ?_, acc ++ [y], upd_same, ?_⟩⟩
  · rw [upd_ne (ne_of_none q h0)]
    exact h.s _ _ q
  · exact (RpAll.keep ⟨acc, h1⟩ hk _ _ him h2).snoc (Rp.keep ⟨acc, h1⟩ hk _ _ hd r)
/-- all but one list as it was -/
def Kp (H H' : Hp) : Prop := ∃ p, Lst H p ∧ ∀ b o, b ≠ p → H b = some o → H' b = some o
theorem Kp.rp {K : PySem.W.Frag} {H H' : Hp} {v : V} {d : D} (k : Kp H H') (h : Rp K H v d) (m : d.im = true) : Rp K H' v d := by
  obtain ⟨p, l, s⟩ := k
  exact Rp.keep l s d v m h
theorem Kp.rpA {K : PySem.W.Frag} {H H' : Hp} {v : List V} {d : List D} (k : Kp H H') (h : RpAll K H v d) (m : imAll d = true) : RpAll K H' v d := by
  obtain ⟨p, l, s⟩ := k
  exact RpAll.keep l s d v m h
/-- [elt for tg in iter for tg1 in iter1 (if c)]: F i j tells what the turn j in turn i brings -/
theorem ql_lc2 {elt tg1 iter1 : Expr} {ifs1 : List Expr} {scope : Scope} {vs vs1 : List Nat} {Q : VK} {σw : Sl} (hw : wipe σ vs = σw)
    (q : QI X tg iter σ H fun J H1 => ∃ (n : Nat) (G : Hp → Prop) (Y : Nat → Hp → V → Hp → Prop), Walk J n G Y ∧ (∀ H', Same H1 H' → G H') ∧ ∃ (m : Nat → Nat) (M : Nat) (F : Nat → Nat → Option D), n * M < sizeLine ∧ (∀ i, i < n → m i ≤ M) ∧ (∀ i j d, F i j = some d → d.im = true) ∧
      (∀ i x H2 H3, i < n → Same H1 H2 → Y i H2 x H3 → BG X scope tg x σw H3 fun σ2 H4 => wipe σ2 vs = σw ∧ BI X scope tg1 iter1 σ2 H4 fun J1 H5 => Same H2 H5 ∧ ∃ (G1 : Hp → Prop) (Y1 : Nat → Hp → V → Hp → Prop), Walk J1 (m i) G1 Y1 ∧ (∀ H', Same H1 H' → Kp H5 H' → G1 H') ∧
        ∀ j y H6 H7, j < m i → Same H1 H6 → Kp H5 H6 → Y1 j H6 y H7 → BG X scope tg1 y (wipe σ2 vs1) H7 fun σ3 H8 => wipe σ3 vs1 = wipe σ2 vs1 ∧
          QT1 X scope ifs1 σ3 H8 fun b H9 => (b = true → BE X scope elt σ3 H9 fun z H10 => Same H6 H10 ∧ ∃ d, F i j = some d ∧ Rp X.K H10 z d) ∧ (b = false → Same H6 H9 ∧ F i j = none)) ∧
      (∀ p H2 ys, Same H1 H2 → H1 p = none → H2 p = some (.lst ys) → RpAll X.K H2 ys (flat m F n) → Q (.ref p) H2)) : QL2 X elt tg iter tg1 iter1 [] ifs1 scope vs vs1 σ H Q := by
  show QI X tg iter σ H _
  refine q.imp fun J H1 ⟨n, G, Y, w, hG, m, M, F, hz, hm, him, hb, hq⟩ Dl hD => ?_
  refine ⟨fun i k H => k = n - i ∧ i ≤ n ∧ LcL X.K H1 Dl (flat m F i) H, ⟨n, by simp, Nat.zero_le _, ⟨same_new hD, [], upd_same, .nil⟩⟩, ?_⟩
  rintro i k H2 ⟨rfl, hi, p⟩
  by_cases hlt : i < n
  · refine .inr ⟨w.goes i H2 hlt (hG _ p.s), fun H' => LcL X.K H1 Dl (flat m F (i + 1)) H', fun H' p' => ⟨n - (i + 1), by omega, rfl, hlt, p'⟩, fun x H3 y => ?_⟩
    rw [hw]
    have hb' := hb i x H2 H3 hlt p.s (w.yields i H2 x H3 hlt (hG _ p.s) y)
    intro s H0 C cl fp pins s1 u I r
    refine thn (hb' s H0 C cl fp pins s1 u I r) fun _ s2 ⟨σ2, H4, I4, e4, b4⟩ => ⟨σ2, H4, I4, e4, ?_⟩
    delta QT1 tYes
    dsimp only
    rw [if_pos rfl]
    intro s H0 C cl fp pins s1 I
    refine thn (b4 s H0 C cl fp pins s1 I) fun v s3 h3 => ?_
    refine thn h3 fun itv s4 ⟨it, fp', tn, J1, H5, e, J2, T, t0, f, s5, G1, Y1, w1, hG1, hb1⟩ => ⟨it, fp', tn, J1, H5, e, J2, T, t0, f, ?_⟩
    obtain ⟨acc5, l5, _⟩ := (p.to s5).l
    refine ⟨fun j k H => k = m i - j ∧ j ≤ m i ∧ (∀ b o, b ≠ Dl → H5 b = some o → H b = some o) ∧ LcL X.K H1 Dl (flat m F i ++ bits j (F i)) H, ⟨m i, by simp, Nat.zero_le _, fun _ _ _ e => e, by simpa [bits] using p.to s5⟩, ?_⟩
    rintro j k H6 ⟨rfl, hj, s6, p6⟩
    by_cases hjlt : j < m i
    · refine .inr ⟨w1.goes j H6 hjlt (hG1 _ p6.s ⟨Dl, ⟨_, l5⟩, s6⟩), fun H' => (∀ b o, b ≠ Dl → H5 b = some o → H' b = some o) ∧ LcL X.K H1 Dl (flat m F i ++ bits (j + 1) (F i)) H', fun H' p' => ⟨m i - (j + 1), by omega, rfl, hjlt, p'.1, p'.2⟩, fun y H7 yy => ?_⟩
      have hb2 := hb1 j y H6 H7 hjlt p6.s ⟨Dl, ⟨_, l5⟩, s6⟩ (w1.yields j H6 y H7 hjlt (hG1 _ p6.s ⟨Dl, ⟨_, l5⟩, s6⟩) yy)
      intro s H0 C cl fp pins s1 u I r
      refine thn (hb2 s H0 C cl fp pins s1 u I r) fun _ s2 ⟨σ3, H8, I8, e8, b8⟩ => ⟨σ3, H8, I8, e8, ?_⟩
      have go : ∀ (b : Bool) (H9 : Hp), ((b = true → BE X scope elt σ3 H9 fun z H10 => Same H6 H10 ∧ ∃ d, F i j = some d ∧ Rp X.K H10 z d) ∧ (b = false → Same H6 H9 ∧ F i j = none)) →
          if b = true then BE X scope elt σ3 H9 fun y H7 => ∃ acc, H7 Dl = some (.lst acc) ∧ acc.length < sizeLine ∧ ((∀ b o, b ≠ Dl → H5 b = some o → (upd H7 Dl (.lst (acc ++ [y]))) b = some o) ∧ LcL X.K H1 Dl (flat m F i ++ bits (j + 1) (F i)) (upd H7 Dl (.lst (acc ++ [y])))) else ((∀ b o, b ≠ Dl → H5 b = some o → H9 b = some o) ∧ LcL X.K H1 Dl (flat m F i ++ bits (j + 1) (F i)) H9) := by
        intro b H9 ⟨t9, f9⟩
        cases b with
        | true =>
          rw [if_pos rfl]
          have t9 := t9 rfl
          intro s H0 C cl fp pins s1 I
          refine thn (t9 s H0 C cl fp pins s1 I) fun u s3 ⟨z, H10, I10, r10, s10, d, ed, rp⟩ => ⟨z, H10, I10, r10, ?_⟩
          obtain ⟨acc, g1, g2, g3⟩ := (p6.to s10).more hD (flat_im him i j i) (him _ _ _ ed) rp
          refine ⟨acc, g1, ?_, ?_, ?_⟩
          · rw [g2, List.length_append]
            have a1 := flat_len m F M i fun k hk => hm k (by omega)
            have a2 := bits_len j (F i)
            have a3 := hm i hlt
            have a4 : i * M + M ≤ n * M := by
              rw [← Nat.succ_mul]
              exact Nat.mul_le_mul_right _ hlt
            omega
          · intro b o hb e
            rw [upd_ne hb]
            exact s10 _ _ (s6 b o hb e)
          · rw [bits_succ, ed, ← List.append_assoc]
            exact g3
        | false =>
          rw [if_neg Bool.false_ne_true]
          obtain ⟨s9, e9⟩ := f9 rfl
          refine ⟨fun b o hb e => s9 _ _ (s6 b o hb e), ?_⟩
          rw [bits_succ, e9]
          simpa using p6.to s9
      cases ifs1 with
      | nil => exact go true H8 b8
      | cons c r =>
        cases r with
        | nil =>
          intro s H0 C cl fp pins s1 I
          refine thn (b8 s H0 C cl fp pins s1 I) fun b s3 ⟨H9, I9, b9⟩ => ⟨H9, I9, go b H9 b9⟩
        | cons _ _ => exact b8.elim
    · have e : j = m i := by omega
      subst e
      refine .inl ⟨w1.stops H6 (hG1 _ p6.s ⟨Dl, ⟨_, l5⟩, s6⟩), ?_⟩
      rw [flat_succ]
      exact p6
  · have e : i = n := by omega
    subst e
    obtain ⟨acc, h1, h2⟩ := p.l
    exact .inl ⟨w.stops H2 (hG _ p.s), hq Dl H2 acc p.s hD h1 h2⟩
end
end Sx

/-! St: try with several clauses, some of them with a name; raise. -/
namespace Sx
open PySem PySem.Spec PyProof.Rows L2

abbrev TSu := Addr → Value → Option Addr → TS
/-- the ends of a suite whose name (slot i) is struck behind it -/
def Ends.strike (E : Ends) (i : Nat) : Ends := { nx := fun σ H => E.nx (σ.set i none) H, rt := E.rt, bk := fun σ H => E.bk (σ.set i none) H, ct := fun σ H => E.ct (σ.set i none) H }
/-- what the clauses wish of an exception, one after another -/
def wMix (K : PySem.W.Frag) (W0 : WX) (E : Ends) : List (Value × Option Nat × TSu) → WX
  | [] => W0
  | (c, none, ts) :: r => fun k d σ H => ∃ b, PySem.W.exmOne K k c = some b ∧ (b = true → ∀ a, H a = none → ts a k d E σ H) ∧ (b = false → wMix K W0 E r k d σ H)
  | (c, some i, ts) :: r => fun k d σ H => ∃ b, PySem.W.exmOne K k c = some b ∧ (b = true → ∀ a, H a = none → ts a k d (Ends.strike E i) (σ.set i (some (.ref a))) H) ∧ (b = false → wMix K W0 E r k d σ H)
inductive Clauses (X : Cx) : List ExceptHandler → List (Value × Option Nat × TSu) → Prop
  | nil : Clauses X [] []
  | bare {x : Str} {c : Value} {ts : TSu} {b0 : Stmt} {su : List Stmt} {np ps : Pos} {hs : List ExceptHandler} {l : List (Value × Option Nat × TSu)} (hc : Names X x c)
      (hu : ∀ (a : Addr) (o : Obj) (k : Value) (d : Option Addr) (pn : List (Addr × Obj)), Zc k d o → (∃ vs, o.data = .fields vs) → PSs (X.suite a ((a, o) :: pn)) (b0 :: su) (ts a k d)) (r : Clauses X hs l) :
      Clauses X (.ExceptHandler (some (.Name x np)) none (b0 :: su) ps :: hs) ((c, none, ts) :: l)
  | as {x n : Str} {i : Nat} {c : Value} {ts : TSu} {b0 : Stmt} {su : List Stmt} {np ps : Pos} {hs : List ExceptHandler} {l : List (Value × Option Nat × TSu)} (hc : Names X x c) (nd : X.N.Nodup) (hi : X.N[i]? = some n) (hl : X.env.kindOf n = some .local)
      (hu : ∀ (a : Addr) (o : Obj) (k : Value) (d : Option Addr) (pn : List (Addr × Obj)), Zc k d o → (∃ vs, o.data = .fields vs) → PSs (X.suite a ((a, o) :: pn)) (b0 :: su) (ts a k d)) (r : Clauses X hs l) :
      Clauses X (.ExceptHandler (some (.Name x np)) (some n) (b0 :: su) ps :: hs) ((c, some i, ts) :: l)
section
variable {X : Cx} {body : List Stmt} {h1 : ExceptHandler} {hs : List ExceptHandler} {l : List (Value × Option Nat × TSu)} {pos : Pos} {tb : WX → TS} {W0 : WX}
theorem ps_mix (hst : X.stack = X.env :: X.outer) (hfr0 : X.env.frame = some X.env.locals) (tk : Takes X W0)
    (hb : ∀ (W : WX) (pn : List (Addr × Obj)) (xe : Value → Shared → Prop), Takes (X.tr pn xe) W → PassesOwn (model X.prog X.w) X.A X.env xe → PSs (X.tr pn xe) body (tb W))
    (hh : Clauses X (h1 :: hs) l) : PS X (.Try body (h1 :: hs) [] [] pos) (fun E σ H => tb (wMix X.K W0 E l) E σ H) := by
  refine ⟨fun pins s σ H E I hw => ?_⟩
  have ok := I.ok
  have fr : X.A.frames = some (X.env :: X.outer) := ok.frames.trans (by rw [hst])
  refine wpAny_Try_except (wpAny_mono ((hb (wMix X.K W0 E l) (X.pn ++ pins) (fun e z1 => wpAny (model X.prog X.w) X.A (noteFrame e X.env) (fun _ z2 => wpAny (model X.prog X.w) X.A (setFlight e none) (fun _ z3 =>
    wpAny (model X.prog X.w) X.A (handleBy e X.env (h1 :: hs)) (SP X pins E) X.xe z3) X.xe z2) X.xe z1) (fun u z xx => ?_) PassesOwn.looking).run [] s σ H E (I.toTry _) hw) (fun f z hz => ?_) fun _ _ he => he)
  · obtain ⟨a, B, sI, pi2, τ, H', k, d, rfl, J', nb, up, sky, na, os, ag, wi⟩ := xx
    have J : Inv X pins τ H' sI := J'.ofTry ok
    have sky2 : Sky B (X.env :: X.outer) a (Zc k d) X.env.locals z.heap := by rw [hst] at sky; exact sky
    show wpAny (model X.prog X.w) X.A (noteFrame (.ref a) X.env) _ _ _
    refine Sky.land Zc.steady fr hfr0 sky2 fun g fl upg => ?_
    have Jg : Inv X pins τ H' { z with heap := g } := J.landed nb fl.1 (up.trans upg) os ag
    obtain ⟨og, vg, hog, hzg, hdg⟩ := fl.there
    have noFrame : a ∉ frs (X.env :: X.outer) := fun hm => by
      obtain ⟨_, o', e', q⟩ := fl.2.2.1.mem hm
      rw [hog] at e'
      cases e'
      exact q _ hdg
    have nL : a ≠ X.env.locals := fun q => noFrame (List.mem_filterMap.mpr ⟨X.env, List.mem_cons_self, by rw [hfr0, q]⟩)
    have nF : a ∉ X.fs := fun hm => by
      obtain ⟨e, he, q⟩ := List.mem_filterMap.mp hm
      exact noFrame (List.mem_filterMap.mpr ⟨e, List.mem_cons_of_mem _ he, q⟩)
    have Sg := Jg.suite hog hdg na nL nF
    have LT : PySem.W.Looks (model X.prog X.w) g (typeOf (.ref a)) k := fun A Q E' s' kk q => wpAny_typeOf_ref (kk _ _ hog) (by rw [hzg.1]; exact q)
    have look : ∀ {x : Str} {c : Value} {np : Pos} {Q : Value → Shared → Prop} {E' : Value → Shared → Prop}, Names X x c → Q c { z with heap := g } → wpAny (model X.prog X.w) (X.A.mark (some (.ref a))) (eval (.Name x np) X.env) Q E' { z with heap := g } := fun {x c np Q E'} hc q => by
      obtain ⟨hg, hdb, hm | ⟨hm, hv, hnn⟩⟩ := hc
      · exact ld_glob (X := X.suite a ((a, og) :: (X.pn ++ pins))) Sg hg hm q hdb
      · exact ld_blt (X := X.suite a ((a, og) :: (X.pn ++ pins))) Sg hg hm hv q hnn hdb
    have go : ∀ {hs' : List ExceptHandler} {l' : List (Value × Option Nat × TSu)}, Clauses X hs' l' → wMix X.K W0 E l' k d τ H' → wpAny (model X.prog X.w) X.A (handleBy (.ref a) X.env hs') (SP X pins E) X.xe { z with heap := g } := by
      intro hs' l' hk
      induction hk with
      | nil =>
        intro wi
        refine wpAny_handleBy_nil ?_
        obtain ⟨_, _, _, oe, vs, T, _, _, he, _, hd, hT, _⟩ := id fl
        unfold PySem.passOn
        refine wpAny_bind (wpAny_field he hd hT ?_)
        rw [if_neg (show ¬ ((Value.ref T == Value.none) = true) from by simp)]
        have fin : wpAny (model X.prog X.w) X.A (setFlight (.ref a) X.env.frame) (fun _ z4 => wpAny (model X.prog X.w) X.A (throw (.ref a) : Sem Flow) (SP X pins E) X.xe z4) X.xe { z with heap := g } := by
          rw [hfr0]
          exact HandSPX.setFlight_upZ fl fun h4 hh4 up4 => wpAny_throw (tk _ _ ⟨a, B, sI, pins, τ, H', k, d, rfl, J, nb, (up.trans upg).trans up4, .inr (.inr (by rw [hst]; exact hh4)), na, os, ag, wi⟩)
        first | exact wpAny_bind (wpAny_pure (wpAny_bind fin)) | exact wpAny_bind fin
      | @bare x c ts b0 su np ps hs2 l2 hc hu r ih =>
        intro wi
        obtain ⟨b, e1, yes, no⟩ := wi
        refine wpAny_handleBy_cons (codeAny_handlers_test (look hc ((PySem.W.exm_one (M := model X.prog X.w) Jg.kIn LT e1).here ?_))) (fun q => by cases q)
        cases b with
        | false => exact ih (no rfl)
        | true =>
          refine codeAny_handlers_suite (HandSPX.lands_againZ fl fun h4 fl4 up4 => ?_)
          have J4 : Inv X pins τ H' { z with heap := h4 } := J.landed nb fl4.1 ((up.trans upg).trans up4) os ag
          obtain ⟨o4, v4, he4, hz4, hd4⟩ := fl4.there
          refine wpAny_mono ((hu a o4 k d (X.pn ++ pins) hz4 ⟨_, hd4⟩).run [] _ _ H' _ (J4.suite he4 hd4 na nL nF) (yes rfl a na)) (fun f z6 hz6 => ?_) fun _ _ q => q.elim
          cases f with
          | next => obtain ⟨σ6, H6, S6, q6⟩ := hz6; exact ⟨_, _, S6.unsuite ok, q6⟩
          | brk => obtain ⟨σ6, H6, S6, q6⟩ := hz6; exact ⟨_, _, S6.unsuite ok, q6⟩
          | cont => obtain ⟨σ6, H6, S6, q6⟩ := hz6; exact ⟨_, _, S6.unsuite ok, q6⟩
          | ret u => obtain ⟨v6, σ6, H6, S6, r6, q6⟩ := hz6; exact ⟨_, _, _, S6.unsuite ok, r6, q6⟩
      | @as x n i c ts b0 su np ps hs2 l2 hc nd hi hl hu r ih =>
        intro wi
        obtain ⟨b, e1, yes, no⟩ := wi
        refine wpAny_handleBy_cons (codeAny_handlers_test (look hc ((PySem.W.exm_one (M := model X.prog X.w) Jg.kIn LT e1).here ?_))) (fun q => by cases q)
        cases b with
        | false => exact ih (no rfl)
        | true =>
          refine codeAny_handlers_suite_as (HandSPX.lands_againZ fl fun h4 fl4 up4 => ?_)
          have J4 : Inv X pins τ H' { z with heap := h4 } := J.landed nb fl4.1 ((up.trans upg).trans up4) os ag
          obtain ⟨o4, v4, he4, hz4, hd4⟩ := fl4.there
          refine store_ok (X := X.suite a ((a, o4) :: (X.pn ++ pins))) (v := .ref a) (J4.suite he4 hd4 na nL nF) nd hi (.inl hl) rfl (fun s5 S5 => ?_) (.inr hl)
          refine wpAny_mono ((hu a o4 k d (X.pn ++ pins) hz4 ⟨_, hd4⟩).run [] s5 _ H' _ S5 (yes rfl a na)) (fun f z6 hz6 => ?_) fun _ _ q => q.elim
          have off : ∀ {σ6 : Sl} {H6 : Hp} {Q : Shared → Prop}, Inv (X.suite a ((a, o4) :: (X.pn ++ pins))) [] σ6 H6 z6 → (∀ z7, Inv X pins (σ6.set i none) H6 z7 → Q z7) →
              wpAny (model X.prog X.w) X.A (do bindName X.env n .none; unbindBehindTheSuite X.env n ps) (fun _ z7 => Q z7) X.xe z6 := fun {σ6 H6 Q} S6 q => gone_ok (S6.unsuite ok) nd hi hl q
          cases f with
          | next => obtain ⟨σ6, H6, S6, q6⟩ := hz6; exact off S6 fun z7 J7 => ⟨_, _, J7, q6⟩
          | brk => obtain ⟨σ6, H6, S6, q6⟩ := hz6; exact off S6 fun z7 J7 => ⟨_, _, J7, q6⟩
          | cont => obtain ⟨σ6, H6, S6, q6⟩ := hz6; exact off S6 fun z7 J7 => ⟨_, _, J7, q6⟩
          | ret u => obtain ⟨v6, σ6, H6, S6, r6, q6⟩ := hz6; exact off S6 fun z7 J7 => ⟨_, _, _, J7, r6, q6⟩
    exact go hh wi
  · cases f with
    | next => obtain ⟨τ, H', J', q⟩ := hz; exact wpAny_execs_nil ⟨τ, H', J'.ofTry ok, q⟩
    | brk => obtain ⟨τ, H', J', q⟩ := hz; exact ⟨τ, H', J'.ofTry ok, q⟩
    | cont => obtain ⟨τ, H', J', q⟩ := hz; exact ⟨τ, H', J'.ofTry ok, q⟩
    | ret u => obtain ⟨v, τ, H', J', r, q⟩ := hz; exact ⟨v, τ, H', J'.ofTry ok, r, q⟩
end
end Sx

/-! Sr: rules for containers, subscripts, calls that raise. -/
namespace Sx
open PySem PySem.Spec PyProof.Rows L2

section
variable {K : PySem.W.Frag} {H : Hp}
theorem RpAll.ats : ∀ {vs : List V} {ds : List D} {i : Int} {d : D}, RpAll K H vs ds → atI ds i = some d → ∃ v, atI vs i = some v ∧ Rp K H v d := by
  intro vs ds i d h e
  unfold atI at e ⊢
  rw [h.len]
  cases w : ixN ds.length i with
  | none => rw [w] at e; cases e
  | some j =>
    rw [w] at e
    exact h.getD' e
theorem Rp.tup_inv {v : V} {ds : List D} (h : Rp K H v (.tup ds)) : ∃ a xs, v = .ref a ∧ SqT K H a xs ∧ RpAll K H xs ds := by
  cases h with
  | tup h1 h2 => exact ⟨_, _, rfl, h1, h2⟩
theorem Rp.lst_inv {v : V} {ds : List D} (h : Rp K H v (.lst ds)) : ∃ a xs, v = .ref a ∧ SqL K H a xs ∧ RpAll K H xs ds := by
  cases h with
  | lst h1 h2 => exact ⟨_, _, rfl, h1, h2⟩
theorem Rp.int_inv {v : V} {i : Int} (h : Rp K H v (.int i)) : v = .int i := by cases h; rfl
theorem Rp.bl_inv {v : V} {i : Bool} (h : Rp K H v (.bl i)) : v = .bl i := by cases h; rfl
theorem Rp.str_inv {v : V} {i : Str} (h : Rp K H v (.str i)) : v = .str i := by cases h; rfl
theorem Rp.non_inv {v : V} (h : Rp K H v .non) : v = .non := by cases h; rfl
theorem Rp.tupOf {a : Addr} {xs : List V} {ds : List D} (h : H a = some (.tup xs)) (r : RpAll K H xs ds) : Rp K H (.ref a) (.tup ds) := .tup (.inl (.inl h)) r
theorem Rp.lstOf {a : Addr} {xs : List V} {ds : List D} (h : H a = some (.lst xs)) (r : RpAll K H xs ds) : Rp K H (.ref a) (.lst ds) := .lst (.inl (.inl h)) r
end

section
variable (X : Cx)
def IxW (x y : V) (H : Hp) (Q : VK) : Prop := ∀ (value slice : Expr) (pins : List (Addr × Obj)) (s : Shared) (σ : Sl) (v u : Value), Inv X pins σ H s → RelV x v → RelV y u →
  subscripted slice false v u = operate [v, u] (getItem v u) → wpAny (model X.prog X.w) X.A (subscriptTail value slice v u) (EP X pins σ Q) X.xe s
def SetW (o i v : V) (H : Hp) (Q : Hp → Prop) : Prop := ∀ (pins : List (Addr × Obj)) (s : Shared) (σ : Sl) (ov iv u : Value), Inv X pins σ H s → RelV o ov → RelV i iv → RelV v u → wpAny (model X.prog X.w) X.A (setItem ov iv u) (fun _ s' => ∃ H', Inv X pins σ H' s' ∧ Q H') X.xe s
end
section
variable {X : Cx} {a b : Expr} {σ : Sl} {H : Hp} {Q : VK} {x y v w : V} {pos p : Pos} {d d' : D} {ds es : List D}
theorem ix_sem : IxR X (IxW X) := fun value slice pins s σ _ _ _ v u _ I rx ry h hs => h value slice pins s σ v u I rx ry hs
theorem we_ix (hs : PlainIx b) (q : QE X a σ H fun x H1 => QE X b σ H1 fun y H2 => IxW X x y H2 Q) : QE X (.Subscript a b pos) σ H Q := we_of (pe_ix ix_sem pe_sem pe_sem hs) q
theorem ixw_of {r : R2} (h : IxR X r) (q : r x y H Q) : IxW X x y H Q := fun value slice pins s σ v u I rx ry hs => h value slice pins s σ H x y v u Q I rx ry q hs
theorem ixw_tup {i : Int} (h : Rp X.K H x (.tup ds)) (e : atI ds i = some d) (q : ∀ v, Rp X.K H v d → Q v H) : IxW X x (.int i) H Q := by
  obtain ⟨a, xs, rfl, h1, h2⟩ := h.tup_inv
  obtain ⟨v, h3, h4⟩ := h2.ats e
  exact ixw_of ix_tup ⟨a, xs, i, v, rfl, rfl, h1, h3, q v h4⟩
theorem ixw_lst {i : Int} (h : Rp X.K H x (.lst ds)) (e : atI ds i = some d) (q : ∀ v, Rp X.K H v d → Q v H) : IxW X x (.int i) H Q := by
  obtain ⟨a, xs, rfl, h1, h2⟩ := h.lst_inv
  obtain ⟨v, h3, h4⟩ := h2.ats e
  exact ixw_of ix_list ⟨a, xs, i, v, rfl, rfl, h1, h3, q v h4⟩
theorem ixw_sl {i : Int} {a : Addr} {xs : List V} {v : V} (h : SqL X.K H a xs) (e : atI xs i = some v) (q : Q v H) : IxW X (.ref a) (.int i) H Q := ixw_of ix_list ⟨a, xs, i, v, rfl, rfl, h, e, q⟩
theorem ixw_st {i : Int} {a : Addr} {xs : List V} {v : V} (h : SqT X.K H a xs) (e : atI xs i = some v) (q : Q v H) : IxW X (.ref a) (.int i) H Q := ixw_of ix_tup ⟨a, xs, i, v, rfl, rfl, h, e, q⟩
/-! xs[i] = v -/
theorem set_sem : PSet X (SetW X) := fun pins s σ H o i v ov iv u Q I ro ri rv h => h pins s σ ov iv u I ro ri rv
theorem wg_sub {o i : Expr} {Q : Sl → Hp → Prop} (ha : ∀ v, assign (.Subscript o i pos) X.env v = (do
      let ov ← holding [v] (eval o X.env)
      let iv ← holding [v, ov] (eval i X.env)
      standAt pos
      holding [v, ov, iv] (setItem ov iv v)
      release [v, ov, iv] [])) (q : QE X o σ H fun x H1 => QE X i σ H1 fun y H2 => SetW X x y v H2 (Q σ)) : QG X (.Subscript o i pos) v σ H Q :=
  wg_of (pg_sub pe_sem pe_sem set_sem ha) q
theorem setw_lst {o : Addr} {xs : List V} {k : Int} {j : Nat} {Q : Hp → Prop} (h : H o = some (.lst xs)) (e : ixN xs.length k = some j) (q : Q (upd H o (.lst (xs.set j v)))) : SetW X (.ref o) (.int k) v H Q :=
  fun pins s σ ov iv u I ro ri rv => set_list pins s σ H (.ref o) (.int k) v ov iv u Q I ro ri rv ⟨o, xs, k, j, rfl, rfl, h, e, q⟩
/-! ### len, concat, conversions, all, any, sum -/
theorem callw_len_t (h : Rp X.K H x (.tup ds)) (q : Q (.int ds.length) H) : CallW X (.builtin "len") [x] H Q := by
  obtain ⟨a, xs, rfl, h1, h2⟩ := h.tup_inv
  refine callw_of call_len ⟨.ref a, xs.length, rfl, ?_, by rw [h2.len]; exact q⟩
  exact .inr ⟨xs, h1, rfl⟩
theorem callw_len_l (h : Rp X.K H x (.lst ds)) (q : Q (.int ds.length) H) : CallW X (.builtin "len") [x] H Q := by
  obtain ⟨a, xs, rfl, h1, h2⟩ := h.lst_inv
  refine callw_of call_len ⟨.ref a, xs.length, rfl, ?_, by rw [h2.len]; exact q⟩
  exact .inl ⟨xs, h1, rfl⟩
theorem callw_all {a : Addr} {xs : List V} {bs : List Bool} (hc : X.calm = true) (h : H a = some (.lst xs)) (r : RpAll X.K H xs (bs.map D.bl)) (q : Q (.bl (bs.all id)) H) : CallW X (.builtin "all") [.ref a] H Q := by
  refine callw_of (cr_all hc) ⟨a, bs, rfl, ?_, q⟩
  rw [← r.bls_inv]
  exact .inl (.inl h)
theorem callw_any {a : Addr} {xs : List V} {bs : List Bool} (hc : X.calm = true) (h : H a = some (.lst xs)) (r : RpAll X.K H xs (bs.map D.bl)) (q : Q (.bl (bs.any id)) H) : CallW X (.builtin "any") [.ref a] H Q := by
  refine callw_of (cr_any hc) ⟨a, bs, rfl, ?_, q⟩
  rw [← r.bls_inv]
  exact .inl (.inl h)
theorem callw_sum {a : Addr} {xs : List V} {ns : List Int} (hc : X.calm = true) (h : H a = some (.lst xs)) (r : RpAll X.K H xs (ns.map D.int)) (q : Q (.int ns.sum) H) : CallW X (.builtin "sum") [.ref a] H Q := by
  refine callw_of (cr_sum hc) ⟨a, ns, rfl, ?_, q⟩
  rw [← r.ints_inv]
  exact .inl (.inl h)
theorem callw_tuple_t (h : Rp X.K H x (.tup ds)) (q : Q x H) : CallW X (.type "tuple") [x] H Q := by
  obtain ⟨a, xs, rfl, h1, h2⟩ := h.tup_inv
  exact callw_of call_tuple_of ⟨a, xs, rfl, .inr ⟨h1, q⟩⟩
theorem callw_tuple_l (h : Rp X.K H x (.lst ds)) (q : ∀ v H', Same H H' → Rp X.K H' v (.tup ds) → Q v H') : CallW X (.type "tuple") [x] H Q := by
  obtain ⟨a, xs, rfl, h1, h2⟩ := h.lst_inv
  exact callw_of call_tuple_of ⟨a, xs, rfl, .inl ⟨h1, fun l hl => q _ _ (same_new hl) (.tupOf upd_same (h2.to (same_new hl)))⟩⟩
theorem opw_catT (h1 : Rp X.K H x (.tup ds)) (h2 : Rp X.K H y (.tup es)) (hl : ds.length + es.length ≤ sizeLine) (q : ∀ v H', Same H H' → Rp X.K H' v (.tup (ds ++ es)) → Q v H') : OpW X (binaryOp .Add) x y H Q := by
  obtain ⟨a, xs, rfl, h3, h4⟩ := h1.tup_inv
  obtain ⟨b, ys, rfl, h5, h6⟩ := h2.tup_inv
  refine opw_of op_catA ⟨a, b, xs, ys, rfl, rfl, h3, h5, by rw [h4.len, h6.len]; exact hl, fun e => ?_, fun _ e => ?_, fun _ _ p hp => ?_⟩
  · subst e
    cases h4
    exact q _ _ (Same.refl _) h2
  · subst e
    cases h6
    rw [List.append_nil] at q
    exact q _ _ (Same.refl _) h1
  · exact q _ _ (same_new hp) (.tupOf upd_same ((h4.app h6).to (same_new hp)))
theorem opw_catL {a b : Addr} {xs ys : List V} (h1 : H a = some (.lst xs)) (h2 : H b = some (.lst ys)) (hl : xs.length + ys.length ≤ sizeLine) (q : ∀ p H', H p = none → Same H H' → H' p = some (.lst (xs ++ ys)) → Q (.ref p) H') : OpW X (binaryOp .Add) (.ref a) (.ref b) H Q :=
  opw_of op_cat ⟨a, b, xs, ys, rfl, rfl, h1, h2, hl, fun p hp => q _ _ hp (same_new hp) upd_same⟩
theorem callw_strI {i : Int} (hb : i.natAbs.log2 < 1920) (q : Q (.str (toString i)) H) : CallW X (.type "str") [.int i] H Q := callw_of call_str_int ⟨i, rfl, hb, q⟩
theorem we_join {o e : Expr} {apos : Pos} {z : Str} (q : QE X o σ H fun x H1 => x = .str z ∧ QE X e σ H1 fun y H2 => ∃ ys : List Str, (Rp X.K H2 y (.lst (ys.map D.str)) ∨ Rp X.K H2 y (.tup (ys.map D.str))) ∧ (ys.map (·.length)).sum + ys.length * z.length ≤ 16777216 ∧ Q (.str (Txt.join z ys)) H2)
    (hs : starEach [e] X.env = [(false, eval e X.env)]) (hbase : attributeBase o "join" X.env (eval o X.env) = eval o X.env) (hline : (apos.endLine == pos.line) = true) : QE X (.Call (.Attribute o "join" apos) [e] [] pos) σ H Q := by
  refine we_of (pe_join pe_sem pe_sem hs hbase hline) ?_
  intro pins s I
  refine thn (q pins s I) fun u s1 ⟨x, H1, I1, r1, ex, q1⟩ => ⟨x, H1, I1, r1, ⟨z, ex⟩, ?_⟩
  intro pins s I
  refine thn (q1 pins s I) fun u s1 ⟨y, H2, I2, r2, ys, h, hz, q2⟩ => ⟨y, H2, I2, r2, ?_⟩
  rcases h with h | h
  · obtain ⟨a, xs, rfl, h1, h2⟩ := h.lst_inv
    rw [h2.strs_inv] at h1
    exact ⟨z, a, ys, ex, rfl, .inl h1, hz, q2⟩
  · obtain ⟨a, xs, rfl, h1, h2⟩ := h.tup_inv
    rw [h2.strs_inv] at h1
    exact ⟨z, a, ys, ex, rfl, .inr h1, hz, q2⟩
end
/-! ### equality of data: ints, texts, tuples and lists of such -/
mutual
def D.pure : D → Bool
  | .non => true
  | .int _ => true
  | .str x => PyData.strOk x
  | .tup ds => pureAll ds
  | .lst ds => pureAll ds
  | _ => false
def pureAll : List D → Bool
  | [] => true
  | d :: r => d.pure && pureAll r
end
mutual
def D.dep : D → Nat
  | .tup ds => depAll ds + 1
  | .lst ds => depAll ds + 1
  | _ => 0
def depAll : List D → Nat
  | [] => 0
  | d :: r => max d.dep (depAll r)
end
mutual
theorem D.pure_py : ∀ d : D, d.pure = true → ∃ e, d.py = some e ∧ e.canLay0 = true ∧ e.depth = d.dep
  | .non, _ => ⟨_, rfl, rfl, rfl⟩
  | .int _, _ => ⟨_, rfl, rfl, rfl⟩
  | .str _, h => ⟨_, rfl, h, rfl⟩
  | .tup ds, h => by
    obtain ⟨es, h1, h2, h3⟩ := pureAll_py ds (by simpa [D.pure] using h)
    exact ⟨.tuple es, by simp [D.py, h1], by simpa [PyData.canLay0] using h2, by simp [PyData.depth, D.dep, h3]⟩
  | .lst ds, h => by
    obtain ⟨es, h1, h2, h3⟩ := pureAll_py ds (by simpa [D.pure] using h)
    exact ⟨.list es, by simp [D.py, h1], by simpa [PyData.canLay0] using h2, by simp [PyData.depth, D.dep, h3]⟩
  | .bl _, h => by simp [D.pure] at h
  | .obj _ _ _, h => by simp [D.pure] at h
theorem pureAll_py : ∀ ds : List D, pureAll ds = true → ∃ es, pyAll ds = some es ∧ PyData.canLayAll0 es = true ∧ PyData.depthAll es = depAll ds
  | [], _ => ⟨[], rfl, rfl, rfl⟩
  | d :: r, h => by
    have h' : d.pure = true ∧ pureAll r = true := by simpa [pureAll] using h
    obtain ⟨e, h1, h2, h3⟩ := D.pure_py d h'.1
    obtain ⟨es, g1, g2, g3⟩ := pureAll_py r h'.2
    exact ⟨e :: es, by simp [pyAll, h1, g1], by simp [PyData.canLayAll0, h2, g2], by simp [PyData.depthAll, depAll, h3, g3]⟩
end
mutual
theorem D.eqv_iff : ∀ (d1 d2 : D) (e1 e2 : PyData), d1.pure = true → d2.pure = true → d1.py = some e1 → d2.py = some e2 → (PyData.eqv e1 e2 = true ↔ d1 = d2)
  | .bl _, _, _, _, h, _, _, _ => by simp [D.pure] at h
  | .obj _ _ _, _, _, _, h, _, _, _ => by simp [D.pure] at h
  | .non, d2, e1, e2, _, p2, q1, q2 => by
    cases q1
    cases d2 <;> simp [D.py, D.pure] at q2 p2 <;> first | (subst q2; simp [PyData.eqv]) | (obtain ⟨_, _, rfl⟩ := q2; simp [PyData.eqv])
  | .int _, d2, e1, e2, _, p2, q1, q2 => by
    cases q1
    cases d2 <;> simp [D.py, D.pure] at q2 p2 <;> first | (subst q2; simp [PyData.eqv]) | (obtain ⟨_, _, rfl⟩ := q2; simp [PyData.eqv])
  | .str _, d2, e1, e2, _, p2, q1, q2 => by
    cases q1
    cases d2 <;> simp [D.py, D.pure] at q2 p2 <;> first | (subst q2; simp [PyData.eqv]) | (obtain ⟨_, _, rfl⟩ := q2; simp [PyData.eqv])
  | .tup ds, d2, e1, e2, p1, p2, q1, q2 => by
    simp only [D.py, Option.map_eq_some_iff] at q1
    obtain ⟨es, h1, rfl⟩ := q1
    cases d2 with
    | tup ds2 =>
      simp only [D.py, Option.map_eq_some_iff] at q2
      obtain ⟨es2, h2, rfl⟩ := q2
      have := pureAll_iff ds ds2 es es2 (by simpa [D.pure] using p1) (by simpa [D.pure] using p2) h1 h2
      simp [PyData.eqv, this]
    | lst ds2 =>
      simp only [D.py, Option.map_eq_some_iff] at q2
      obtain ⟨es2, h2, rfl⟩ := q2
      simp [PyData.eqv]
    | non => cases q2; simp [PyData.eqv]
    | int => cases q2; simp [PyData.eqv]
    | str => cases q2; simp [PyData.eqv]
    | bl => cases q2; simp [PyData.eqv]
    | obj => simp [D.pure] at p2
  | .lst ds, d2, e1, e2, p1, p2, q1, q2 => by
    simp only [D.py, Option.map_eq_some_iff] at q1
    obtain ⟨es, h1, rfl⟩ := q1
    cases d2 with
    | lst ds2 =>
      simp only [D.py, Option.map_eq_some_iff] at q2
      obtain ⟨es2, h2, rfl⟩ := q2
      have := pureAll_iff ds ds2 es es2 (by simpa [D.pure] using p1) (by simpa [D.pure] using p2) h1 h2
      simp [PyData.eqv, this]
    | tup ds2 =>
      simp only [D.py, Option.map_eq_some_iff] at q2
      obtain ⟨es2, h2, rfl⟩ := q2
      simp [PyData.eqv]
    | non => cases q2; simp [PyData.eqv]
    | int => cases q2; simp [PyData.eqv]
    | str => cases q2; simp [PyData.eqv]
    | bl => cases q2; simp [PyData.eqv]
    | obj => simp [D.pure] at p2
theorem pureAll_iff : ∀ (d1 d2 : List D) (e1 e2 : List PyData), pureAll d1 = true → pureAll d2 = true → pyAll d1 = some e1 → pyAll d2 = some e2 → (PyData.eqvAll e1 e2 = true ↔ d1 = d2)
  | [], d2, e1, e2, _, p2, q1, q2 => by
    cases q1
    cases d2 with
    | nil => cases q2; simp [PyData.eqvAll]
    | cons a r =>
      unfold pyAll at q2
      cases w1 : a.py <;> cases w2 : pyAll r <;> rw [w1, w2] at q2 <;> cases q2
      simp [PyData.eqvAll]
  | d :: ds, d2, e1, e2, p1, p2, q1, q2 => by
    have p1' : d.pure = true ∧ pureAll ds = true := by simpa [pureAll] using p1
    unfold pyAll at q1
    cases v1 : d.py <;> cases v2 : pyAll ds <;> rw [v1, v2] at q1 <;> cases q1
    cases d2 with
    | nil => cases q2; simp [PyData.eqvAll]
    | cons a r =>
      have p2' : a.pure = true ∧ pureAll r = true := by simpa [pureAll] using p2
      unfold pyAll at q2
      cases w1 : a.py <;> cases w2 : pyAll r <;> rw [w1, w2] at q2 <;> cases q2
      have g1 := D.eqv_iff d a _ _ p1'.1 p2'.1 v1 w1
      have g2 := pureAll_iff ds r _ _ p1'.2 p2'.2 v2 w2
      simp [PyData.eqvAll, g1, g2]
end
section
variable {X : Cx} {σ : Sl} {H : Hp} {Q : VK} {x y v w : V} {d d' : D}
theorem shaped_of {d : D} {e : PyData} (h : d.py = some e) (p : d.pure = true) (z : d.dep ≤ 64) : SeqAt.shaped e = true := by
  obtain ⟨e', h1, h2, h3⟩ := d.pure_py p
  rw [h] at h1
  cases h1
  unfold SeqAt.shaped
  rw [h2, h3]
  simpa using z
theorem opw_eqd {j : Nat} (hr : Room j X.A) (h1 : Rp X.K H x d) (h2 : Rp X.K H y d') (p1 : d.pure = true) (p2 : d'.pure = true) (z1 : d.dep ≤ 64) (z2 : d'.dep ≤ 64) (q : ∀ b : Bool, (b = true ↔ d = d') → Q (.bl b) H) : OpW X (compareOp .Eq) x y H Q := by
  obtain ⟨e1, a1, b1, c1⟩ := d.pure_py p1
  obtain ⟨e2, a2, b2, c2⟩ := d'.pure_py p2
  exact opw_of (op_eqD hr.units) ⟨e1, e2, Rp.py _ _ _ h1 a1, Rp.py _ _ _ h2 a2, shaped_of a1 p1 z1, shaped_of a2 p2 z2, q _ (D.eqv_iff _ _ _ _ p1 p2 a1 a2)⟩
theorem opw_ned {j : Nat} (hr : Room j X.A) (h1 : Rp X.K H x d) (h2 : Rp X.K H y d') (p1 : d.pure = true) (p2 : d'.pure = true) (z1 : d.dep ≤ 64) (z2 : d'.dep ≤ 64) (q : ∀ b : Bool, (b = true ↔ d = d') → Q (.bl (!b)) H) : OpW X (compareOp .NotEq) x y H Q := by
  obtain ⟨e1, a1, b1, c1⟩ := d.pure_py p1
  obtain ⟨e2, a2, b2, c2⟩ := d'.pure_py p2
  exact opw_of (op_neD hr.units) ⟨e1, e2, Rp.py _ _ _ h1 a1, Rp.py _ _ _ h2 a2, shaped_of a1 p1 z1, shaped_of a2 p2 z2, q _ (D.eqv_iff _ _ _ _ p1 p2 a1 a2)⟩
end
/-! ### calls that may raise, raise, try -/
section
variable {X : Cx} {e : Expr} {es : List Expr} {body : List Stmt} {st : Stmt} {σ : Sl} {H : Hp} {Q : VK} {E : Ends} {pos p : Pos} {x : Str} {W : WX}
theorem passX (tk : Takes X W) (σ : Sl) : Passes (L2.CX X.prog X.w) X fun c d H' => ∀ σ, W c d σ H' := fun pins σ H s u s' I c => tk u s' (XE.of_call I (fun _ _ _ h => h σ) c)
theorem we_callX {j k : Nat} {sp : Sp} {dvs : List V} (c : CalX X.prog X.w X.K X.mg X.base k x sp dvs) (tk : Takes X W) (hr : Room j X.A) (hk : k ≤ j) (hg : Gl X x)
    (q : QA X (e :: es) σ H fun vs H1 => sp (vs ++ dvs) H1 Q fun c d H' => ∀ σ, W c d σ H')
    (hdb : (x == ("__debug__" : Str)) = false := by decide) (he : starEach (e :: es) X.env = (false, eval e X.env) :: starEach es X.env := by rfl) (hpl : (backTo pos (starEach es X.env)).any (·.1) = false := by rfl) :
    QE X (.Call (.Name x p) (e :: es) [] pos) σ H Q := by
  obtain ⟨f, fd, ps, ds, F, hm, kp, b, d⟩ := c.ex
  exact we_of (pe_call F (hr.mono hk) hg hm kp b d (passX tk σ) pa_sem hdb he hpl) q
/-- a local name that holds a def -/
theorem we_callLX {N : List Str} {i j k : Nat} {f : Addr} {fd : FuncData} {ps : List Str} {sp : Sp} {dvs : List V} {ds : List Value} (F : FnOk X.prog X.w X.K X.mg X.base (L2.CX X.prog X.w) k f fd ps sp) (kp : PySem.W.keepIn X.K (.ref f) = true) (b : Binds X.K fd ps ds) (d : Vals dvs ds) (tk : Takes X W) (hr : Room j X.A) (hk : k ≤ j)
    (h : Var N σ x (.ref f) i) (hN : X.N = N) (hv : Vis X.env.scope x) (q : QA X (e :: es) σ H fun vs H1 => sp (vs ++ dvs) H1 Q fun c d H' => ∀ σ, W c d σ H')
    (hdb : (x == ("__debug__" : Str)) = false := by decide) (hcd : (x == ("__classdict__" : Str)) = false := by decide) (he : starEach (e :: es) X.env = (false, eval e X.env) :: starEach es X.env := by rfl) (hpl : (backTo pos (starEach es X.env)).any (·.1) = false := by rfl) :
    QE X (.Call (.Name x p) (e :: es) [] pos) σ H Q :=
  we_of (pe_callL (i := i) F (hr.mono hk) (hN ▸ h.n) hv kp b d (passX tk σ) pa_sem hdb hcd he hpl) ⟨h.v, q⟩
theorem ws_raise {C : Addr} {bmB : List Value} {B newId initId : String} {m : Str} {j : Nat} {p2 cpos : Pos} (hc : X.calm = true) (tk : Takes X W) (F : ExcBaseFacts B newId initId bmB) (c : PySem.W.excIn X.K C bmB newId = true) (gC : X.mg x = some (.ref C)) (kC : PySem.W.keepIn X.K (.ref C) = true) (r : Raises X (.ref C)) (hg : Gl X x)
    (q : W (.ref C) none σ H) (hdb : (x == ("__debug__" : Str)) = false := by decide) : QS X (.Raise (some (.Call (.Name x p) [.Constant (.str m) j p2] [] cpos)) none pos) E σ H :=
  ws_of (ps_raise hc tk (pmk_own F c gC kC r hg hdb)) q
/-- a tried body -/
def TB (X : Cx) (body : List Stmt) (W : WX) : TS := fun E σ H => ∀ (pn : List (Addr × Obj)) (xe : Value → Shared → Prop), Takes (X.tr pn xe) W → PassesOwn (model X.prog X.w) X.A X.env xe → QB (X.tr pn xe) body E σ H
theorem ws_try {h1 : ExceptHandler} {hs : List ExceptHandler} {l : List (Value × Option Nat × TSu)} (hst : X.stack = X.env :: X.outer) (hfr0 : X.env.frame = some X.env.locals) (tk : Takes X W)
    (hh : Clauses X (h1 :: hs) l) (q : TB X body (wMix X.K W E l) E σ H) : QS X (.Try body (h1 :: hs) [] [] pos) E σ H :=
  ws_of (ps_mix (tb := TB X body) hst hfr0 tk (fun W' pn xe tk' hp => ⟨fun pins s σ' H' E' I h => h pn xe tk' hp pins s I⟩) hh) q
end
end Sx

/-! Sq: comprehensions and loops over data, with one name as the target. -/
namespace Sx
open PySem PySem.Spec PyProof.Rows L2

/-- the slots when x is forgotten (σ'), and when it holds v (S v) -/
class inductive Tgt : List Str → Sl → Str → outParam Sl → outParam (V → Sl) → outParam Nat → Prop
  | z {N : List Str} {σ : Sl} {x : Str} {o : Option V} : Tgt (x :: N) (o :: σ) x (none :: σ) (fun v => some v :: σ) 0
  | s {N : List Str} {σ σ' : Sl} {S : V → Sl} {x y : Str} {o : Option V} {i : Nat} (h : Tgt N σ x σ' S i) : Tgt (y :: N) (o :: σ) x (o :: σ') (fun v => o :: S v) (i + 1)
instance (priority := high) Tgt.iz {N : List Str} {σ : Sl} {x : Str} {o : Option V} : Tgt (x :: N) (o :: σ) x (none :: σ) (fun v => some v :: σ) 0 := .z
instance (priority := low) Tgt.is {N : List Str} {σ σ' : Sl} {S : V → Sl} {x y : Str} {o : Option V} {i : Nat} [h : Tgt N σ x σ' S i] : Tgt (y :: N) (o :: σ) x (o :: σ') (fun v => o :: S v) (i + 1) := .s h
theorem Tgt.n {N : List Str} {σ σ' : Sl} {S : V → Sl} {x : Str} {i : Nat} (h : Tgt N σ x σ' S i) : N[i]? = some x := by
  induction h with
  | z => rfl
  | s _ ih => simpa using ih
theorem Tgt.w {N : List Str} {σ σ' : Sl} {S : V → Sl} {x : Str} {i : Nat} (h : Tgt N σ x σ' S i) : σ.set i none = σ' := by
  induction h with
  | z => rfl
  | s _ ih => simp [ih]
theorem Tgt.p {N : List Str} {σ σ' : Sl} {S : V → Sl} {x : Str} {i : Nat} (h : Tgt N σ x σ' S i) (v : V) : σ'.set i (some v) = S v := by
  induction h with
  | z => rfl
  | s _ ih => simp [ih]
theorem Tgt.b {N : List Str} {σ σ' : Sl} {S : V → Sl} {x : Str} {i : Nat} (h : Tgt N σ x σ' S i) (v : V) : (S v).set i none = σ' := by
  induction h with
  | z => rfl
  | s _ ih => simp [ih]
theorem bits_take (ds : List D) (g : D → Option D) : ∀ n, n ≤ ds.length → bits n (fun k => (ds[k]?).bind g) = (ds.take n).filterMap g
  | 0, _ => rfl
  | n + 1, h => by
    rw [bits_succ, bits_take ds g n (by omega), List.take_succ, List.filterMap_append]
    congr 1
    rw [List.getElem?_eq_getElem (by omega)]
    cases w : g ds[n] <;> simp [w]
theorem bits_map (ds : List D) (g : D → Option D) : bits ds.length (fun k => (ds[k]?).bind g) = ds.filterMap g := by
  rw [bits_take ds g _ (Nat.le_refl _), List.take_length]
theorem bits_rg (n : Nat) (f : Nat → D) : bits n (fun k => some (f k)) = (List.range n).map f := by
  unfold bits
  rw [List.filterMap_eq_map']
theorem fm_congr {α β : Type} {f g : α → Option β} : ∀ {l : List α}, (∀ x ∈ l, f x = g x) → l.filterMap f = l.filterMap g
  | [], _ => rfl
  | a :: r, h => by
    rw [List.filterMap_cons, List.filterMap_cons, h a (by simp), fm_congr fun x hx => h x (by simp [hx])]
theorem fm_map (ds : List D) (f : D → D) : ds.filterMap (fun d => some (f d)) = ds.map f := by
  rw [List.filterMap_eq_map']
section
variable (X : Cx)
def LCb (scope : Scope) (elt : Expr) (S : V → Sl) (H1 : Hp) (ds : List D) (f : D → D) : Prop :=
  (∀ d ∈ ds, (f d).im = true) ∧ ∀ d w H2, d ∈ ds → Same H1 H2 → Rp X.K H2 w d → BE X scope elt (S w) H2 fun y H3 => Same H2 H3 ∧ Rp X.K H3 y (f d)
def LCc (scope : Scope) (elt c : Expr) (S : V → Sl) (H1 : Hp) (ds : List D) (g : D → Option D) : Prop :=
  (∀ d ∈ ds, ∀ e, g d = some e → e.im = true) ∧ ∀ d w H2, d ∈ ds → Same H1 H2 → Rp X.K H2 w d → BT X scope c (S w) H2 fun b H3 => (b = true → BE X scope elt (S w) H3 fun y H4 => Same H2 H4 ∧ ∃ e, g d = some e ∧ Rp X.K H4 y e) ∧ (b = false → Same H2 H3 ∧ g d = none)
end
section
variable {X : Cx} {elt iter c : Expr} {scope : Scope} {N : List Str} {σ σw : Sl} {S : V → Sl} {H : Hp} {Q : VK} {x : Str} {i : Nat} {px pos rp rpos : Pos} {a b : Expr}
theorem ql_seq (h : Tgt N σ x σw S i) (hN : X.N = N) (nd : X.N.Nodup)
    (hl : ∀ s H0 C cl fp, Loc (X.blk s H0 scope (compEnvC scope cl C X.env) fp).env.scope x) (hf : ∀ s H0 C cl fp, (X.blk s H0 scope (compEnvC scope cl C X.env) fp).fn x = true ∨ (X.blk s H0 scope (compEnvC scope cl C X.env) fp).env.scope.names.lookup x = some .local)
    (q : QI X (.Name x px) iter σ H fun J H1 => ∃ (n : Nat) (G : Hp → Prop) (Y : Nat → Hp → V → Hp → Prop), Walk J n G Y ∧ n < sizeLine ∧ (∀ H', Same H1 H' → G H') ∧ ∃ F : Nat → Option D, (∀ i d, F i = some d → d.im = true) ∧
      (∀ i v H2 H3, i < n → Same H1 H2 → Y i H2 v H3 → BE X scope elt (S v) H3 fun y H5 => Same H2 H5 ∧ ∃ d, F i = some d ∧ Rp X.K H5 y d) ∧
      (∀ p H2 ys, Same H1 H2 → H1 p = none → H2 p = some (.lst ys) → RpAll X.K H2 ys (bits n F) → Q (.ref p) H2)) : QL X elt (.Name x px) iter [] scope [i] σ H Q := by
  refine ql_lc (σw := σw) (by show (wipe σ []).set i none = σw; exact h.w) (q.imp fun J H1 ⟨n, G, Y, w, hn, hG, F, him, hb, hq⟩ => ⟨n, G, Y, w, hn, hG, F, him, fun k v H2 H3 hk s2 y => ?_, hq⟩)
  intro s H0 C cl fp
  refine wg_of (pg_name (i := i) nd (by show X.N[i]? = some x; rw [hN]; exact h.n) (hl s H0 C cl fp) (hf s H0 C cl fp)) ?_
  show wipe (σw.set i (some v)) [i] = σw ∧ _
  rw [h.p]
  exact ⟨by show (S v).set i none = σw; exact h.b v, hb k v H2 H3 hk s2 y⟩
theorem ql_seqT (h : Tgt N σ x σw S i) (hN : X.N = N) (nd : X.N.Nodup)
    (hl : ∀ s H0 C cl fp, Loc (X.blk s H0 scope (compEnvC scope cl C X.env) fp).env.scope x) (hf : ∀ s H0 C cl fp, (X.blk s H0 scope (compEnvC scope cl C X.env) fp).fn x = true ∨ (X.blk s H0 scope (compEnvC scope cl C X.env) fp).env.scope.names.lookup x = some .local)
    (q : QI X (.Name x px) iter σ H fun J H1 => ∃ (n : Nat) (G : Hp → Prop) (Y : Nat → Hp → V → Hp → Prop), Walk J n G Y ∧ n < sizeLine ∧ (∀ H', Same H1 H' → G H') ∧ ∃ F : Nat → Option D, (∀ i d, F i = some d → d.im = true) ∧
      (∀ i v H2 H3, i < n → Same H1 H2 → Y i H2 v H3 → BT X scope c (S v) H3 fun b H5 => (b = true → BE X scope elt (S v) H5 fun y H6 => Same H2 H6 ∧ ∃ d, F i = some d ∧ Rp X.K H6 y d) ∧ (b = false → Same H2 H5 ∧ F i = none)) ∧
      (∀ p H2 ys, Same H1 H2 → H1 p = none → H2 p = some (.lst ys) → RpAll X.K H2 ys (bits n F) → Q (.ref p) H2)) : QL X elt (.Name x px) iter [c] scope [i] σ H Q := by
  refine ql_lcT (σw := σw) (by show (wipe σ []).set i none = σw; exact h.w) (q.imp fun J H1 ⟨n, G, Y, w, hn, hG, F, him, hb, hq⟩ => ⟨n, G, Y, w, hn, hG, F, him, fun k v H2 H3 hk s2 y => ?_, hq⟩)
  intro s H0 C cl fp
  refine wg_of (pg_name (i := i) nd (by show X.N[i]? = some x; rw [hN]; exact h.n) (hl s H0 C cl fp) (hf s H0 C cl fp)) ?_
  show wipe (σw.set i (some v)) [i] = σw ∧ _
  rw [h.p]
  exact ⟨by show (S v).set i none = σw; exact h.b v, hb k v H2 H3 hk s2 y⟩
/-- two clauses, a name each -/
theorem ql2_seq {y : Str} {py : Pos} {j : Nat} {σ1 : Sl} {S1 : V → Sl} {σi : V → Sl} {S2 : V → V → Sl} {iter1 : Expr} {ifs1 : List Expr} (h1 : Tgt N σ y σ1 S1 j) (h : Tgt N σ1 x σw S i) (h2 : ∀ v, Tgt N (S v) y (σi v) (S2 v) j) (hij : i ≠ j) (hN : X.N = N) (nd : X.N.Nodup)
    (hl : ∀ s H0 C cl fp, Loc (X.blk s H0 scope (compEnvC scope cl C X.env) fp).env.scope x) (hf : ∀ s H0 C cl fp, (X.blk s H0 scope (compEnvC scope cl C X.env) fp).fn x = true ∨ (X.blk s H0 scope (compEnvC scope cl C X.env) fp).env.scope.names.lookup x = some .local)
    (hl1 : ∀ s H0 C cl fp, Loc (X.blk s H0 scope (compEnvC scope cl C X.env) fp).env.scope y) (hf1 : ∀ s H0 C cl fp, (X.blk s H0 scope (compEnvC scope cl C X.env) fp).fn y = true ∨ (X.blk s H0 scope (compEnvC scope cl C X.env) fp).env.scope.names.lookup y = some .local)
    (q : QI X (.Name x px) iter σ H fun J H1 => ∃ (n : Nat) (G : Hp → Prop) (Y : Nat → Hp → V → Hp → Prop), Walk J n G Y ∧ (∀ H', Same H1 H' → G H') ∧ ∃ (m : Nat → Nat) (M : Nat) (F : Nat → Nat → Option D), n * M < sizeLine ∧ (∀ i, i < n → m i ≤ M) ∧ (∀ i j d, F i j = some d → d.im = true) ∧
      (∀ i v H2 H3, i < n → Same H1 H2 → Y i H2 v H3 → BI X scope (.Name y py) iter1 (S v) H3 fun J1 H5 => Same H2 H5 ∧ ∃ (G1 : Hp → Prop) (Y1 : Nat → Hp → V → Hp → Prop), Walk J1 (m i) G1 Y1 ∧ (∀ H', Same H1 H' → Kp H5 H' → G1 H') ∧
        ∀ j u H6 H7, j < m i → Same H1 H6 → Kp H5 H6 → Y1 j H6 u H7 → QT1 X scope ifs1 (S2 v u) H7 fun b H9 => (b = true → BE X scope elt (S2 v u) H9 fun z H10 => Same H6 H10 ∧ ∃ d, F i j = some d ∧ Rp X.K H10 z d) ∧ (b = false → Same H6 H9 ∧ F i j = none)) ∧
      (∀ p H2 ys, Same H1 H2 → H1 p = none → H2 p = some (.lst ys) → RpAll X.K H2 ys (flat m F n) → Q (.ref p) H2)) : QL2 X elt (.Name x px) iter (.Name y py) iter1 [] ifs1 scope [i, j] [j] σ H Q := by
  have e1 : σ1.set j none = σ1 := by rw [← h1.w, List.set_set]
  have e2 : σw.set j none = σw := by
    rw [← h.w, List.set_comm _ _ hij, e1]
  have e3 : ∀ v, (S v).set j none = S v := fun v => by rw [← h.p, List.set_comm _ _ hij, e2]
  refine ql_lc2 (σw := σw) (by show ((wipe σ []).set j none).set i none = σw; show (σ.set j none).set i none = σw; rw [h1.w, h.w]) (q.imp fun J H1 ⟨n, G, Y, w, hG, m, M, F, hz, hm, him, hb, hq⟩ => ⟨n, G, Y, w, hG, m, M, F, hz, hm, him, fun k v H2 H3 hk s2 yy => ?_, hq⟩)
  intro s H0 C cl fp
  refine wg_of (pg_name (i := i) nd (by show X.N[i]? = some x; rw [hN]; exact h.n) (hl s H0 C cl fp) (hf s H0 C cl fp)) ?_
  show wipe (σw.set i (some v)) [i, j] = σw ∧ _
  rw [h.p]
  refine ⟨by show ((S v).set j none).set i none = σw; rw [e3, h.b], ?_⟩
  intro s H0 C cl fp
  refine (hb k v H2 H3 hk s2 yy s H0 C cl fp).imp fun J1 H5 ⟨s5, G1, Y1, w1, hG1, hb1⟩ => ⟨s5, G1, Y1, w1, hG1, fun l u H6 H7 hl6 s6 k6 y6 => ?_⟩
  intro s H0 C cl fp
  refine wg_of (pg_name (i := j) nd (by show X.N[j]? = some y; rw [hN]; exact h1.n) (hl1 s H0 C cl fp) (hf1 s H0 C cl fp)) ?_
  have eS : List.set (wipe (S v) [j]) j (some u) = S2 v u := by
    show ((S v).set j none).set j (some u) = S2 v u
    rw [List.set_set, ← (h2 v).p, ← (h2 v).w, List.set_set]
  show wipe (List.set (wipe (S v) [j]) j (some u)) [j] = wipe (S v) [j] ∧ _
  rw [eS]
  exact ⟨by show (S2 v u).set j none = (S v).set j none; rw [(h2 v).b, (h2 v).w], hb1 l u H6 H7 hl6 s6 k6 y6⟩
end
section
variable {X : Cx} {elt iter c : Expr} {scope : Scope} {N : List Str} {σ σw : Sl} {S : V → Sl} {H : Hp} {Q : VK} {x : Str} {i : Nat} {px pos rp rpos : Pos} {a b : Expr}
/-- what a clause wants of its elements -/
theorem same_im {ds : List D} {f : D → D} (h : ∀ d ∈ ds, (f d).im = true) : ∀ i d, (fun k : Nat => (ds[k]?).bind fun d => some (f d)) i = some d → d.im = true := by
  intro i d e
  dsimp only at e
  cases w : ds[i]? with
  | none => rw [w] at e; cases e
  | some z => rw [w] at e; cases e; exact h z (List.mem_of_getElem? w)
theorem same_imT {ds : List D} {g : D → Option D} (h : ∀ d ∈ ds, ∀ e, g d = some e → e.im = true) : ∀ i d, (fun k : Nat => (ds[k]?).bind g) i = some d → d.im = true := by
  intro i d e
  dsimp only at e
  cases w : ds[i]? with
  | none => rw [w] at e; cases e
  | some z => rw [w] at e; exact h z (List.mem_of_getElem? w) d e
theorem ql_lct (h : Tgt N σ x σw S i) (hN : X.N = N) (nd : X.N.Nodup)
    (hl : ∀ s H0 C cl fp, Loc (X.blk s H0 scope (compEnvC scope cl C X.env) fp).env.scope x) (hf : ∀ s H0 C cl fp, (X.blk s H0 scope (compEnvC scope cl C X.env) fp).fn x = true ∨ (X.blk s H0 scope (compEnvC scope cl C X.env) fp).env.scope.names.lookup x = some .local)
    (q : QE X iter σ H fun v H1 => ∃ ds, Rp X.K H1 v (.tup ds) ∧ ds.length < sizeLine ∧ ∃ f : D → D, LCb X scope elt S H1 ds f ∧
      ∀ p H2 ys, Same H1 H2 → H1 p = none → H2 p = some (.lst ys) → RpAll X.K H2 ys (ds.map f) → Q (.ref p) H2) : QL X elt (.Name x px) iter [] scope [i] σ H Q := by
  refine ql_seq h hN nd hl hf (qi_tup (q.imp fun v H1 ⟨ds, r, hz, f, ⟨him, hb⟩, hq⟩ => ?_))
  obtain ⟨a, xs, rfl, h1, h2⟩ := r.tup_inv
  refine ⟨a, rfl, ⟨xs, h1⟩, xs.length, _, _, walk_tup (xs := xs), by rw [h2.len]; exact hz, fun H' s => Same.tupR s h1, fun k => (ds[k]?).bind fun d => some (f d), same_im him, ?_, ?_⟩
  · rintro k v H2 H3 hk s2 ⟨rfl, e⟩
    obtain ⟨d, e1, r1⟩ := (h2.to s2).get e
    intro s H0 C cl fp
    refine (hb d v H3 (List.mem_of_getElem? e1) s2 r1 s H0 C cl fp).imp fun y H5 ⟨s5, r5⟩ => ⟨s5, f d, by simp [e1], r5⟩
  · intro p H2 ys s2 hp hp2 r
    rw [h2.len, bits_map, fm_map] at r
    exact hq p H2 ys s2 hp hp2 r
theorem ql_lcl (h : Tgt N σ x σw S i) (hN : X.N = N) (nd : X.N.Nodup)
    (hl : ∀ s H0 C cl fp, Loc (X.blk s H0 scope (compEnvC scope cl C X.env) fp).env.scope x) (hf : ∀ s H0 C cl fp, (X.blk s H0 scope (compEnvC scope cl C X.env) fp).fn x = true ∨ (X.blk s H0 scope (compEnvC scope cl C X.env) fp).env.scope.names.lookup x = some .local)
    (q : QE X iter σ H fun v H1 => ∃ ds, Rp X.K H1 v (.lst ds) ∧ ds.length < sizeLine ∧ ∃ f : D → D, LCb X scope elt S H1 ds f ∧
      ∀ p H2 ys, Same H1 H2 → H1 p = none → H2 p = some (.lst ys) → RpAll X.K H2 ys (ds.map f) → Q (.ref p) H2) : QL X elt (.Name x px) iter [] scope [i] σ H Q := by
  refine ql_seq h hN nd hl hf (qi_list (q.imp fun v H1 ⟨ds, r, hz, f, ⟨him, hb⟩, hq⟩ => ?_))
  obtain ⟨a, xs, rfl, h1, h2⟩ := r.lst_inv
  refine ⟨a, rfl, ⟨xs, h1⟩, xs.length, _, _, walk_list (xs := xs), by rw [h2.len]; exact hz, fun H' s => s.seq h1, fun k => (ds[k]?).bind fun d => some (f d), same_im him, ?_, ?_⟩
  · rintro k v H2 H3 hk s2 ⟨rfl, e⟩
    obtain ⟨d, e1, r1⟩ := (h2.to s2).get e
    intro s H0 C cl fp
    refine (hb d v H3 (List.mem_of_getElem? e1) s2 r1 s H0 C cl fp).imp fun y H5 ⟨s5, r5⟩ => ⟨s5, f d, by simp [e1], r5⟩
  · intro p H2 ys s2 hp hp2 r
    rw [h2.len, bits_map, fm_map] at r
    exact hq p H2 ys s2 hp hp2 r
/-- over range(a) -/
def LRb (X : Cx) (scope : Scope) (elt : Expr) (S : V → Sl) (H1 : Hp) (lo : Int) (n : Nat) (f : Int → D) : Prop :=
  (∀ k : Nat, k < n → (f (lo + k)).im = true) ∧ ∀ (k : Nat) H2, k < n → Same H1 H2 → BE X scope elt (S (.int (lo + k))) H2 fun y H3 => Same H2 H3 ∧ Rp X.K H3 y (f (lo + k))
theorem rg_aux (h : Tgt N σ x σw S i) (hN : X.N = N) (nd : X.N.Nodup)
    (hl : ∀ s H0 C cl fp, Loc (X.blk s H0 scope (compEnvC scope cl C X.env) fp).env.scope x) (hf : ∀ s H0 C cl fp, (X.blk s H0 scope (compEnvC scope cl C X.env) fp).fn x = true ∨ (X.blk s H0 scope (compEnvC scope cl C X.env) fp).env.scope.names.lookup x = some .local)
    (q : QI X (.Name x px) iter σ H fun J H1 => ∃ (lo : Int) (n : Nat), J = Itr lo n ∧ n < sizeLine ∧ ∃ f : Int → D, LRb X scope elt S H1 lo n f ∧
      ∀ p H2 ys, Same H1 H2 → H1 p = none → H2 p = some (.lst ys) → RpAll X.K H2 ys ((List.range n).map fun k : Nat => f (lo + k)) → Q (.ref p) H2) : QL X elt (.Name x px) iter [] scope [i] σ H Q := by
  refine ql_seq h hN nd hl hf (q.imp fun J H1 ⟨lo, n, e, hz, f, ⟨him, hb⟩, hq⟩ => ?_)
  subst e
  refine ⟨n, _, _, walk_range, hz, fun _ _ => trivial, fun k => if k < n then some (f (lo + k)) else none, fun k d e => ?_, ?_, ?_⟩
  · dsimp only at e
    by_cases hk : k < n
    · rw [if_pos hk] at e; cases e; exact him k hk
    · rw [if_neg hk] at e; cases e
  · rintro k v H2 H3 hk s2 ⟨rfl, rfl⟩
    intro s H0 C cl fp
    exact (hb k H3 hk s2 s H0 C cl fp).imp fun y H5 ⟨s5, r5⟩ => ⟨s5, _, by dsimp only; rw [if_pos hk], r5⟩
  · intro p H2 ys s2 hp hp2 r
    refine hq p H2 ys s2 hp hp2 ?_
    rw [← bits_rg]
    have : bits n (fun k => some (f (lo + (k : Nat)))) = bits n (fun k => if k < n then some (f (lo + k)) else none) := by
      unfold bits
      refine fm_congr fun k hk => ?_
      rw [if_pos (List.mem_range.mp hk)]
    rw [this]
    exact r
def LRc (X : Cx) (scope : Scope) (elt c : Expr) (S : V → Sl) (H1 : Hp) (lo : Int) (n : Nat) (g : Int → Option D) : Prop :=
  (∀ k : Nat, k < n → ∀ e, g (lo + k) = some e → e.im = true) ∧ ∀ (k : Nat) H2, k < n → Same H1 H2 → BT X scope c (S (.int (lo + k))) H2 fun b H3 => (b = true → BE X scope elt (S (.int (lo + k))) H3 fun y H4 => Same H2 H4 ∧ ∃ e, g (lo + k) = some e ∧ Rp X.K H4 y e) ∧ (b = false → Same H2 H3 ∧ g (lo + k) = none)
theorem rg_auxT (h : Tgt N σ x σw S i) (hN : X.N = N) (nd : X.N.Nodup)
    (hl : ∀ s H0 C cl fp, Loc (X.blk s H0 scope (compEnvC scope cl C X.env) fp).env.scope x) (hf : ∀ s H0 C cl fp, (X.blk s H0 scope (compEnvC scope cl C X.env) fp).fn x = true ∨ (X.blk s H0 scope (compEnvC scope cl C X.env) fp).env.scope.names.lookup x = some .local)
    (q : QI X (.Name x px) iter σ H fun J H1 => ∃ (lo : Int) (n : Nat), J = Itr lo n ∧ n < sizeLine ∧ ∃ g : Int → Option D, LRc X scope elt c S H1 lo n g ∧
      ∀ p H2 ys, Same H1 H2 → H1 p = none → H2 p = some (.lst ys) → RpAll X.K H2 ys ((List.range n).filterMap fun k : Nat => g (lo + k)) → Q (.ref p) H2) : QL X elt (.Name x px) iter [c] scope [i] σ H Q := by
  refine ql_seqT h hN nd hl hf (q.imp fun J H1 ⟨lo, n, e, hz, g, ⟨him, hb⟩, hq⟩ => ?_)
  subst e
  refine ⟨n, _, _, walk_range, hz, fun _ _ => trivial, fun k => if k < n then g (lo + k) else none, fun k d e => ?_, ?_, ?_⟩
  · dsimp only at e
    by_cases hk : k < n
    · rw [if_pos hk] at e; exact him k hk d e
    · rw [if_neg hk] at e; cases e
  · rintro k v H2 H3 hk s2 ⟨rfl, rfl⟩
    intro s H0 C cl fp
    have z := hb k H3 hk s2 s H0 C cl fp
    intro pins s I
    refine thn (z pins s I) fun b s1 ⟨H5, I5, t5, f5⟩ => ⟨H5, I5, fun hb s H0 C cl fp => ?_, fun hb => ?_⟩
    · exact (t5 hb s H0 C cl fp).imp fun y H5 ⟨s5, d, e, r5⟩ => ⟨s5, d, by dsimp only; rw [if_pos hk, e], r5⟩
    · exact ⟨(f5 hb).1, by dsimp only; rw [if_pos hk]; exact (f5 hb).2⟩
  · intro p H2 ys s2 hp hp2 r
    refine hq p H2 ys s2 hp hp2 ?_
    have : (List.range n).filterMap (fun k : Nat => g (lo + k)) = bits n (fun k => if k < n then g (lo + k) else none) := by
      unfold bits
      refine fm_congr fun k hk => ?_
      rw [if_pos (List.mem_range.mp hk)]
    rw [this]
    exact r
theorem ql_lcr1 (hm : X.mg "range" = none) (hg : Gl X "range") (h : Tgt N σ x σw S i) (hN : X.N = N) (nd : X.N.Nodup)
    (hl : ∀ s H0 C cl fp, Loc (X.blk s H0 scope (compEnvC scope cl C X.env) fp).env.scope x) (hf : ∀ s H0 C cl fp, (X.blk s H0 scope (compEnvC scope cl C X.env) fp).fn x = true ∨ (X.blk s H0 scope (compEnvC scope cl C X.env) fp).env.scope.names.lookup x = some .local)
    (hs1 : starEach [a] X.env = [(false, eval a X.env)])
    (q : QE X a σ H fun v H1 => ∃ j : Int, v = .int j ∧ (-(2 ^ 62) ≤ j ∧ j < sizeLine) ∧ ∃ f : Int → D, LRb X scope elt S H1 0 j.toNat f ∧
      ∀ p H2 ys, Same H1 H2 → H1 p = none → H2 p = some (.lst ys) → RpAll X.K H2 ys ((List.range j.toNat).map fun k : Nat => f k) → Q (.ref p) H2) : QL X elt (.Name x px) (.Call (.Name "range" rp) [a] [] rpos) [] scope [i] σ H Q := by
  refine rg_aux h hN nd hl hf (qi_range1 hm hg hs1 (q.imp fun v H1 ⟨j, e, hj, f, hb, hq⟩ => ⟨j, e, ?_, 0, _, rfl, ?_, f, hb, fun p H2 ys s2 hp hp2 r => hq p H2 ys s2 hp hp2 ?_⟩))
  · have := sizeLine_eq
    omega
  · have := sizeLine_eq
    omega
  · simpa using r
theorem ql_lcr2 (hm : X.mg "range" = none) (hg : Gl X "range") (h : Tgt N σ x σw S i) (hN : X.N = N) (nd : X.N.Nodup)
    (hl : ∀ s H0 C cl fp, Loc (X.blk s H0 scope (compEnvC scope cl C X.env) fp).env.scope x) (hf : ∀ s H0 C cl fp, (X.blk s H0 scope (compEnvC scope cl C X.env) fp).fn x = true ∨ (X.blk s H0 scope (compEnvC scope cl C X.env) fp).env.scope.names.lookup x = some .local)
    (hs1 : starEach [a, b] X.env = [(false, eval a X.env), (false, eval b X.env)]) (hs2 : starEach [b] X.env = [(false, eval b X.env)])
    (q : QE X a σ H fun v H0 => QE X b σ H0 fun w H1 => ∃ i j : Int, v = .int i ∧ w = .int j ∧ (-(2 ^ 30) ≤ i ∧ i < 2 ^ 30 ∧ -(2 ^ 30) ≤ j ∧ j < 2 ^ 30 ∧ j - i < sizeLine) ∧ ∃ f : Int → D, LRb X scope elt S H1 i (j - i).toNat f ∧
      ∀ p H2 ys, Same H1 H2 → H1 p = none → H2 p = some (.lst ys) → RpAll X.K H2 ys ((List.range (j - i).toNat).map fun k : Nat => f (i + k)) → Q (.ref p) H2) : QL X elt (.Name x px) (.Call (.Name "range" rp) [a, b] [] rpos) [] scope [i] σ H Q := by
  refine rg_aux h hN nd hl hf (qi_range2 hm hg hs1 hs2 (q.imp fun v H0 q1 => q1.imp fun w H1 ⟨i, j, e1, e2, hj, f, hb, hq⟩ => ⟨i, j, e1, e2, ?_, i, _, rfl, ?_, f, hb, hq⟩))
  · omega
  · have := sizeLine_eq
    omega
theorem ql_lcr2T (hm : X.mg "range" = none) (hg : Gl X "range") (h : Tgt N σ x σw S i) (hN : X.N = N) (nd : X.N.Nodup)
    (hl : ∀ s H0 C cl fp, Loc (X.blk s H0 scope (compEnvC scope cl C X.env) fp).env.scope x) (hf : ∀ s H0 C cl fp, (X.blk s H0 scope (compEnvC scope cl C X.env) fp).fn x = true ∨ (X.blk s H0 scope (compEnvC scope cl C X.env) fp).env.scope.names.lookup x = some .local)
    (hs1 : starEach [a, b] X.env = [(false, eval a X.env), (false, eval b X.env)]) (hs2 : starEach [b] X.env = [(false, eval b X.env)])
    (q : QE X a σ H fun v H0 => QE X b σ H0 fun w H1 => ∃ i j : Int, v = .int i ∧ w = .int j ∧ (-(2 ^ 30) ≤ i ∧ i < 2 ^ 30 ∧ -(2 ^ 30) ≤ j ∧ j < 2 ^ 30 ∧ j - i < sizeLine) ∧ ∃ g : Int → Option D, LRc X scope elt c S H1 i (j - i).toNat g ∧
      ∀ p H2 ys, Same H1 H2 → H1 p = none → H2 p = some (.lst ys) → RpAll X.K H2 ys ((List.range (j - i).toNat).filterMap fun k : Nat => g (i + k)) → Q (.ref p) H2) : QL X elt (.Name x px) (.Call (.Name "range" rp) [a, b] [] rpos) [c] scope [i] σ H Q := by
  refine rg_auxT h hN nd hl hf (qi_range2 hm hg hs1 hs2 (q.imp fun v H0 q1 => q1.imp fun w H1 ⟨i, j, e1, e2, hj, f, hb, hq⟩ => ⟨i, j, e1, e2, ?_, i, _, rfl, ?_, f, hb, hq⟩))
  · omega
  · have := sizeLine_eq
    omega
theorem Tgt.q {N : List Str} {σ σ' : Sl} {S : V → Sl} {x : Str} {i : Nat} (h : Tgt N σ x σ' S i) (v : V) : σ.set i (some v) = S v := by
  rw [← h.p, ← h.w, List.set_set]
theorem ws_set1 {tg : Expr} {ifs : List Expr} {own : List (Str × Nat)} {vs : List Nat} {D : Ends} {y : Str} {j : Nat} {py spos : Pos} {σ' : Sl} (h : Tgt N σ y σ' S j) (hN : X.N = N) (hv : own.map (·.2) = vs) (hc : X.calm = true) (nd : X.N.Nodup) (hyl : X.env.scope.names.lookup y = some .local)
    (hsw : swapsWith (.ListComp elt [⟨tg, iter, ifs, 0⟩] scope pos) (some (.Name y py)) spos.line X.env = pure true) (ok : BlkOk X.N X.env.scope scope own) (hs : ∀ x, foldedSetIterable iter X.env x = pure x)
    (q : QL X elt tg iter ifs scope vs σ H fun v H1 => D.nx (S v) H1) : QS X (.Assign [.Name y py] (.ListComp elt [⟨tg, iter, ifs, 0⟩] scope pos) spos) D σ H := by
  refine ws_setLc hv hc nd (hN ▸ h.n) hyl hsw ok hs ?_
  rw [show (fun v H1 => D.nx (σ.set j (some v)) H1) = fun v H1 => D.nx (S v) H1 from by funext v H1; rw [h.q]]
  exact q
theorem ws_set2 {tg tg1 iter1 : Expr} {ifs ifs1 : List Expr} {own : List (Str × Nat)} {vs vs1 : List Nat} {D : Ends} {y : Str} {j : Nat} {py spos : Pos} {σ' : Sl} (h : Tgt N σ y σ' S j) (hN : X.N = N) (hv : own.map (·.2) = vs) (hv1 : ∀ i ∈ vs1, i ∈ own.map (·.2)) (hc : X.calm = true) (nd : X.N.Nodup) (hyl : X.env.scope.names.lookup y = some .local)
    (hsw : swapsWith (.ListComp elt [⟨tg, iter, ifs, 0⟩, ⟨tg1, iter1, ifs1, 0⟩] scope pos) (some (.Name y py)) spos.line X.env = pure true) (ok : BlkOk X.N X.env.scope scope own) (hs : ∀ x, foldedSetIterable iter X.env x = pure x) (hs1 : ∀ env x, foldedSetIterable iter1 env x = pure x)
    (q : QL2 X elt tg iter tg1 iter1 ifs ifs1 scope vs vs1 σ H fun v H1 => D.nx (S v) H1) : QS X (.Assign [.Name y py] (.ListComp elt [⟨tg, iter, ifs, 0⟩, ⟨tg1, iter1, ifs1, 0⟩] scope pos) spos) D σ H := by
  refine ws_setLc2 hv hv1 hc nd (hN ▸ h.n) hyl hsw ok hs hs1 ?_
  rw [show (fun v H1 => D.nx (σ.set j (some v)) H1) = fun v H1 => D.nx (S v) H1 from by funext v H1; rw [h.q]]
  exact q
theorem we_lc1 {ifs : List Expr} (hi : Ix N i x) (hN : X.N = N) (hc : X.calm = true) (nd : X.N.Nodup) (ok : BlkOk X.N X.env.scope scope [(x, i)]) (hs : ∀ x, foldedSetIterable iter X.env x = pure x)
    (q : QL X elt (.Name x px) iter ifs scope [i] σ H Q) : QE X (.ListComp elt [⟨.Name x px, iter, ifs, 0⟩] scope pos) σ H Q := we_lc rfl hc nd ok hs q
theorem we_lcn2 {ifs ifs1 : List Expr} {y : Str} {j : Nat} {py : Pos} {iter1 : Expr} (hi : Ix N i x) (hj : Ix N j y) (hN : X.N = N) (hc : X.calm = true) (nd : X.N.Nodup) (ok : BlkOk X.N X.env.scope scope [(x, i), (y, j)]) (hs : ∀ x, foldedSetIterable iter X.env x = pure x) (hs1 : ∀ env x, foldedSetIterable iter1 env x = pure x)
    (q : QL2 X elt (.Name x px) iter (.Name y py) iter1 ifs ifs1 scope [i, j] [j] σ H Q) : QE X (.ListComp elt [⟨.Name x px, iter, ifs, 0⟩, ⟨.Name y py, iter1, ifs1, 0⟩] scope pos) σ H Q := we_lc2 rfl (by simp) hc nd ok hs hs1 q
theorem ws_lc1 {ifs : List Expr} {D : Ends} {y : Str} {j : Nat} {py spos : Pos} {σ' : Sl} (h : Tgt N σ y σ' S j) (hi : Ix N i x) (hN : X.N = N) (hc : X.calm = true) (nd : X.N.Nodup) (hyl : X.env.scope.names.lookup y = some .local)
    (hsw : swapsWith (.ListComp elt [⟨.Name x px, iter, ifs, 0⟩] scope pos) (some (.Name y py)) spos.line X.env = pure true) (ok : BlkOk X.N X.env.scope scope [(x, i)]) (hs : ∀ x, foldedSetIterable iter X.env x = pure x)
    (q : QL X elt (.Name x px) iter ifs scope [i] σ H fun v H1 => D.nx (S v) H1) : QS X (.Assign [.Name y py] (.ListComp elt [⟨.Name x px, iter, ifs, 0⟩] scope pos) spos) D σ H := ws_set1 h hN rfl hc nd hyl hsw ok hs q
theorem ws_lcn2 {ifs ifs1 : List Expr} {z : Str} {l : Nat} {D : Ends} {y : Str} {j : Nat} {py pz spos : Pos} {σ' : Sl} {iter1 : Expr} (h : Tgt N σ z σ' S l) (hi : Ix N i x) (hj : Ix N j y) (hN : X.N = N) (hc : X.calm = true) (nd : X.N.Nodup) (hyl : X.env.scope.names.lookup z = some .local)
    (hsw : swapsWith (.ListComp elt [⟨.Name x px, iter, ifs, 0⟩, ⟨.Name y py, iter1, ifs1, 0⟩] scope pos) (some (.Name z pz)) spos.line X.env = pure true) (ok : BlkOk X.N X.env.scope scope [(x, i), (y, j)]) (hs : ∀ x, foldedSetIterable iter X.env x = pure x) (hs1 : ∀ env x, foldedSetIterable iter1 env x = pure x)
    (q : QL2 X elt (.Name x px) iter (.Name y py) iter1 ifs ifs1 scope [i, j] [j] σ H fun v H1 => D.nx (S v) H1) : QS X (.Assign [.Name z pz] (.ListComp elt [⟨.Name x px, iter, ifs, 0⟩, ⟨.Name y py, iter1, ifs1, 0⟩] scope pos) spos) D σ H := ws_set2 h hN rfl (by simp) hc nd hyl hsw ok hs hs1 q
theorem flat_take {α : Type} (L : List α) (g : α → Nat → D) (m : Nat) : ∀ n, n ≤ L.length → flat (fun _ => m) (fun i j => (L[i]?).map fun r => g r j) n = (L.take n).flatMap fun r => (List.range m).map (g r)
  | 0, _ => rfl
  | n + 1, h => by
    rw [flat_succ, flat_take L g m n (by omega), List.take_succ, List.flatMap_append, List.getElem?_eq_getElem (by omega)]
    congr 1
    show bits m (fun j => some (g L[n] j)) = _
    rw [bits_rg]
    simp
theorem flat_map {α : Type} (L : List α) (g : α → Nat → D) (m : Nat) : flat (fun _ => m) (fun i j => (L[i]?).map fun r => g r j) L.length = L.flatMap fun r => (List.range m).map (g r) := by
  rw [flat_take L g m _ (Nat.le_refl _), List.take_length]
/-! ### loops -/
variable {body : List Stmt} {E : Ends} {tg : Expr}
/-- a turn -/
def Turn (X : Cx) (tg : Expr) (body : List Stmt) (E : Ends) (Pv : Nat → Sl → Hp → Prop) (k : Nat) (v : V) (σ : Sl) (H : Hp) : Prop :=
  QG X tg v σ H fun σ2 H2 => QB X body { E with nx := Pv (k + 1), ct := Pv (k + 1), bk := E.nx } σ2 H2
theorem ws_fort (hp : PassesOwn (model X.prog X.w) X.A X.env X.xe) (hc : X.calm = true) (hfs : ∀ x, foldedSetIterable iter X.env x = pure x)
    (q : QE X iter σ H fun v H1 => ∃ ds, Rp X.K H1 v (.tup ds) ∧ ∃ Pv : Nat → Sl → Hp → Prop, Pv 0 σ H1 ∧ (∀ k σ H', Pv k σ H' → Same H1 H') ∧
      (∀ k d w σ1 H2, ds[k]? = some d → Pv k σ1 H2 → Rp X.K H2 w d → Turn X tg body E Pv k w σ1 H2) ∧ (∀ σ1 H2, Pv ds.length σ1 H2 → E.nx σ1 H2)) : QS X (.For tg iter body [] pos) E σ H := by
  refine qs_for hp hc hfs (qi_tup (q.imp fun v H1 ⟨ds, r, Pv, h0, hS, hb, hd⟩ => ?_))
  obtain ⟨a, xs, rfl, h1, h2⟩ := r.tup_inv
  refine ⟨a, rfl, ⟨xs, h1⟩, xs.length, _, _, walk_tup (xs := xs), Pv, h0, fun k σ1 H2 _ p => Same.tupR (hS _ _ _ p) h1, ?_, by rw [h2.len]; exact hd⟩
  rintro k w σ1 H2 H3 hk p ⟨rfl, e⟩
  obtain ⟨d, e1, r1⟩ := (h2.to (hS _ _ _ p)).get e
  exact hb k d w σ1 H3 e1 p r1
theorem ws_forl (hp : PassesOwn (model X.prog X.w) X.A X.env X.xe) (hc : X.calm = true) (hfs : ∀ x, foldedSetIterable iter X.env x = pure x)
    (q : QE X iter σ H fun v H1 => ∃ ds, Rp X.K H1 v (.lst ds) ∧ ∃ Pv : Nat → Sl → Hp → Prop, Pv 0 σ H1 ∧ (∀ k σ H', Pv k σ H' → Same H1 H') ∧
      (∀ k d w σ1 H2, ds[k]? = some d → Pv k σ1 H2 → Rp X.K H2 w d → Turn X tg body E Pv k w σ1 H2) ∧ (∀ σ1 H2, Pv ds.length σ1 H2 → E.nx σ1 H2)) : QS X (.For tg iter body [] pos) E σ H := by
  refine qs_for hp hc hfs (qi_list (q.imp fun v H1 ⟨ds, r, Pv, h0, hS, hb, hd⟩ => ?_))
  obtain ⟨a, xs, rfl, h1, h2⟩ := r.lst_inv
  refine ⟨a, rfl, ⟨xs, h1⟩, xs.length, _, _, walk_list (xs := xs), Pv, h0, fun k σ1 H2 _ p => (hS _ _ _ p).seq h1, ?_, by rw [h2.len]; exact hd⟩
  rintro k w σ1 H2 H3 hk p ⟨rfl, e⟩
  obtain ⟨d, e1, r1⟩ := (h2.to (hS _ _ _ p)).get e
  exact hb k d w σ1 H3 e1 p r1
theorem ws_forr1 (hm : X.mg "range" = none) (hg : Gl X "range") (hp : PassesOwn (model X.prog X.w) X.A X.env X.xe) (hc : X.calm = true) (hfs : ∀ x, foldedSetIterable (.Call (.Name "range" rp) [a] [] rpos) X.env x = pure x) (hs1 : starEach [a] X.env = [(false, eval a X.env)])
    (q : QE X a σ H fun v H1 => ∃ j : Int, v = .int j ∧ (-(2 ^ 62) ≤ j ∧ j < 2 ^ 62) ∧ ∃ Pv : Nat → Sl → Hp → Prop, Pv 0 σ H1 ∧
      (∀ (k : Nat) σ1 H2, (k : Int) < j → Pv k σ1 H2 → Turn X tg body E Pv k (.int k) σ1 H2) ∧ (∀ σ1 H2, Pv j.toNat σ1 H2 → E.nx σ1 H2)) : QS X (.For tg (.Call (.Name "range" rp) [a] [] rpos) body [] pos) E σ H := by
  refine qs_for hp hc hfs (qi_range1 hm hg hs1 (q.imp fun v H1 ⟨j, e, hj, Pv, h0, hb, hd⟩ => ⟨j, e, hj, _, _, _, walk_range, Pv, h0, fun _ _ _ _ _ => trivial, ?_, hd⟩))
  rintro k w σ1 H2 H3 hk p ⟨rfl, rfl⟩
  have := hb k σ1 H3 (by omega) p
  dsimp only
  rw [show (0 : Int) + (k : Nat) = (k : Int) by omega]
  exact this
theorem ws_forr2 (hm : X.mg "range" = none) (hg : Gl X "range") (hp : PassesOwn (model X.prog X.w) X.A X.env X.xe) (hc : X.calm = true) (hfs : ∀ x, foldedSetIterable (.Call (.Name "range" rp) [a, b] [] rpos) X.env x = pure x) (hs1 : starEach [a, b] X.env = [(false, eval a X.env), (false, eval b X.env)]) (hs2 : starEach [b] X.env = [(false, eval b X.env)])
    (q : QE X a σ H fun v H0 => QE X b σ H0 fun w H1 => ∃ i j : Int, v = .int i ∧ w = .int j ∧ (-(2 ^ 62) ≤ i ∧ i < 2 ^ 62 ∧ -(2 ^ 62) ≤ j ∧ j < 2 ^ 62) ∧ ∃ Pv : Nat → Sl → Hp → Prop, Pv 0 σ H1 ∧
      (∀ (k : Nat) σ1 H2, i + (k : Int) < j → Pv k σ1 H2 → Turn X tg body E Pv k (.int (i + k)) σ1 H2) ∧ (∀ σ1 H2, Pv (j - i).toNat σ1 H2 → E.nx σ1 H2)) : QS X (.For tg (.Call (.Name "range" rp) [a, b] [] rpos) body [] pos) E σ H := by
  refine qs_for hp hc hfs (qi_range2 hm hg hs1 hs2 (q.imp fun v H0 q1 => q1.imp fun w H1 ⟨i, j, e, e2, hj, Pv, h0, hb, hd⟩ => ⟨i, j, e, e2, hj, _, _, _, walk_range, Pv, h0, fun _ _ _ _ _ => trivial, ?_, hd⟩))
  rintro k w σ1 H2 H3 hk p ⟨rfl, rfl⟩
  exact hb k σ1 H3 (by omega) p
end
end Sx

/-! Sw: a def by what its body is to bring. -/
namespace Sx
open PySem PySem.Spec PyProof.Rows L2
section
variable {P : Program} {w : World} {K : PySem.W.Frag} {mg : Str → Option Value} {base : Heap}
theorem okS {x qual : Str} {st : Stmt} {f : Addr} {fd : FuncData} {N ps : List Str} {k : Nat} {sp : Sp} (F : Fun K x qual st f fd) (S : FnScope N ps (defScope st)) (len : ∀ vs H Q E, sp vs H Q E → vs.length = ps.length)
    (hbody : ∀ (cdv : Value) (A : Around) (outer : List Env) (s : Shared) (H : Hp) (vs : List V) (Q : VK) (E : XK), Room k (A.deeper (envOfC qual (defScope st) s.heap.objs.size f cdv)) → sp vs H Q E →
      (cxOf CX0 P w K mg base N qual (defScope st) f cdv A outer s H E).nox.N = N → (cxOf CX0 P w K mg base N qual (defScope st) f cdv A outer s H E).nox.N.Nodup →
      QB (cxOf CX0 P w K mg base N qual (defScope st) f cdv A outer s H E).nox (defBody st) { nx := fun _ H' => Q .non H', rt := Q } (start N vs) H) : FnOk P w K mg base CX0 (k + 1) f fd ps sp :=
  F.ok S len fun cdv A outer s H vs Q E hr h => ⟨_, pss_sem, hbody cdv A outer s H vs Q E hr h rfl S.nd⟩
theorem okXS {x qual : Str} {st : Stmt} {f : Addr} {fd : FuncData} {N ps : List Str} {k : Nat} {sp : Sp} (F : Fun K x qual st f fd) (S : FnScope N ps (defScope st)) (len : ∀ vs H Q E, sp vs H Q E → vs.length = ps.length)
    (hbody : ∀ (cdv : Value) (A : Around) (outer : List Env) (s : Shared) (H : Hp) (vs : List V) (Q : VK) (E : XK), Room k (A.deeper (envOfC qual (defScope st) s.heap.objs.size f cdv)) → sp vs H Q E →
      (cxOf (L2.CX P w) P w K mg base N qual (defScope st) f cdv A outer s H E).N = N → (cxOf (L2.CX P w) P w K mg base N qual (defScope st) f cdv A outer s H E).N.Nodup →
      Takes (cxOf (L2.CX P w) P w K mg base N qual (defScope st) f cdv A outer s H E) (fun c d _ H' => E c d H') →
      QB (cxOf (L2.CX P w) P w K mg base N qual (defScope st) f cdv A outer s H E) (defBody st) { nx := fun _ H' => Q .non H', rt := Q } (start N vs) H) : FnOk P w K mg base (L2.CX P w) (k + 1) f fd ps sp :=
  F.okX S len fun cdv A outer s H vs Q E hr h => ⟨_, pss_sem, hbody cdv A outer s H vs Q E hr h rfl S.nd (takes_of rfl rfl rfl rfl)⟩
end
end Sx

/-! Sv: a list that is written (a law's state), slices, comprehensions that write it. -/
namespace Sx
open PySem PySem.Spec PyProof.Rows L2

def D.isN : D → Bool
  | .non => true
  | _ => false
section
variable {X : Cx} {e hi : Expr} {σ : Sl} {H : Hp} {Q : VK} {x y v : V} {pos p2 : Pos} {d : D}
theorem we_gref {x : Str} {a : Addr} (hm : X.mg x = some (.ref a)) (hg : Gl X x) (q : Q (.ref a) H) (hdb : (x == ("__debug__" : Str)) = false := by decide) : QE X (.Name x pos) σ H Q := we_gval hm hg (v := .ref a) rfl q hdb
theorem we_sliceHi (q : QE X e σ H fun x H1 => QE X hi σ H1 fun u H2 => ∃ a xs i, x = .ref a ∧ u = .int i ∧ SqL X.K H2 a xs ∧ ∀ p H3, H2 p = none → Same H2 H3 → H3 p = some (.lst (cutV xs none (some i))) → Q (.ref p) H3) : QE X (.Subscript e (.Slice none (some hi) none p2) pos) σ H Q := by
  refine we_of (pe_slice sl_list pe_sem po_none (po_some pe_sem)) ?_
  intro pins s I
  refine thn (q pins s I) fun u s1 ⟨x, H1, I1, r1, q1⟩ => ⟨x, H1, I1, r1, ?_⟩
  show QE X hi σ H1 _
  exact q1.imp fun u H2 ⟨a, xs, i, e1, e2, hq, z⟩ => ⟨i, e2, a, xs, e1, hq, fun p hp => z p _ hp (same_new hp) upd_same⟩
theorem cut_all {xs : List V} {k : Nat} (h : xs.length ≤ k) : cutV xs none (some (k : Int)) = xs := by
  unfold cutV
  rw [HT.sIx_none, HT.sIx_nat, Nat.min_eq_right h]
  simp
theorem opw_isN (h : Rp X.K H x d) (q : Q (.bl d.isN) H) : OpW X (compareOp .Is) x .non H Q := by
  refine opw_of op_isN ⟨rfl, ?_⟩
  have : decide (x = V.non) = d.isN := by cases h <;> simp [D.isN]
  rw [this]
  exact q
end
/-! ### the state: a list of two ints -/
def St (a : Addr) (H : Hp) : Prop := ∃ s t : Int, H a = some (.lst [.int s, .int t])
/-- all but the state as it was -/
structure Ke (a : Addr) (H H' : Hp) : Prop where
  s : ∀ b o, b ≠ a → H b = some o → H' b = some o
  t : St a H'
section
variable {K : PySem.W.Frag} {a : Addr} {H H' H2 : Hp}
theorem St.lst (h : St a H) : Lst H a := ⟨_, h.choose_spec.choose_spec⟩
theorem Ke.refl (h : St a H) : Ke a H H := ⟨fun _ _ _ e => e, h⟩
theorem Ke.trans (h : Ke a H H') (g : Ke a H' H2) : Ke a H H2 := ⟨fun b o n e => g.s b o n (h.s b o n e), g.t⟩
theorem Ke.of_same (h : St a H) (s : Same H H') : Ke a H H' := ⟨fun b o _ e => s b o e, h.choose, h.choose_spec.choose, s _ _ h.choose_spec.choose_spec⟩
theorem St.same (h : St a H) (s : Same H H') : St a H' := (Ke.of_same h s).t
theorem Ke.rp {v : V} {d : D} (k : Ke a H H') (h0 : St a H) (h : Rp K H v d) (m : d.im = true) : Rp K H' v d := Rp.keep h0.lst k.s d v m h
theorem Ke.rpA {v : List V} {d : List D} (k : Ke a H H') (h0 : St a H) (h : RpAll K H v d) (m : imAll d = true) : RpAll K H' v d := RpAll.keep h0.lst k.s d v m h
end
/-- what _law_take promises -/
def spTake : Sp := fun vs H Q _ => ∃ (a : Addr) (m : Int), vs = [.ref a, .int m] ∧ (0 < m ∧ m < 1073741824) ∧ St a H ∧ ∀ (r : Int) H', 0 ≤ r → r < m → Ke a H H' → Q (.int r) H'
section
variable {X : Cx} {elt b : Expr} {scope : Scope} {N : List Str} {σ σw : Sl} {S : V → Sl} {H : Hp} {Q : VK} {x : Str} {i : Nat} {px pos rp rpos : Pos} {a : Expr}
/-- [elt for x in range(a)], elt writes the state at A -/
theorem ql_st (hm : X.mg "range" = none) (hg : Gl X "range") (h : Tgt N σ x σw S i) (hN : X.N = N) (nd : X.N.Nodup)
    (hl : ∀ s H0 C cl fp, Loc (X.blk s H0 scope (compEnvC scope cl C X.env) fp).env.scope x) (hf : ∀ s H0 C cl fp, (X.blk s H0 scope (compEnvC scope cl C X.env) fp).fn x = true ∨ (X.blk s H0 scope (compEnvC scope cl C X.env) fp).env.scope.names.lookup x = some .local)
    (hs1 : starEach [a] X.env = [(false, eval a X.env)])
    (q : QE X a σ H fun v H1 => ∃ j : Int, v = .int j ∧ (-(2 ^ 62) ≤ j ∧ j < sizeLine) ∧ ∃ (A : Addr) (p : D → Prop), St A H1 ∧ (∀ d, p d → d.im = true) ∧
      (∀ (k : Nat) H2, (k : Int) < j → Ke A H1 H2 → BE X scope elt (S (.int k)) H2 fun y H3 => Ke A H2 H3 ∧ ∃ d, p d ∧ Rp X.K H3 y d) ∧
      ∀ P H2 ys ds, Ke A H1 H2 → H1 P = none → H2 P = some (.lst ys) → RpAll X.K H2 ys ds → ds.length = j.toNat → (∀ d ∈ ds, p d) → Q (.ref P) H2) : QL X elt (.Name x px) (.Call (.Name "range" rp) [a] [] rpos) [] scope [i] σ H Q := by
  refine qi_range1 hm hg hs1 (q.imp fun v H1 ⟨j, e, hj, A, p, hA, him, hb, hq⟩ => ⟨j, e, by have := sizeLine_eq; omega, ?_⟩)
  intro Dl hD
  have nA : A ≠ Dl := by
    obtain ⟨s, t, z⟩ := hA
    exact ne_of_none z hD
  have hw : wipe σ [i] = σw := by show (wipe σ []).set i none = σw; exact h.w
  refine lc_it walk_range (fun k H => Ke A H1 H ∧ ∃ acc ds, H Dl = some (.lst acc) ∧ RpAll X.K H acc ds ∧ ds.length = k ∧ ∀ d ∈ ds, p d) ⟨Ke.of_same hA (same_new hD), [], [], upd_same, .nil, rfl, by simp⟩ (fun _ _ _ _ => trivial) ?_ ?_
  · rintro k v H2 H3 hk ⟨k2, acc, ds, e1, r1, l1, p1⟩ ⟨rfl, rfl⟩
    rw [hw]
    intro s H0 C cl fp
    refine wg_of (pg_name (i := i) nd (by show X.N[i]? = some x; rw [hN]; exact h.n) (hl s H0 C cl fp) (hf s H0 C cl fp)) ?_
    show wipe (σw.set i (some _)) [i] = σw ∧ _
    rw [h.p]
    refine ⟨by show (S _).set i none = σw; exact h.b _, ?_⟩
    delta QT1 tYes
    dsimp only
    rw [if_pos rfl, show (0 : Int) + (k : Nat) = (k : Int) by omega]
    intro s H0 C cl fp
    refine (hb k H3 (by omega) k2 s H0 C cl fp).imp fun y H4 ⟨k4, d, pd, rd⟩ => ?_
    have e4 : H4 Dl = some (.lst acc) := k4.s _ _ nA.symm e1
    have im : imAll ds = true := imAll_iff.mpr fun d hd => him d (p1 d hd)
    have r4 := k4.rpA k2.t r1 im
    have hk' : ∀ b o, b ≠ Dl → H4 b = some o → (upd H4 Dl (.lst (acc ++ [y]))) b = some o := fun b o n q => by rw [upd_ne n]; exact q
    refine ⟨acc, e4, by rw [r1.len, l1]; omega, ⟨fun b o n z => ?_, ?_⟩, acc ++ [y], ds ++ [d], upd_same, ?_, by simp [l1], ?_⟩
    · rw [upd_ne (ne_of_none z hD)]
      exact k4.s _ _ n (k2.s _ _ n z)
    · obtain ⟨s, t, z⟩ := k4.t
      exact ⟨s, t, by rw [upd_ne nA]; exact z⟩
    · exact (RpAll.keep ⟨acc, e4⟩ hk' _ _ im r4).snoc (Rp.keep ⟨acc, e4⟩ hk' _ _ (him d pd) rd)
    · intro z hz
      rw [List.mem_append] at hz
      rcases hz with hz | hz
      · exact p1 z hz
      · simp at hz
        rw [hz]
        exact pd
  · rintro H2 ⟨k2, acc, ds, e1, r1, l1, p1⟩
    exact hq Dl H2 acc ds k2 hD e1 r1 l1 p1
end
/-! ### the suites of a try -/
def SU (X : Cx) (su : List Stmt) : TSu := fun a k d E σ H => ∀ (o : Obj) (pn : List (Addr × Obj)), Zc k d o → (∃ vs, o.data = .fields vs) → QB (X.suite a ((a, o) :: pn)) su E σ H
theorem su_sem {X : Cx} {su : List Stmt} : ∀ (a : Addr) (o : Obj) (k : Value) (d : Option Addr) (pn : List (Addr × Obj)), Zc k d o → (∃ vs, o.data = .fields vs) → PSs (X.suite a ((a, o) :: pn)) su (SU X su a k d) :=
  fun a o k d pn hz hf => ⟨fun pins s σ H E I h => h o pn hz hf pins s I⟩
end Sx

/-! So: own classes: fields, methods, instances made, operators, own errors with an own __init__. -/
namespace Sx
open PySem PySem.Spec PyProof.Rows L2

/-- a method of the class at C, as its callers see it -/
structure MetX (P : Program) (w : World) (K : PySem.W.Frag) (mg : Str → Option Value) (base : Heap) (CX : CXT) (k : Nat) (C : Addr) (m : Str) (sp : Sp) : Prop where
  ex : ∃ (f : Addr) (fd : FuncData) (ps : List Str), FnOk P w K mg base CX k f fd ps sp ∧ Meth K C m f ∧ Binds K fd ps []
/-- the class at C, made by its name x; dvs: defaults -/
structure MakX (P : Program) (w : World) (K : PySem.W.Frag) (mg : Str → Option Value) (base : Heap) (CX : CXT) (k : Nat) (x : Str) (C : Addr) (sp : Sp) : Prop where
  at_ : mg x = some (.ref C)
  ex : ∃ (f : Addr) (fd : FuncData) (ps : List Str), FnOk P w K mg base CX k f fd ps sp ∧ Mk K C f ∧ Binds K fd ps []
/-- the same with the last parameter's default -/
structure MakD (P : Program) (w : World) (K : PySem.W.Frag) (mg : Str → Option Value) (base : Heap) (CX : CXT) (k : Nat) (x : Str) (C : Addr) (sp : Sp) (dvs : List V) : Prop where
  at_ : mg x = some (.ref C)
  ex : ∃ (f : Addr) (fd : FuncData) (ps : List Str) (ds : List Value), FnOk P w K mg base CX k f fd ps sp ∧ Mk K C f ∧ Binds K fd ps ds ∧ Vals dvs ds

section
variable (X : Cx)
def FldW (x : V) (f : Str) (H : Hp) (Q : VK) : Prop := ∃ a C dx fs v, x = .ref a ∧ H a = some (.ins C dx fs) ∧ Cls X.K C ∧ NoAttr X.K C f ∧ fs.lookup f = some v ∧ Q v H
end
section
variable {K : PySem.W.Frag} {H : Hp}
theorem RpAll.look : ∀ {fs : List (Str × V)} {ds : List D} {f : Str} {d : D}, RpAll K H (fs.map (·.2)) ds → ((fs.map (·.1)).zip ds).lookup f = some d → ∃ v, fs.lookup f = some v ∧ Rp K H v d
  | [], _, _, _, _, e => by simp at e
  | (n, u) :: r, ds, f, d, h, e => by
    cases h with
    | @cons _ _ d0 ds0 h1 h2 =>
      rw [List.map_cons, List.zip_cons_cons, List.lookup_cons] at e
      rw [List.lookup_cons]
      by_cases hf : f == n
      · rw [hf] at e ⊢
        cases e
        exact ⟨u, rfl, h1⟩
      · rw [Bool.eq_false_iff.mpr hf] at e ⊢
        exact RpAll.look h2 e
end
section
variable {X : Cx} {e o : Expr} {es : List Expr} {σ : Sl} {H : Hp} {Q : VK} {x y : V} {f m : Str} {pos p apos : Pos} {C : Addr} {ns : List Str} {ds : List D} {d : D} {E : Ends} {W : WX} {j k : Nat} {sp : Sp}
theorem we_fld (hb : attributeBase e f X.env (eval e X.env) = eval e X.env) (q : QE X e σ H fun x H1 => FldW X x f H1 Q) : QE X (.Attribute e f pos) σ H Q := we_of (pe_fld pe_sem hb) q
theorem fldw_obj (c : Cls X.K C) (n : NoAttr X.K C f) (h : Rp X.K H x (.obj C ns ds)) (e : (ns.zip ds).lookup f = some d) (q : ∀ v, Rp X.K H v d → Q v H) : FldW X x f H Q := by
  cases h with
  | @obj a _ dx fs _ _ h1 h2 h3 =>
    subst h2
    obtain ⟨v, h4, h5⟩ := h3.look e
    exact ⟨a, C, dx, fs, v, rfl, h1, c, n, h4, q v h5⟩
theorem fldw_raw {a dx : Addr} {fs : List (Str × V)} {v : V} (c : Cls X.K C) (n : NoAttr X.K C f) (h : H a = some (.ins C dx fs)) (e : fs.lookup f = some v) (q : Q v H) : FldW X (.ref a) f H Q := ⟨a, C, dx, fs, v, rfl, h, c, n, e, q⟩
theorem ws_fld {value : Expr} {pos' : Pos} (hs : swapsWith value (some (.Attribute o f pos')) pos.line X.env = pure false)
    (q : QE X value σ H fun y H1 => QE X o σ H1 fun x H2 => ∃ a C dx fs, x = .ref a ∧ H2 a = some (.ins C dx fs) ∧ Cls X.K C ∧ NoAttr X.K C f ∧ fs.length < 1000 ∧ E.nx σ (upd H2 a (.ins C dx (putF f y fs)))) : QS X (.Assign [.Attribute o f pos'] value pos) E σ H :=
  ws_of (ps_fld pe_sem pe_sem hs) q
/-! methods -/
theorem we_meth {pl : Sem Bool} (c : Cls X.K C) (mt : MetX X.prog X.w X.K X.mg X.base CX0 k C m sp) (hr : Room j X.A) (hk : k ≤ j)
    (q : QE X o σ H fun x H1 => ∃ a dx fs, x = .ref a ∧ H1 a = some (.ins C dx fs) ∧ fs.lookup m = none ∧ QA X (e :: es) σ H1 fun vs H2 => sp (x :: vs) H2 Q L2.E0)
    (hst : starEach (e :: es) X.env = (false, eval e X.env) :: starEach es X.env) (hpl : (backTo pos (starEach es X.env)).any (·.1) = false)
    (ht : eval (.Call (.Attribute o m apos) (e :: es) [] pos) X.env = (do
      let ov ← eval o X.env
      standAt apos.atName
      let (f, first) ← holding [ov] (getMethod ov m pl)
      callWith pos f first (backTo pos (starEach (e :: es) X.env)) (backToKw pos (keywordEach [] X.env)))) : QE X (.Call (.Attribute o m apos) (e :: es) [] pos) σ H Q := by
  obtain ⟨f, fd, ps, F, hm, b⟩ := mt.ex
  refine we_of (pe_meth pe_sem c hm F (hr.mono hk) b .nil pass0 pa_sem hst hpl ht) ?_
  refine q.imp fun x H1 ⟨a, dx, fs, e1, e2, e3, z⟩ => ⟨a, dx, fs, e1, e2, e3, ?_⟩
  intro ps2 pins s I
  refine thn (z ps2 pins s I) fun us s1 ⟨vs, H2, I2, r, w⟩ => ⟨vs, H2, I2, r, by dsimp only; rw [List.append_nil]; exact w⟩
theorem we_methX {pl : Sem Bool} (c : Cls X.K C) (mt : MetX X.prog X.w X.K X.mg X.base (L2.CX X.prog X.w) k C m sp) (tk : Takes X W) (hr : Room j X.A) (hk : k ≤ j)
    (q : QE X o σ H fun x H1 => ∃ a dx fs, x = .ref a ∧ H1 a = some (.ins C dx fs) ∧ fs.lookup m = none ∧ QA X (e :: es) σ H1 fun vs H2 => sp (x :: vs) H2 Q fun c d H' => ∀ σ, W c d σ H')
    (hst : starEach (e :: es) X.env = (false, eval e X.env) :: starEach es X.env) (hpl : (backTo pos (starEach es X.env)).any (·.1) = false)
    (ht : eval (.Call (.Attribute o m apos) (e :: es) [] pos) X.env = (do
      let ov ← eval o X.env
      standAt apos.atName
      let (f, first) ← holding [ov] (getMethod ov m pl)
      callWith pos f first (backTo pos (starEach (e :: es) X.env)) (backToKw pos (keywordEach [] X.env)))) : QE X (.Call (.Attribute o m apos) (e :: es) [] pos) σ H Q := by
  obtain ⟨f, fd, ps, F, hm, b⟩ := mt.ex
  refine we_of (pe_meth pe_sem c hm F (hr.mono hk) b .nil (passX tk σ) pa_sem hst hpl ht) ?_
  refine q.imp fun x H1 ⟨a, dx, fs, e1, e2, e3, z⟩ => ⟨a, dx, fs, e1, e2, e3, ?_⟩
  intro ps2 pins s I
  refine thn (z ps2 pins s I) fun us s1 ⟨vs, H2, I2, r, w⟩ => ⟨vs, H2, I2, r, by dsimp only; rw [List.append_nil]; exact w⟩
theorem we_meth0 {pl : Sem Bool} (c : Cls X.K C) (mt : MetX X.prog X.w X.K X.mg X.base CX0 k C m sp) (hr : Room j X.A) (hk : k ≤ j)
    (q : QE X o σ H fun x H1 => ∃ a dx fs, x = .ref a ∧ H1 a = some (.ins C dx fs) ∧ fs.lookup m = none ∧ sp [x] H1 Q L2.E0)
    (ht : eval (.Call (.Attribute o m apos) [] [] pos) X.env = (do
      let ov ← eval o X.env
      standAt apos.atName
      let (f, first) ← holding [ov] (getMethod ov m pl)
      callWith pos f first (backTo pos (starEach [] X.env)) (backToKw pos (keywordEach [] X.env)))) : QE X (.Call (.Attribute o m apos) [] [] pos) σ H Q := by
  obtain ⟨f, fd, ps, F, hm, b⟩ := mt.ex
  exact we_of (pe_meth0 pe_sem c hm F (hr.mono hk) b .nil pass0 ht) q
/-! an instance made -/
theorem we_make (mk : MakX X.prog X.w X.K X.mg X.base (L2.CX X.prog X.w) k m C sp) (tk : Takes X W) (hr : Room j X.A) (hk : k + 1 ≤ j) (hg : Gl X m)
    (q : QA X (e :: es) σ H fun vs H1 => ∀ x dx H2, H1 x = none → Same H1 H2 → H2 x = some (.ins C dx []) → H2 dx = some (.own x) → dx ≠ x → sp (.ref x :: vs) H2 (fun v H3 => v = .non ∧ Q (.ref x) H3) fun c d H' => ∀ σ, W c d σ H')
    (hdb : (m == ("__debug__" : Str)) = false := by decide) (he : starEach (e :: es) X.env = (false, eval e X.env) :: starEach es X.env := by rfl) (hpl : (backTo pos (starEach es X.env)).any (·.1) = false := by rfl) : QE X (.Call (.Name m p) (e :: es) [] pos) σ H Q := by
  obtain ⟨f, fd, ps, F, M, b⟩ := mk.ex
  refine we_of (pe_make M F (hr.mono hk) hg mk.at_ b .nil (passX tk σ) pa_sem hdb he hpl) ?_
  intro ps2 pins s I
  refine thn (q ps2 pins s I) fun us s1 ⟨vs, H1, I1, r, z⟩ => ⟨vs, H1, I1, r, fun x dx hx hd hne => ?_⟩
  rw [List.append_nil]
  have s1' : Same H1 (upd H1 dx (.own x)) := same_new hd
  have hx2 : (upd H1 dx (.own x)) x = none := by rw [upd_ne hne.symm]; exact hx
  exact z x dx _ hx (s1'.trans (same_new hx2)) upd_same (by rw [upd_ne hne]; exact upd_same) hne
theorem we_makeD {dvs : List V} (mk : MakD X.prog X.w X.K X.mg X.base (L2.CX X.prog X.w) k m C sp dvs) (tk : Takes X W) (hr : Room j X.A) (hk : k + 1 ≤ j) (hg : Gl X m)
    (q : QA X (e :: es) σ H fun vs H1 => ∀ x dx H2, H1 x = none → Same H1 H2 → H2 x = some (.ins C dx []) → H2 dx = some (.own x) → dx ≠ x → sp (.ref x :: (vs ++ dvs)) H2 (fun v H3 => v = .non ∧ Q (.ref x) H3) fun c d H' => ∀ σ, W c d σ H')
    (hdb : (m == ("__debug__" : Str)) = false := by decide) (he : starEach (e :: es) X.env = (false, eval e X.env) :: starEach es X.env := by rfl) (hpl : (backTo pos (starEach es X.env)).any (·.1) = false := by rfl) : QE X (.Call (.Name m p) (e :: es) [] pos) σ H Q := by
  obtain ⟨f, fd, ps, ds, F, M, b, hd0⟩ := mk.ex
  refine we_of (pe_make M F (hr.mono hk) hg mk.at_ b hd0 (passX tk σ) pa_sem hdb he hpl) ?_
  intro ps2 pins s I
  refine thn (q ps2 pins s I) fun us s1 ⟨vs, H1, I1, r, z⟩ => ⟨vs, H1, I1, r, fun x dx hx hd hne => ?_⟩
  have s1' : Same H1 (upd H1 dx (.own x)) := same_new hd
  have hx2 : (upd H1 dx (.own x)) x = none := by rw [upd_ne hne.symm]; exact hx
  exact z x dx _ hx (s1'.trans (same_new hx2)) upd_same (by rw [upd_ne hne]; exact upd_same) hne
end
/-! operators -/
section
variable {X : Cx} {σ : Sl} {H : Hp} {Q : VK} {x y : V} {C : Addr} {W : WX} {j k : Nat} {sp : Sp} {a : Addr} {dx : Addr} {fs : List (Str × V)}
theorem inst_at {pins : List (Addr × Obj)} {s : Shared} (I : Inv X pins σ H s) (h : H a = some (.ins C dx fs)) : ∃ ox od, PySem.W.InstAt s.heap a ox C od := by
  obtain ⟨mA, J, _⟩ := ins_get I.hok h
  obtain ⟨od, J, _⟩ := J.look
  exact ⟨_, _, J⟩
/-- x op y by the own method, y of the same class -/
theorem opw_own {op : Operator} (mt : MetX X.prog X.w X.K X.mg X.base (L2.CX X.prog X.w) k C (PySem.dunder op.info.2) sp) (hc : PySem.W.selfFirst X.K C = true) (tk : Takes X W) (hr : Room j X.A) (hk : k ≤ j) {b dy : Addr} {gs : List (Str × V)}
    (ha : H a = some (.ins C dx fs)) (hb : H b = some (.ins C dy gs)) (q : sp [.ref a, .ref b] H Q fun c d H' => ∀ σ, W c d σ H') : OpW X (binaryOp op) (.ref a) (.ref b) H Q := by
  obtain ⟨f, fd, ps, F, hm, bd⟩ := mt.ex
  intro pins s σ u v I ru rv
  cases (show u = Value.ref a from ru)
  cases (show v = Value.ref b from rv)
  obtain ⟨ox, od, J⟩ := inst_at I ha
  obtain ⟨oy, od', J'⟩ := inst_at I hb
  obtain ⟨m, hF⟩ := I.fr
  refine PySem.W.binop_K hF I.ok.mod.kin J J'.type hc hm.at_ hm.fn ?_
  refine wpAny_mono (run_fn (us := [.ref a, .ref b]) (vs := [.ref a, .ref b]) F (hr.mono hk) bd .nil (passX tk σ) I (.cons rfl (.cons rfl .nil)) q) (fun w s' z => ?_) fun _ _ x => x
  obtain ⟨z', H', I', rz, qz⟩ := z
  exact SlX.cmpback rz ⟨z', H', I', rz, qz⟩
/-- .. y of a built-in type T -/
theorem opw_ownT {op : Operator} {T : String} {fo ro rc : Option Value} (mt : MetX X.prog X.w X.K X.mg X.base (L2.CX X.prog X.w) k C (PySem.dunder op.info.2) sp) (hc : PySem.W.selfFirst X.K C = true) (tk : Takes X W) (hr : Room j X.A) (hk : k ≤ j)
    (hrr : PySem.W.findIn X.K (.ref C) (PySem.dunderR op.info.2) = some rc) (hp : rc = none ∨ ∃ g : Addr, rc = some (.ref g)) (h1 : PySem.W.findIn X.K (.type T) (PySem.dunder op.info.2) = some fo) (h2 : PySem.W.findIn X.K (.type T) (PySem.dunderR op.info.2) = some ro) (hsub : PySem.W.subIn X.K (.type T) (.ref C) = some false)
    (hty : ∀ u, RelV y u → typeOf u = pure (.type T)) (ha : H a = some (.ins C dx fs)) (q : sp [.ref a, y] H Q fun c d H' => ∀ σ, W c d σ H') : OpW X (binaryOp op) (.ref a) y H Q := by
  obtain ⟨f, fd, ps, F, hm, bd⟩ := mt.ex
  intro pins s σ u v I ru rv
  cases (show u = Value.ref a from ru)
  obtain ⟨ox, od, J⟩ := inst_at I ha
  obtain ⟨m, hF⟩ := I.fr
  refine PySem.W.ksp_binT hF I.ok.mod.kin J (hty v rv) hc hm.at_ hm.fn hrr hp h1 h2 hsub ?_
  refine wpAny_mono (run_fn (us := [.ref a, v]) (vs := [.ref a, y]) F (hr.mono hk) bd .nil (passX tk σ) I (.cons rfl (.cons rv .nil)) q) (fun w s' z => ?_) fun _ _ x => x
  obtain ⟨z', H', I', rz, qz⟩ := z
  exact SlX.cmpback rz ⟨z', H', I', rz, qz⟩
/-- the class of a datum, looked up in a heap -/
theorem looks_ty {d : D} {n : String} {v : V} {u : Value} {pins : List (Addr × Obj)} {s : Shared} (h : Rp X.K H v d) (e : d.ty = some n) (I : Inv X pins σ H s) (r : RelV v u) : PySem.W.Looks (model X.prog X.w) s.heap (typeOf u) (.type n) := by
  cases h with
  | non => cases e; cases r; exact PySem.W.Looks.of_pure rfl
  | bl b => cases e; cases r; exact PySem.W.Looks.of_pure rfl
  | int i => cases e; obtain ⟨t, rfl⟩ := r; exact PySem.W.Looks.of_pure rfl
  | str x => cases e; obtain ⟨t, rfl⟩ := r; exact PySem.W.Looks.of_pure rfl
  | tup h1 h2 =>
    cases e
    cases r
    obtain ⟨its, rv, ⟨o, ho, hc, _⟩, hz⟩ := I.tuple h1
    exact fun A Q E s k q => wpAny_typeOf_ref (k _ _ ho) (by rw [hc]; exact q)
  | lst h1 h2 =>
    cases e
    cases r
    obtain ⟨its, rv, ⟨o, n0, ho, hc, _⟩, hz⟩ := I.list h1
    exact fun A Q E s k q => wpAny_typeOf_ref (k _ _ ho) (by rw [hc]; exact q)
  | obj _ _ _ => cases e
open PySem.W in
/-- an own operator, the second thing of a built-in class that the first is asked ahead of -/
theorem bin_mixed {prog : Program} {w : World} {A : Around} {EE : Value → Shared → Prop} {s : Shared} {KK : Frag} {xx CC LL ff : Addr} {hh0 : Heap} {mm : Str → Option Value} {ox : Obj} {od : Option Obj} {T : String} {op : Operator} {b : Value} {fo ro rc : Option Value} {QQ : Value → Shared → Prop}
    (Fr0 : Fr hh0 LL s.heap mm) (KI : KK.In hh0) (I : InstAt s.heap xx ox CC od) (tb : Looks (model prog w) s.heap (typeOf b) (.type T)) (first : selfFirst KK CC = true)
    (at_ : findIn KK (.ref CC) (PySem.dunder op.info.2) = some (some (.ref ff))) (fn : isFn KK (.ref ff) = true) (right : findIn KK (.ref CC) (dunderR op.info.2) = some rc) (rp : rc = none ∨ ∃ g : Addr, rc = some (.ref g))
    (f1 : findIn KK (.type T) (PySem.dunder op.info.2) = some fo) (f2 : findIn KK (.type T) (dunderR op.info.2) = some ro) (below : subIn KK (.type T) (.ref CC) = some false)
    (go : wpAny (model prog w) A (call (.ref ff) [.ref xx, b]) (PySem.W.CmpBack QQ) EE s) : wpAny (model prog w) A (binaryOp op (.ref xx) b) QQ EE s := by
  have now := KI.keeps Fr0.keep
  obtain ⟨cd, rest, hcd, hm⟩ := ksp_first first
  rcases opi : op.info with ⟨sg, nm⟩
  rw [opi] at at_ right f1 f2
  dsimp only at at_ right f1 f2
  have tried := ksp_try now I at_ fn go
  obtain ⟨hp, g, d, tt, os⟩ := s
  have l1 : Looks (model prog w) hp (typeOf (.ref xx)) (.ref CC) := I.type
  have l3 : Looks (model prog w) hp (fillsNumberSlot (.ref CC) nm) true := fills_K now hcd hm at_
  have l4 : Looks (model prog w) hp (fillsNumberSlot (.type T) nm) ((fo.isSome && !isSeqSlot fo) || (ro.isSome && !isSeqSlot ro)) := ksp_fillsT now f1 f2
  have l5 : Looks (model prog w) hp (isSubtype (.type T) (.ref CC)) false := looks_subIn now below
  have l6 : Looks (model prog w) hp (numberSlotInPython (.ref CC) nm) true := ksp_inPy now at_ right rp
  have l7 : Looks (model prog w) hp (numberSlotInPython (.type T) nm) false := Looks.of_pure rfl
  have l8 : Looks (model prog w) hp (typeLookup (.type T) (dunderR nm)) ro := looks_findIn now f2
  generalize ((fo.isSome && !isSeqSlot fo) || (ro.isSome && !isSeqSlot ro)) = rgt at l4
  have other : (Value.ref CC == Value.type T) = false := Bool.eq_false_iff.mpr fun z => nomatch (beq_iff_eq.mp z)
  simp only [binaryOp, opi]
  refine wpAny_holding (wpAny_bind ?_)
  unfold binaryOp1
  refine wpAny_bind (l1.at (wpAny_bind (tb.at (wpAny_bind (l3.at ?_)))))
  simp only [other, Bool.false_eq_true, if_false]
  cases rgt <;>
  · ksp_lk
    refine wpAny_mono tried (fun r s' z => ?_) fun _ _ y => y
    obtain ⟨v, rfl, hv⟩ := z
    ksp_lk
    exact hv
theorem opw_ownD {op : Operator} {d : D} {n : String} {fo ro rc : Option Value} (mt : MetX X.prog X.w X.K X.mg X.base (L2.CX X.prog X.w) k C (PySem.dunder op.info.2) sp) (hc : PySem.W.selfFirst X.K C = true) (tk : Takes X W) (hr : Room j X.A) (hk : k ≤ j)
    (hrr : PySem.W.findIn X.K (.ref C) (PySem.dunderR op.info.2) = some rc) (hp : rc = none ∨ ∃ g : Addr, rc = some (.ref g)) (h1 : PySem.W.findIn X.K (.type n) (PySem.dunder op.info.2) = some fo) (h2 : PySem.W.findIn X.K (.type n) (PySem.dunderR op.info.2) = some ro) (hsub : PySem.W.subIn X.K (.type n) (.ref C) = some false)
    (rp : Rp X.K H y d) (ed : d.ty = some n) (ha : H a = some (.ins C dx fs)) (q : sp [.ref a, y] H Q fun c d H' => ∀ σ, W c d σ H') : OpW X (binaryOp op) (.ref a) y H Q := by
  obtain ⟨f, fd, ps, F, hm, bd⟩ := mt.ex
  intro pins s σ u v I ru rv
  cases (show u = Value.ref a from ru)
  obtain ⟨ox, od, J⟩ := inst_at I ha
  obtain ⟨m, hF⟩ := I.fr
  refine bin_mixed hF I.ok.mod.kin J (looks_ty rp ed I rv) hc hm.at_ hm.fn hrr hp h1 h2 hsub ?_
  refine wpAny_mono (run_fn (us := [.ref a, v]) (vs := [.ref a, y]) F (hr.mono hk) bd .nil (passX tk σ) I (.cons rfl (.cons rv .nil)) q) (fun w s' z => ?_) fun _ _ x => x
  obtain ⟨z', H', I', rz, qz⟩ := z
  exact SlX.cmpback rz ⟨z', H', I', rz, qz⟩
theorem callw_len_st {xs : List V} (h : SqT X.K H a xs) (q : Q (.int xs.length) H) : CallW X (.builtin "len") [.ref a] H Q := callw_of call_len ⟨.ref a, xs.length, rfl, .inr ⟨xs, h, rfl⟩, q⟩
theorem unw_own (mt : MetX X.prog X.w X.K X.mg X.base (L2.CX X.prog X.w) k C "__neg__" sp) (tk : Takes X W) (hr : Room j X.A) (hk : k ≤ j)
    (ha : H a = some (.ins C dx fs)) (q : sp [.ref a] H Q fun c d H' => ∀ σ, W c d σ H') : UnW X (unaryOp .USub) (.ref a) H Q := by
  obtain ⟨f, fd, ps, F, hm, bd⟩ := mt.ex
  intro pins s σ u I ru
  cases (show u = Value.ref a from ru)
  obtain ⟨ox, od, J⟩ := inst_at I ha
  obtain ⟨m, hF⟩ := I.fr
  refine PySem.W.ksp_neg hF I.ok.mod.kin J hm.at_ hm.fn ?_
  exact run_fn (us := [.ref a]) (vs := [.ref a]) F (hr.mono hk) bd .nil (passX tk σ) I (.cons rfl .nil) q
/-- x == y by the own method; tb: y's class -/
theorem opw_eqO {tb : Value} (mt : MetX X.prog X.w X.K X.mg X.base CX0 k C "__eq__" sp) (hr : Room j X.A) (hk : k ≤ j) (hn : PySem.W.notFirst X.K C tb = true)
    (hty : ∀ pins σ s u, Inv X pins σ H s → RelV y u → PySem.W.Looks (model X.prog X.w) s.heap (typeOf u) tb) (ha : H a = some (.ins C dx fs)) (q : sp [.ref a, y] H Q L2.E0) : OpW X (compareOp .Eq) (.ref a) y H Q := by
  obtain ⟨f, fd, ps, F, hm, bd⟩ := mt.ex
  intro pins s σ u v I ru rv
  cases (show u = Value.ref a from ru)
  obtain ⟨ox, od, J⟩ := inst_at I ha
  obtain ⟨m, hF⟩ := I.fr
  show wpAny (model X.prog X.w) X.A (richCompare .Eq (.ref a) v) (EP X pins σ Q) X.xe s
  refine PySem.W.cmp_K (op := .Eq) (tb := tb) hr.units0 hF I.ok.mod.kin J (hty pins σ s v I rv) hn hm.at_ hm.fn ?_
  refine wpAny_mono (run_fn (us := [.ref a, v]) (vs := [.ref a, y]) F (hr.mono hk) bd .nil pass0 I (.cons rfl (.cons rv .nil)) q) (fun w s' z => ?_) fun _ _ x => x
  obtain ⟨z', H', I', rz, qz⟩ := z
  exact SlX.cmpback rz ⟨z', H', I', rz, qz⟩
end
/-! an own error whose __init__ calls its base's -/
section
variable {X : Cx} {e : Expr} {es : List Expr} {σ : Sl} {H : Hp} {Q : VK} {x : Str} {p1 p2 pos : Pos} {E : Ends} {W : WX}
theorem pe_clsinit {C0 : Addr} {mc : Value} {ta : TA} {pl : Sem Bool} (hg : Gl X x) (hm : X.mg x = some (.ref C0)) (hsp : PySem.W.specialIn X.K (.ref C0) "__getattribute__" = some (some (.builtin "type.__getattribute__")))
    (hty : PySem.W.typeIn X.K (.ref C0) = some mc) (hrd : PySem.W.readsIn X.K C0 mc = true) (vV : PySem.W.findCls X.K (.ref C0) mc "__init__" = some (.val (.builtin "ValueError.__init__"))) (ha : PA X (e :: es) ta)
    (hc : eval (.Call (.Attribute (.Name x p1) "__init__" p2) (e :: es) [] pos) X.env = (do
      let ov ← eval (.Name x p1) X.env
      standAt p2.atName
      let (f, first) ← holding [ov] (getMethod ov "__init__" pl)
      callWith pos f first (backTo pos (starEach (e :: es) X.env)) (backToKw pos (keywordEach [] X.env))))
    (he : starEach (e :: es) X.env = (false, eval e X.env) :: starEach es X.env) (hpl : (backTo pos (starEach es X.env)).any (·.1) = false) (hdb : (x == ("__debug__" : Str)) = false) :
    PE X (.Call (.Attribute (.Name x p1) "__init__" p2) (e :: es) [] pos) (tVeI X.K ta) := by
  refine ⟨fun pins s σ H Q I h => ?_⟩
  refine PySem.W.methodCall_KW (ld_glob I hg hm ?_ hdb) hc
  obtain ⟨m, fr⟩ := I.fr
  refine PySem.W.method_of_cls fr I.ok.mod.kin hsp (PySem.W.cls_val fr I.ok.mod.kin hty hrd vV (by decide +kernel) ?_)
  show wpAny _ _ (callWith pos (Value.builtin "ValueError.__init__") [] (backTo pos (starEach (e :: es) X.env)) []) _ _ _
  refine PyProof.Rows.callWith_method1 (thn (ha.run pos pins _ σ H _ (I.tok _) h) fun us s1 ⟨vs, H1, I1, r1, a, C, ws, ev, hl, T, ea, q⟩ => ?_) he hpl
  subst ev
  cases r1 with
  | @cons _ u0 _ ur ra rw' =>
    obtain rfl : u0 = Value.ref a := ra
    exact oinit_ok T I1 ea (by rw [← Paired.length rw', sizeLine_eq]; omega) fun s' J => ⟨.non, H1, J, rfl, q⟩
theorem we_clsinit {C0 : Addr} {mc : Value} {pl : Sem Bool} (hg : Gl X x) (hm : X.mg x = some (.ref C0)) (hsp : PySem.W.specialIn X.K (.ref C0) "__getattribute__" = some (some (.builtin "type.__getattribute__")))
    (hty : PySem.W.typeIn X.K (.ref C0) = some mc) (hrd : PySem.W.readsIn X.K C0 mc = true) (vV : PySem.W.findCls X.K (.ref C0) mc "__init__" = some (.val (.builtin "ValueError.__init__")))
    (q : QA X (e :: es) σ H fun vs H1 => ∃ (a C : Addr) (ws : List V), vs = .ref a :: ws ∧ ws.length ≤ 1000 ∧ OexC X.K C ∧ H1 a = some (exo a C none) ∧ Q .non H1)
    (hc : eval (.Call (.Attribute (.Name x p1) "__init__" p2) (e :: es) [] pos) X.env = (do
      let ov ← eval (.Name x p1) X.env
      standAt p2.atName
      let (f, first) ← holding [ov] (getMethod ov "__init__" pl)
      callWith pos f first (backTo pos (starEach (e :: es) X.env)) (backToKw pos (keywordEach [] X.env))))
    (he : starEach (e :: es) X.env = (false, eval e X.env) :: starEach es X.env) (hpl : (backTo pos (starEach es X.env)).any (·.1) = false) (hdb : (x == ("__debug__" : Str)) = false) :
    QE X (.Call (.Attribute (.Name x p1) "__init__" p2) (e :: es) [] pos) σ H Q := we_of (pe_clsinit hg hm hsp hty hrd vV pa_sem hc he hpl hdb) q
theorem ws_ost {o : Expr} {f : Str} {p' : Pos} {C : Addr} (hs : swapsWith e (some (.Attribute o f p')) pos.line X.env = pure false) (T : OexC X.K C) (hno : PySem.W.findIn X.K (.ref C) f = some none)
    (q : QE X e σ H fun y H1 => QE X o σ H1 fun x H2 => ∃ a : Addr, x = .ref a ∧ H2 a = some (exo a C none) ∧ ∀ dx, H2 dx = none → dx ≠ a → E.nx σ (upd (upd H2 dx (exd dx [(f, y)])) a (exo a C (some dx)))) : QS X (.Assign [.Attribute o f p'] e pos) E σ H := by
  refine ws_of (ps_ost pe_sem pe_sem hs) ?_
  exact q.imp fun y H1 z => z.imp fun x H2 ⟨a, e1, e2, w⟩ => ⟨a, C, e1, T, hno, .inl ⟨e2, w⟩⟩
/-- what an own error's __init__ promises: its one field f -/
def spErr (C : Addr) (f : Str) : Sp := fun vs H Q _ => ∃ (a : Addr) (v : V), vs = [.ref a, v] ∧ H a = some (exo a C none) ∧ ∀ dx, H dx = none → dx ≠ a → Q .non (upd (upd H dx (exd dx [(f, v)])) a (exo a C (some dx)))
/-- raise C('m') -/
theorem ws_raiseR {C fI : Addr} {k j : Nat} {fd : FuncData} {ps : List Str} {f m : Str} {jm : Nat} {pm cpos : Pos} (hcal : X.calm = true) (tk : Takes X W) (T : OexC X.K C) (iC : PySem.W.findIn X.K (.ref C) "__init__" = some (some (.ref fI))) (tI : PySem.W.typeIn X.K (.ref fI) = some (.type "function"))
    (F1 : FnOk X.prog X.w X.K X.mg X.base CX0 k fI fd ps (spErr C f)) (hr : Room j X.A) (hk : k + 1 ≤ j) (hb : Binds X.K fd ps []) (hg : Gl X x) (hm : X.mg x = some (.ref C))
    (q : ∀ d H', H d = none → Same H H' → H' d = some (.xd [(f, .str m)]) → W (.ref C) (some d) σ H')
    (hdb : (x == ("__debug__" : Str)) = false) (he : starEach [.Constant (.str m) jm pm] X.env = (false, eval (.Constant (.str m) jm pm) X.env) :: starEach [] X.env) (hpl : (backTo cpos (starEach [] X.env)).any (·.1) = false) :
    QS X (.Raise (some (.Call (.Name x p1) [.Constant (.str m) jm pm] [] cpos)) none pos) E σ H := by
  refine ws_of (ps_raise hcal tk (pmk_oex T iC tI F1 (hr.mono hk) hb .nil pass0 hg hm (pa_cons pe_str pa_nil he) hdb he hpl)) ?_
  refine ⟨by simp, fun a ha => ⟨a, .str m, rfl, upd_same, fun dx hdx hne => ⟨rfl, dx, [(f, .str m)], upd_same, by rw [upd_ne hne]; exact upd_same, ?_, ?_⟩⟩⟩
  · rw [upd_ne hne] at hdx
    exact hdx
  · rw [upd_ne hne] at hdx
    refine q dx _ hdx (fun b u hb => ?_) upd_same
    have n1 : b ≠ a := ne_of_none hb ha
    have n2 : b ≠ dx := ne_of_none hb hdx
    rw [upd_ne n2, del_ne n1, upd_ne n1, upd_ne n2, upd_ne n1]
    exact hb
/-- err.f in a suite -/
theorem we_xf {a C : Addr} {oe : Obj} {d : Option Addr} {pn : List (Addr × Obj)} {n : Str} (T : XfC X.K C) (hno : PySem.W.findIn X.K (.ref C) n = some none) (hz : Zc (.ref C) d oe) (hf : ∃ vs, oe.data = .fields vs)
    (hb : attributeBase e n (X.suite a ((a, oe) :: pn)).env (eval e (X.suite a ((a, oe) :: pn)).env) = eval e (X.suite a ((a, oe) :: pn)).env)
    (q : QE (X.suite a ((a, oe) :: pn)) e σ H fun x H1 => x = .ref a ∧ ∃ (dd : Addr) (fs : List (Str × V)) (v : V), d = some dd ∧ H1 dd = some (.xd fs) ∧ fs.lookup n = some v ∧ Q v H1) : QE (X.suite a ((a, oe) :: pn)) (.Attribute e n pos) σ H Q := by
  refine we_of (pe_xf T hno hz hf pe_sem hb) ?_
  exact q.imp fun x H1 ⟨e1, z⟩ => ⟨e1, rfl, z⟩
/-! str(x) by the own __str__; f-texts -/
theorem callw_strOwn {C a dx : Addr} {fs : List (Str × V)} {k j : Nat} {sp : Sp} (mt : MetX X.prog X.w X.K X.mg X.base CX0 k C "__str__" sp) (hr : Room j X.A) (hk : k + 2 ≤ j) (ha : H a = some (.ins C dx fs)) (q : sp [.ref a] H (fun v H' => ∃ z, v = .str z ∧ Q v H') L2.E0) : CallW X (.type "str") [.ref a] H Q := by
  obtain ⟨f, fd, ps, F, hm, bd⟩ := mt.ex
  intro pins s σ us I r
  obtain ⟨u, rfl, ru⟩ := r.one
  cases (show u = Value.ref a from ru)
  obtain ⟨ox, od, J⟩ := inst_at I ha
  have hr1 : Room (k + 1) X.A.in1 := Room.in1 (hr.mono hk)
  have hr2 : Room k X.A.in1.in1 := hr1.in1
  refine PySem.W.kso_call hr2.units0 I.kIn J hm.at_ hm.fn (wpAny_mono (wpAny_call (SlX.run_at (us := [.ref a]) (ws := [.ref a]) (F.raw bd .nil) hr2 I.env0.in1.in1 pass0 I (.cons rfl .nil) q)) (fun w s' z => ?_) fun _ _ x => x)
  obtain ⟨z', H', I', rz, y, ei, qz⟩ := z
  subst ei
  obtain ⟨t, e⟩ := (show ∃ t, w = Value.str y t from rz)
  cases e
  exact ⟨.str y, H', I', ⟨t, rfl⟩, qz⟩
theorem we_fmt {pos : Pos} (q : QE X e σ H fun x H1 => ∃ i : Int, x = .int i ∧ i.natAbs.log2 < 1920 ∧ Q (.str (toString i)) H1) : QE X (.FormattedValue e (-1) none pos) σ H Q :=
  we_of (pe_fmt pe_sem) (q.imp fun x H1 ⟨i, e, h, z⟩ => .inr ⟨i, e, h, z⟩)
theorem str_assoc (a b c : Str) : Str.empty ++ a ++ b ++ c = a ++ (b ++ c) := by
  obtain ⟨a⟩ := a
  obtain ⟨b⟩ := b
  obtain ⟨c⟩ := c
  show Str.mk (#[] ++ a ++ b ++ c) = Str.mk (a ++ (b ++ c))
  rw [Array.empty_append, Array.append_assoc]
theorem str_len (a b : Str) : (a ++ b).length = a.length + b.length := by
  obtain ⟨a⟩ := a
  obtain ⟨b⟩ := b
  show (a ++ b).size = a.size + b.size
  exact Array.size_append
theorem we_joined3 {v1 v2 v3 : Expr} {pos : Pos} (q : QE X v1 σ H fun x H1 => ∃ a : Str, x = .str a ∧ a.length ≤ sizeLine ∧ QE X v2 σ H1 fun y H2 => ∃ b : Str, y = .str b ∧ a.length + b.length ≤ sizeLine ∧ QE X v3 σ H2 fun z H3 => ∃ c : Str, z = .str c ∧ a.length + b.length + c.length ≤ sizeLine ∧ Q (.str (a ++ (b ++ c))) H3) :
    QE X (.JoinedStr [v1, v2, v3] pos) σ H Q := by
  have l0 : (Str.empty).length = 0 := rfl
  refine we_of (pe_joined (.cons (t := QE X v1) pe_sem (.cons (t := QE X v2) pe_sem (.cons (t := QE X v3) pe_sem .nil)))) ?_
  refine q.imp fun x H1 ⟨a, e1, z1, q1⟩ => ⟨a, e1, by rw [str_len, l0]; omega, ?_⟩
  refine q1.imp fun y H2 ⟨b, e2, z2, q2⟩ => ⟨b, e2, by rw [str_len, str_len, l0]; omega, ?_⟩
  refine q2.imp fun z H3 ⟨c, e3, z3, q3⟩ => ⟨c, e3, by rw [str_len, str_len, str_len, l0]; omega, ?_⟩
  show Q (.str (Str.empty ++ a ++ b ++ c)) H3
  rw [str_assoc]
  exact q3
theorem we_meth0X {o : Expr} {C : Addr} {k j : Nat} {sp : Sp} {m : Str} {apos pos : Pos} {pl : Sem Bool} (c : Cls X.K C) (mt : MetX X.prog X.w X.K X.mg X.base (L2.CX X.prog X.w) k C m sp) (tk : Takes X W) (hr : Room j X.A) (hk : k ≤ j)
    (q : QE X o σ H fun x H1 => ∃ a dx fs, x = .ref a ∧ H1 a = some (.ins C dx fs) ∧ fs.lookup m = none ∧ sp [x] H1 Q fun c d H' => ∀ σ, W c d σ H')
    (ht : eval (.Call (.Attribute o m apos) [] [] pos) X.env = (do
      let ov ← eval o X.env
      standAt apos.atName
      let (f, first) ← holding [ov] (getMethod ov m pl)
      callWith pos f first (backTo pos (starEach [] X.env)) (backToKw pos (keywordEach [] X.env)))) : QE X (.Call (.Attribute o m apos) [] [] pos) σ H Q := by
  obtain ⟨f, fd, ps, F, hm, b⟩ := mt.ex
  exact we_of (pe_meth0 pe_sem c hm F (hr.mono hk) b .nil (passX tk σ) ht) q
/-- a local name that holds a def; what leaves it is wished for at these slots -/
theorem we_callLS {N : List Str} {i j k : Nat} {f : Addr} {fd : FuncData} {ps : List Str} {sp : Sp} {p0 pos : Pos} {y : Str} (F : FnOk X.prog X.w X.K X.mg X.base (L2.CX X.prog X.w) k f fd ps sp) (kp : PySem.W.keepIn X.K (.ref f) = true) (b : Binds X.K fd ps []) (tk : Takes X W) (hr : Room j X.A) (hk : k ≤ j)
    (h : Var N σ y (.ref f) i) (hN : X.N = N) (hv : Vis X.env.scope y) (q : QA X (e :: es) σ H fun vs H1 => sp vs H1 Q fun c d H' => W c d σ H')
    (hdb : (y == ("__debug__" : Str)) = false) (hcd : (y == ("__classdict__" : Str)) = false) (he : starEach (e :: es) X.env = (false, eval e X.env) :: starEach es X.env) (hpl : (backTo pos (starEach es X.env)).any (·.1) = false) :
    QE X (.Call (.Name y p0) (e :: es) [] pos) σ H Q := by
  intro pins s I
  refine wpAny_Call_Name_kw (thn ((pe_var (i := i) (pos := p0) (hN ▸ h.n) hv hdb hcd).run pins s σ H (fun v H1 => v = .ref f ∧ H1 = H) I ⟨.ref f, h.v, rfl, rfl⟩) fun u s1 ⟨v, H1, I1, r1, q1⟩ => ?_)
  obtain ⟨rfl, rfl⟩ := q1
  cases r1
  refine PySem.W.callWith_K (h₀ := X.base) I.ok.mod.kin kp (thn (q pos pins s1 I1) fun us s2 ⟨vs, H2, I2, r, q2⟩ => ⟨I2.kIn, ?_⟩) he hpl
  have hl := F.len _ _ _ _ q2
  refine wpAny_call (codeAny_mono (F.run X.A X.stack s2 H2 ⟨us, []⟩ us vs Q _ (hr.mono hk) I2.env0 (by
    have := b s2 us I2.kIn (by rw [List.append_nil, ← r.length]; exact hl)
    rwa [List.append_nil] at this) r q2) fun r s' hq => ?_)
  cases r with
  | error e => exact passAt tk σ pins H2 s2 e s' I2 hq
  | ok fl =>
    cases fl with
    | ret w => exact I2.after hq
    | next => exact False.elim hq
    | brk => exact False.elim hq
    | cont => exact False.elim hq
/-! isinstance(x, C) -/
theorem isi_any {C a dx : Addr} {fs : List (Str × V)} {c : V} {u : Value} {b : Bool} (I : C8.InsC X.K C) (h : H a = some (.ins C dx fs)) (hc : ClsV c u) (k : PySem.W.kitOne X.K (.ref C) u = some b) (q : Q (.bl b) H) : CallW X (.builtin "isinstance") [.ref a, c] H Q :=
  callw_of call_isi ⟨.ref a, c, .ref C, u, b, rfl, hc, .base (TyOf.ins h I.cl I.ha I.hn I.htk I.hm), k, q⟩
theorem isi_own {C a dx : Addr} {fs : List (Str × V)} (I : C8.InsC X.K C) (h : H a = some (.ins C dx fs)) (q : Q (.bl true) H) : CallW X (.builtin "isinstance") [.ref a, .ref C] H Q := isi_any I h (.own C) I.me q
theorem isi_not {C : Addr} {v : V} {d : D} {n : String} (h : Rp X.K H v d) (e : d.ty = some n) (k : PySem.W.kitOne X.K (.type n) (.ref C) = some false) (q : Q (.bl false) H) : CallW X (.builtin "isinstance") [v, .ref C] H Q :=
  callw_of call_isi ⟨v, .ref C, .type n, .ref C, false, rfl, .own C, h.tyx e, k, q⟩
end
/-! a def with defaults -/
section
variable {P : Program} {w : World} {K : PySem.W.Frag} {mg : Str → Option Value} {base : Heap}
theorem okXD {x qual : Str} {st : Stmt} {f : Addr} {fd : FuncData} {N ps : List Str} {k : Nat} {sp : Sp} {dvs : List V} {kws : List (Str × V)} (F : FunD K x qual (defArgs st) (defBody st) (defScope st) dvs kws f fd) (S : FnScope N ps (defScope st)) (len : ∀ vs H Q E, sp vs H Q E → vs.length = ps.length)
    (hbody : ∀ (cdv : Value) (A : Around) (outer : List Env) (s : Shared) (H : Hp) (vs : List V) (Q : VK) (E : XK), Room k (A.deeper (envOfC qual (defScope st) s.heap.objs.size f cdv)) → sp vs H Q E →
      (cxOf (L2.CX P w) P w K mg base N qual (defScope st) f cdv A outer s H E).N = N → (cxOf (L2.CX P w) P w K mg base N qual (defScope st) f cdv A outer s H E).N.Nodup →
      Takes (cxOf (L2.CX P w) P w K mg base N qual (defScope st) f cdv A outer s H E) (fun c d _ H' => E c d H') →
      QB (cxOf (L2.CX P w) P w K mg base N qual (defScope st) f cdv A outer s H E) (defBody st) { nx := fun _ H' => Q .non H', rt := Q } (start N vs) H) : FnOk P w K mg base (L2.CX P w) (k + 1) f fd ps sp :=
  F.ok S len fun cdv A outer s H vs Q E hr h => ⟨_, pss_sem, hbody cdv A outer s H vs Q E hr h rfl S.nd (takes_of rfl rfl rfl rfl)⟩
/-- a def with one default, as it stands behind the top -/
theorem funD_mk {x qual : Str} {st : Stmt} {f T : Addr} {oc : Value} {od an : Option Addr} {osl : Array (Option Value)} {kV doc pm cdv ct : Value} {o : Obj} {it : Value} {n : Nat} {dv : V} (l : K.lookup f = some ⟨oc, od, .func (PySem.W.fnOf x qual (defArgs st) (defBody st) (defScope st) (.ref T) kV doc pm an cdv ct), osl⟩)
    (c : PySem.W.codeIn K cdv qual = true) (k : PySem.W.keepIn K (.ref f) = true) (lT : K.lookup T = some o) (oT : o.data = .seq [it].toArray n) (r : RelV dv it) : FunD K x qual (defArgs st) (defBody st) (defScope st) [dv] [] f (PySem.W.fnOf x qual (defArgs st) (defBody st) (defScope st) (.ref T) kV doc pm an cdv ct) :=
  ⟨⟨oc, od, _, kV, doc, pm, an, cdv, ct, osl, rfl, l, c, .inr ⟨by simp, T, o, [it], n, rfl, lT, oT, .cons r .nil⟩, .inl rfl⟩, k⟩
end
end Sx

/-! Sz: zip of any two of lists and tuples, enumerate of a list or a tuple: b tells which (true: a tuple). -/
namespace Sx
open PySem PySem.Spec PyProof.Rows L2

def SqB (K : PySem.W.Frag) (b : Bool) (H : Hp) (a : Addr) (xs : List V) : Prop := match b with
  | true => SqT K H a xs
  | false => SqL K H a xs
def ItB (b : Bool) (h : Heap) (it l : Addr) (i : Nat) : Prop := match b with
  | true => h.IsTupleIter it l i
  | false => h.IsListIter it l i
def IsB (b : Bool) (h : Heap) (l : Addr) (items : Array Value) : Prop := match b with
  | true => h.IsTuple l items
  | false => h.IsList l items
def itObj (b : Bool) (l : Addr) : Obj := match b with
  | true => { cls := .type "tuple_iterator", data := .fields #[.ref l, .int 0 0] }
  | false => { cls := .type "list_iterator", data := .fields #[.ref l, .int 0 0] }
section
variable {X : Cx} {pins : List (Addr × Obj)} {σ : Sl} {H : Hp} {s : Shared} {b : Bool} {a : Addr} {xs ys : List V}
theorem SqB.to {K : PySem.W.Frag} {H H' : Hp} (h : SqB K b H a xs) (e : Same H H') : SqB K b H' a xs := by
  cases b
  · exact e.seq h
  · exact Same.tupR e h
theorem SqB.is (I : Inv X pins σ H s) (h : SqB X.K b H a xs) : ∃ its : List Value, Vals xs its ∧ IsB b s.heap a its.toArray := by
  cases b
  · obtain ⟨its, r, p, _⟩ := I.list h
    exact ⟨its, r, p.isList⟩
  · obtain ⟨its, r, p, _⟩ := I.tuple h
    exact ⟨its, r, p⟩
theorem IsB.lt {h : Heap} {items : Array Value} (p : IsB b h a items) : a < h.objs.size := by
  cases b <;> obtain ⟨o, e, _⟩ := p <;> exact Heap.lt_size e
theorem ItB.at {h h' : Heap} {it l : Addr} {i : Nat} (p : ItB b h it l i) (k : ∀ o, h.get? it = some o → h'.get? it = some o) : ItB b h' it l i := by
  cases b
  · exact Heap.IsListIter.at p k
  · exact Heap.IsTupleIter.at p k
theorem ItB.obj {h : Heap} {it l : Addr} {i : Nat} (p : ItB b h it l i) : ∃ o, h.get? it = some o ∧ ∀ v, o.data ≠ .cell v := by
  cases b <;> obtain ⟨o, e, _, d⟩ := p <;> exact ⟨o, e, fun v q => by rw [d] at q; cases q⟩
theorem itObj_new {h : Heap} {it : Addr} (e : h.get? it = some (itObj b a)) : ItB b h it a 0 := by
  cases b <;> exact ⟨_, e, rfl, rfl⟩
theorem drawB {prog : Program} {w : World} {A : Around} (hh : A.handled = none) (it l : Addr) (hne : l ≠ it) (items : Array Value) :
    Draws prog w A it [it, l] items.size (fun i v => items[i]? = some v) (fun i h => ItB b h it l i ∧ IsB b h l items) := by
  cases b
  · exact Draws.list hh it l hne items
  · exact Draws.tuple hh it l hne items
theorem begB (l : Addr) (items : Array Value) : Begins (.ref l) (itObj b l) fun h => IsB b h l items := by
  cases b
  · exact begins_list l items
  · exact begins_tuple l items
end
/-- pairs of what stands in xs and in ys -/
def ItZ (K : PySem.W.Frag) (b1 b2 : Bool) (a1 a2 : Addr) (xs ys : List V) : It :=
  ⟨fun i H => (SqB K b1 H a1 xs ∧ SqB K b2 H a2 ys) ∧ i < min xs.length ys.length, fun i H v H' => ∃ T x y, v = .ref T ∧ H T = none ∧ H' = upd H T (.tup [x, y]) ∧ xs[i]? = some x ∧ ys[i]? = some y, fun i H => (SqB K b1 H a1 xs ∧ SqB K b2 H a2 ys) ∧ i = min xs.length ys.length⟩
theorem walk_z {K : PySem.W.Frag} {b1 b2 : Bool} {a1 a2 : Addr} {xs ys : List V} : Walk (ItZ K b1 b2 a1 a2 xs ys) (min xs.length ys.length) (fun H => SqB K b1 H a1 xs ∧ SqB K b2 H a2 ys) (YPair (fun i => xs[i]?) (fun i => ys[i]?)) :=
  ⟨fun i H hi h => ⟨h, hi⟩, fun H h => ⟨h, rfl⟩, fun i H v H' _ _ y => y⟩
theorem tup2_new {P : Program} {w : World} {H : Hp} {h : Heap} {T : Addr} {x y : V} {u v : Value} (rx : RelV x u) (ry : RelV y v) (hT : h.IsTuple T #[u, v]) : ObjOk P w (upd H T (.tup [x, y])) h T (.tup [x, y]) := by
  obtain ⟨o, e, c, n, d⟩ := hT
  exact ⟨by show 2 ≤ sizeLine; decide, [u, v], .cons rx (.cons ry .nil), ⟨o, e, c, n, d⟩⟩
theorem turn_z {P : Program} {w : World} {K : PySem.W.Frag} {elts : List Expr} {kk : Nat} {tpos : Pos} {b1 b2 : Bool} {a1 a2 z TI TO i1 i2 : Addr} {xs ys : List V} (S : ZipSep2 z TI TO i1 i2 [i1, a1] [i2, a2]) (n1 : a1 ≠ i1) (n2 : a2 ≠ i2) :
    L2.Turn P w K (.Tuple elts kk tpos) (ItZ K b1 b2 a1 a2 xs ys) [z, TI, TO, i1, i2] z (fun i h => IsZip h z TI TO .none ∧ IsTupOf2 h TI (.ref i1) (.ref i2) ∧ (∃ x y, IsTupOf2 h TO x y) ∧ ItB b1 h i1 a1 i ∧ ItB b2 h i2 a2 i) where
  mem := by simp
  obj := fun i h st c hc => by
    obtain ⟨s1, s2, ⟨x, y, s3⟩, s4, s5⟩ := st
    simp only [List.mem_cons, List.not_mem_nil, or_false] at hc
    rcases hc with rfl | rfl | rfl | rfl | rfl
    · exact ⟨_, s1, fun v q => nomatch q⟩
    · exact ⟨_, s2, fun v q => nomatch q⟩
    · exact ⟨_, s3, fun v q => nomatch q⟩
    · exact s4.obj
    · exact s5.obj
  keep := fun i h h' st k => by
    obtain ⟨s1, s2, ⟨x, y, s3⟩, s4, s5⟩ := st
    exact ⟨k _ (by simp) _ s1, k _ (by simp) _ s2, ⟨x, y, k _ (by simp) _ s3⟩, s4.at (k _ (by simp)), s5.at (k _ (by simp))⟩
  item := by
    intro X hP hw hK hc i pins s σ H E I hf st hg
    subst hP hw hK
    obtain ⟨s1, s2, s3, s4, s5⟩ := st
    obtain ⟨⟨q1, q2⟩, hi⟩ := hg
    obtain ⟨it1, r1, p1⟩ := q1.is I
    obtain ⟨it2, r2, p2⟩ := q2.is I
    have hh : X.A.in1.handled = none := I.ok.hd hc
    have l1 := r1.length
    have l2 := r2.length
    have W := WalksT.zipD2 S (drawB (prog := X.prog) (w := X.w) (b := b1) hh i1 a1 n1 it1.toArray) (drawB (b := b2) hh i2 a2 n2 it2.toArray)
    refine W.item i s _ E (by simp only [List.size_toArray]; omega) ⟨s1, s2, s3, ⟨s4, p1⟩, s5, p2⟩ fun T vals h' tk hv hT hIs hMid hk => ?_
    obtain ⟨u1, u2, e1, e2, rfl⟩ := hv
    refine ⟨_, rfl, W.go elts kk tpos i T { s with heap := h', toks := tk } _ _ hMid fun h2 st2 hk2 => ?_⟩
    have hT2 : h2.IsTuple T #[u1, u2] := hIs.at fun o e => hk2 T o (W.apart i T h' hMid) e
    obtain ⟨x, hx, rx⟩ : ∃ x, xs[i]? = some x ∧ RelV x u1 := by
      obtain ⟨u, hu, ru⟩ := r1.get (i := i) (x := xs[i]'(by omega)) (by simp)
      have : it1[i]? = some u1 := by simpa using e1
      rw [this] at hu
      cases hu
      exact ⟨_, by simp, ru⟩
    obtain ⟨y, hy, ry⟩ : ∃ y, ys[i]? = some y ∧ RelV y u2 := by
      obtain ⟨u, hu, ru⟩ := r2.get (i := i) (x := ys[i]'(by omega)) (by simp)
      have : it2[i]? = some u2 := by simpa using e2
      rw [this] at hu
      cases hu
      exact ⟨_, by simp, ru⟩
    have hne : ∀ c, c ∉ [z, TI, TO, i1, i2] → c ∉ [z, TO, i1, i2] := fun c hc hm => hc (by
      simp only [List.mem_cons, List.not_mem_nil, or_false] at hm ⊢
      rcases hm with h | h | h | h <;> simp [h])
    have I1 := I.turnedNew (t' := tk) (ch := [z, TI, TO, i1, i2]) (h' := h2) (fun c o hb q => hk2 c o (hne c hb) (hk c o (hne c hb) q)) hf hT (tup2_new rx ry hT2)
    obtain ⟨t1, t2, t3, ⟨t4, _⟩, t5, _⟩ := st2
    refine ⟨.ref T, _, I1, rfl, ⟨T, x, y, rfl, I.hok.fresh hT, rfl, hx, hy⟩, ⟨t1, t2, t3, t4, t5⟩, fun c hcm => ?_⟩
    have hlt : c < s.heap.objs.size := by
      obtain ⟨x0, y0, s3⟩ := s3
      simp only [List.mem_cons, List.not_mem_nil, or_false] at hcm
      rcases hcm with rfl | rfl | rfl | rfl | rfl
      · exact Heap.lt_size s1
      · exact Heap.lt_size s2
      · exact Heap.lt_size s3
      · obtain ⟨o, e, _⟩ := s4.obj; exact Heap.lt_size e
      · obtain ⟨o, e, _⟩ := s5.obj; exact Heap.lt_size e
    rw [upd_ne (Nat.ne_of_lt (Nat.lt_of_lt_of_le hlt hT))]
    exact (hf c hcm).1
  done := by
    intro X hP hw hK hc i pins s σ H E I hf st hg
    subst hP hw hK
    obtain ⟨s1, s2, s3, s4, s5⟩ := st
    obtain ⟨⟨q1, q2⟩, rfl⟩ := hg
    obtain ⟨it1, r1, p1⟩ := q1.is I
    obtain ⟨it2, r2, p2⟩ := q2.is I
    have hh : X.A.in1.handled = none := I.ok.hd hc
    have W := WalksT.zipD2 S (drawB (prog := X.prog) (w := X.w) (b := b1) hh i1 a1 n1 it1.toArray) (drawB (b := b2) hh i2 a2 n2 it2.toArray)
    rw [r1.length, r2.length] at s4 s5
    refine W.done s _ E (by simp only [List.size_toArray]; exact ⟨s1, s2, s3, ⟨s4, p1⟩, s5, p2⟩) fun h' tk hk => ⟨rfl, I.turnedL (t' := tk) (ch := [z, TI, TO, i1, i2]) (fun c o hb q => hk c o (fun hm => hb ?_) q) hf⟩
    simp only [List.mem_cons, List.not_mem_nil, or_false] at hm ⊢
    rcases hm with h | h | h | h <;> simp [h]
  self := fun A i s Q E st h => wpAny_pyIter_zip st.1 h
def iZ (K : PySem.W.Frag) (ta : TA) : TI := fun σ H R => ta σ H fun vs H1 => ∃ b1 b2 a1 a2 xs ys, vs = [.ref a1, .ref a2] ∧ SqB K b1 H1 a1 xs ∧ SqB K b2 H1 a2 ys ∧ R (ItZ K b1 b2 a1 a2 xs ys) H1
theorem pi_z {X : Cx} {e e2 : Expr} {ta : TA} {p pos tpos : Pos} {elts : List Expr} {kk : Nat} (hg : Gl X "zip") (hm : X.mg "zip" = none) (ha : PA X [e, e2] ta)
    (hs : starEach [e, e2] X.env = (false, eval e X.env) :: starEach [e2] X.env) (hpl : (backTo pos (starEach [e2] X.env)).any (·.1) = false) :
    PI X (.Tuple elts kk tpos) (.Call (.Name "zip" p) [e, e2] [] pos) (iZ X.K ta) := by
  refine ⟨fun pins s σ H R I h => ?_⟩
  refine Call_ (ld_blt I hg hm PyProof.Rows.boot_zip (PyProof.Rows.callWith_type1 (thn (ha.run pos pins s σ H _ I h) fun us s1 ⟨vs, H1, I1, r1, q1⟩ => ?_) hs hpl))
  obtain ⟨b1, b2, a1, a2, xs, ys, rfl, h1, h2, q⟩ := q1
  obtain ⟨v1, v2, rfl, e1, e2⟩ := vals2 r1
  cases e1
  cases e2
  obtain ⟨it1, _, p1⟩ := h1.is I1
  obtain ⟨it2, _, p2⟩ := h2.is I1
  refine zip_begins2 (begB (b := b1) a1 it1.toArray) (begB (b := b2) a2 it2.toArray) p1 p2 fun h' hz hTI hTO g1 g2 hsz hk => wpAny_pyIter_zip hz ?_
  have I2 : Inv X pins σ H1 { s1 with heap := h' } := I1.kept (t' := s1.toks) hk
  have l1 := p1.lt
  have l2 := p2.lt
  have S : ZipSep2 (s1.heap.objs.size + 4) (s1.heap.objs.size + 2) (s1.heap.objs.size + 3) s1.heap.objs.size (s1.heap.objs.size + 1) [s1.heap.objs.size, a1] [s1.heap.objs.size + 1, a2] :=
    zip_sep2 (fp1 := [a1]) (fp2 := [a2]) (fun c hc => by rw [List.mem_singleton.mp hc]; exact l1) (fun c hc => by rw [List.mem_singleton.mp hc]; exact l2)
  refine ⟨s1.heap.objs.size + 4, [s1.heap.objs.size + 4, s1.heap.objs.size + 2, s1.heap.objs.size + 3, s1.heap.objs.size, s1.heap.objs.size + 1], _, _, H1, rfl, I2, turn_z S (Nat.ne_of_lt l1) (Nat.ne_of_lt (Nat.lt_succ_of_lt l2)), ⟨hz, hTI, ⟨_, _, hTO⟩, itObj_new g1, itObj_new g2⟩, fun c hc => ?_, q⟩
  have hle : s1.heap.objs.size ≤ c := by
    simp only [List.mem_cons, List.not_mem_nil, or_false] at hc
    rcases hc with rfl | rfl | rfl | rfl | rfl
    · exact Nat.le_add_right _ 4
    · exact Nat.le_add_right _ 2
    · exact Nat.le_add_right _ 3
    · exact Nat.le_refl _
    · exact Nat.le_add_right _ 1
  exact I1.fpOk hle (I1.hok.fresh hle)
/-! enumerate -/
theorem en_new {v : Value} {o : Obj} {G : Heap → Prop} (B : Begins v o G) : Meets (Builtin.«enumerate.__new__» ⟨[.type "enumerate", v], []⟩) fun _ R s =>
    G s.heap ∧ R (.ok (.ret (.ref (s.heap.push o).objs.size))) { s with heap := (s.heap.push o).push { cls := .type "enumerate", data := .fields #[.none, .bool false, .ref s.heap.objs.size, rawInt 0, .none, .none] } } := by
  refine .of_wp fun prog w A R s hF => ?_
  obtain ⟨hp, g, d, tk, os⟩ := s
  obtain ⟨f, hR⟩ := hF
  have hsub := sub_enumerate
  have go : ∀ {A' : Around} {E' : Value → Shared → Prop} {Q' : Value → Shared → Prop}, Q' (.ref hp.objs.size) ⟨hp.push o, g, d, tk, os⟩ → wpAny (model prog w) A' (pyIter v) Q' E' ⟨hp, g, d, tk, os⟩ := fun q => B.iter prog w _ _ ⟨hp, g, d, tk, os⟩ _ f q
  wp_walk using go
  refine wpAny_stack_any fun st => wpAny_pure ?_
  split
  · rename_i cc _ _ _ _ _
    cases (cc == Value.type "enumerate") <;> (wp_walk using go; exact ⟨_, rfl, hR⟩)
  · wp_walk using go
    exact ⟨_, rfl, hR⟩
theorem en_call {prog : Program} {w : World} {A : Around} {E : Value → Shared → Prop} {s : Shared} {v : Value} {o : Obj} {G : Heap → Prop} {Q : Value → Shared → Prop} (B : Begins v o G) (f : G s.heap)
    (k : ∀ h', IsEnum h' (s.heap.objs.size + 1) s.heap.objs.size 0 .none → h'.get? s.heap.objs.size = some o → (∀ c ob, s.heap.get? c = some ob → h'.get? c = some ob) → Q (.ref (s.heap.objs.size + 1)) { s with heap := h' }) :
    wpAny (model prog w) A (call (.type "enumerate") [v]) Q E s := by
  refine callType_new F.called_enumerate (by decide) (F.typeCall_enumerate_1 _) (F.newCall_enumerate_1 _) (fun obj => F.args_object_init_2 obj _) F.entry_enumerate_new (en_new B) ⟨f, ?_⟩
  have sz : (s.heap.push o).objs.size = s.heap.objs.size + 1 := Heap.size_push ..
  have g1 : ((s.heap.push o).push { cls := .type "enumerate", data := .fields #[.none, .bool false, .ref s.heap.objs.size, rawInt 0, .none, .none] }).get? (s.heap.objs.size + 1) = some { cls := .type "enumerate", data := .fields #[.none, .bool false, .ref s.heap.objs.size, rawInt 0, .none, .none] } := by
    rw [← sz]
    exact Heap.get?_push_size _ rfl
  show _ ∧ _
  rw [sz]
  exact ⟨⟨_, g1, rfl⟩, k _ g1 (Heap.get?_push_of_some _ (Heap.get?_push_size _ B.free)) fun c ob e => Heap.get?_push_of_some _ (Heap.get?_push_of_some _ e)⟩
/-- numbers and what stands in xs -/
def ItE (K : PySem.W.Frag) (b : Bool) (a : Addr) (xs : List V) : It :=
  ⟨fun i H => SqB K b H a xs ∧ i < xs.length, fun i H v H' => ∃ T x y, v = .ref T ∧ H T = none ∧ H' = upd H T (.tup [x, y]) ∧ some (V.int (i : Nat)) = some x ∧ xs[i]? = some y, fun i H => SqB K b H a xs ∧ i = xs.length⟩
theorem walk_e {K : PySem.W.Frag} {b : Bool} {a : Addr} {xs : List V} : Walk (ItE K b a xs) xs.length (fun H => SqB K b H a xs) (YPair (fun i => some (.int (i : Nat))) (fun i => xs[i]?)) :=
  ⟨fun i H hi h => ⟨h, hi⟩, fun H h => ⟨h, rfl⟩, fun i H v H' _ _ y => y⟩
theorem turn_e {P : Program} {w : World} {K : PySem.W.Frag} {elts : List Expr} {kk : Nat} {tpos : Pos} {b : Bool} {a e it : Addr} {xs : List V} (n0 : e ≠ it) (n1 : a ≠ it) (n2 : e ≠ a) :
    L2.Turn P w K (.Tuple elts kk tpos) (ItE K b a xs) [e, it] e (fun i h => (∃ old, IsEnum h e it (i : Nat) old) ∧ ItB b h it a i) where
  mem := by simp
  obj := fun i h st c hc => by
    obtain ⟨⟨old, s1⟩, s2⟩ := st
    simp only [List.mem_cons, List.not_mem_nil, or_false] at hc
    rcases hc with rfl | rfl
    · exact ⟨_, s1, fun v q => nomatch q⟩
    · exact s2.obj
  keep := fun i h h' st k => by
    obtain ⟨⟨old, s1⟩, s2⟩ := st
    exact ⟨⟨old, k _ (by simp) _ s1⟩, s2.at (k _ (by simp))⟩
  item := by
    intro X hP hw hK hc i pins s σ H E I hf st hg
    subst hP hw hK
    obtain ⟨s1, s2⟩ := st
    obtain ⟨q1, hi⟩ := hg
    obtain ⟨it1, r1, p1⟩ := q1.is I
    have hh : X.A.in1.handled = none := I.ok.hd hc
    have l1 := r1.length
    have W := WalksT.enumerateD (drawB (prog := X.prog) (w := X.w) (b := b) hh it a n1 it1.toArray) e n0 (by simp [n0, n2]) (by simp)
    refine W.item i s _ E (by simp only [List.size_toArray]; omega) ⟨s1, s2, p1⟩ fun T vals h' tk hv hT hIs hMid hk => ?_
    obtain ⟨t1, u1, e1, rfl⟩ := hv
    refine ⟨_, rfl, W.go elts kk tpos i T { s with heap := h', toks := tk } _ _ hMid fun h2 st2 hk2 => ?_⟩
    have hT2 : h2.IsTuple T #[.int i t1, u1] := hIs.at fun o e => hk2 T o (W.apart i T h' hMid) e
    obtain ⟨x, hx, rx⟩ : ∃ x, xs[i]? = some x ∧ RelV x u1 := by
      obtain ⟨u, hu, ru⟩ := r1.get (i := i) (x := xs[i]'(by omega)) (by simp)
      have : it1[i]? = some u1 := by simpa using e1
      rw [this] at hu
      cases hu
      exact ⟨_, by simp, ru⟩
    have I1 := I.turnedNew (t' := tk) (ch := [e, it]) (h' := h2) (fun c o hb q => hk2 c o hb (hk c o hb q)) hf hT (tup2_new (x := .int (i : Nat)) ⟨t1, rfl⟩ rx hT2)
    obtain ⟨t2, t3, _⟩ := st2
    refine ⟨.ref T, _, I1, rfl, ⟨T, _, x, rfl, I.hok.fresh hT, rfl, rfl, hx⟩, ⟨t2, t3⟩, fun c hcm => ?_⟩
    have hlt : c < s.heap.objs.size := by
      obtain ⟨old, s1⟩ := s1
      simp only [List.mem_cons, List.not_mem_nil, or_false] at hcm
      rcases hcm with rfl | rfl
      · exact Heap.lt_size s1
      · obtain ⟨o, e, _⟩ := s2.obj; exact Heap.lt_size e
    rw [upd_ne (Nat.ne_of_lt (Nat.lt_of_lt_of_le hlt hT))]
    exact (hf c hcm).1
  done := by
    intro X hP hw hK hc i pins s σ H E I hf st hg
    subst hP hw hK
    obtain ⟨s1, s2⟩ := st
    obtain ⟨q1, rfl⟩ := hg
    obtain ⟨it1, r1, p1⟩ := q1.is I
    have hh : X.A.in1.handled = none := I.ok.hd hc
    have W := WalksT.enumerateD (drawB (prog := X.prog) (w := X.w) (b := b) hh it a n1 it1.toArray) e n0 (by simp [n0, n2]) (by simp)
    rw [r1.length] at s1 s2
    exact W.done s _ E (by simp only [List.size_toArray]; exact ⟨s1, s2, p1⟩) fun h' tk hk => ⟨rfl, I.turnedL (t' := tk) (ch := [e, it]) hk hf⟩
  self := fun A i s Q E st h => by
    obtain ⟨⟨old, s1⟩, _⟩ := st
    exact wpAny_pyIter_enum s1 h
def iEn (K : PySem.W.Frag) (ta : TA) : TI := fun σ H R => ta σ H fun vs H1 => ∃ b a xs, vs = [.ref a] ∧ SqB K b H1 a xs ∧ R (ItE K b a xs) H1
theorem pi_en {X : Cx} {e : Expr} {ta : TA} {p pos tpos : Pos} {elts : List Expr} {kk : Nat} (hg : Gl X "enumerate") (hm : X.mg "enumerate" = none) (ha : PA X [e] ta) (hs : starEach [e] X.env = [(false, eval e X.env)]) :
    PI X (.Tuple elts kk tpos) (.Call (.Name "enumerate" p) [e] [] pos) (iEn X.K ta) := by
  refine ⟨fun pins s σ H R I h => ?_⟩
  refine Call_ (ld_blt I hg hm boot_enumerate (PyProof.Rows.callWith_type1 (thn (ha.run pos pins s σ H _ I h) fun us s1 ⟨vs, H1, I1, r1, q1⟩ => ?_) hs rfl))
  obtain ⟨b, a, xs, rfl, h1, q⟩ := q1
  cases r1 with
  | cons r rr =>
    cases rr
    cases r
    obtain ⟨it1, _, p1⟩ := h1.is I1
    refine en_call (begB (b := b) a it1.toArray) p1 fun h' he g1 hk => wpAny_pyIter_enum he ?_
    have I2 : Inv X pins σ H1 { s1 with heap := h' } := I1.kept (t' := s1.toks) hk
    have l1 := p1.lt
    refine ⟨s1.heap.objs.size + 1, [s1.heap.objs.size + 1, s1.heap.objs.size], _, _, H1, rfl, I2, turn_e (Nat.succ_ne_self _) (Nat.ne_of_lt l1) (Nat.ne_of_gt (Nat.lt_succ_of_lt l1)), ⟨⟨_, he⟩, itObj_new g1⟩, fun c hc => ?_, q⟩
    have hle : s1.heap.objs.size ≤ c := by
      simp only [List.mem_cons, List.not_mem_nil, or_false] at hc
      rcases hc with rfl | rfl
      · exact Nat.le_add_right _ 1
      · exact Nat.le_refl _
    exact I1.fpOk hle (I1.hok.fresh hle)
end Sx

/-! Sm: comprehensions and loops over data told by a list of any type; zip and enumerate. -/
namespace Sx
open PySem PySem.Spec PyProof.Rows L2

section
variable {K : PySem.W.Frag} {H H' : Hp} {v : V} {b : Bool} {ds : List D}
/-- a tuple (true) or a list -/
def RpB (K : PySem.W.Frag) (b : Bool) (H : Hp) (v : V) (ds : List D) : Prop := match b with
  | true => Rp K H v (.tup ds)
  | false => Rp K H v (.lst ds)
theorem RpB.inv (h : RpB K b H v ds) : ∃ a xs, v = .ref a ∧ SqB K b H a xs ∧ RpAll K H xs ds := by
  cases b
  · exact Rp.lst_inv h
  · exact Rp.tup_inv h
theorem RpB.to (h : RpB K b H v ds) (s : Same H H') : RpB K b H' v ds := by
  cases b
  · exact Rp.to h s
  · exact Rp.to h s
theorem bits_takeA {α : Type} (xs : List α) (g : α → Option D) : ∀ n, n ≤ xs.length → bits n (fun k => (xs[k]?).bind g) = (xs.take n).filterMap g
  | 0, _ => rfl
  | n + 1, h => by
    rw [bits_succ, bits_takeA xs g n (by omega), List.take_succ, List.filterMap_append]
    congr 1
    rw [List.getElem?_eq_getElem (by omega)]
    cases w : g xs[n] <;> simp [w]
theorem bits_ty {α : Type} (xs : List α) (g : α → Option D) : bits xs.length (fun k => (xs[k]?).bind g) = xs.filterMap g := by
  rw [bits_takeA xs g _ (Nat.le_refl _), List.take_length]
theorem bits_mp {α : Type} (xs : List α) (f : α → D) : bits xs.length (fun k => (xs[k]?).map f) = xs.map f := by
  have := bits_ty xs (fun a => some (f a))
  rw [List.filterMap_eq_map'] at this
  rw [← this]
  congr 1
  funext k
  cases xs[k]? <;> rfl
theorem atI_map {α β : Type} (g : α → β) (xs : List α) (i : Int) : atI (xs.map g) i = (atI xs i).map g := by
  unfold atI
  rw [List.length_map]
  cases ixN xs.length i with
  | none => rfl
  | some j => simp
theorem atI_nat {α : Type} {xs : List α} {k : Nat} (h : k < xs.length) : atI xs (k : Int) = some xs[k] := by
  unfold atI ixN
  rw [if_pos (by omega), if_pos (by omega)]
  simp [h]
end
section
variable {X : Cx} {elt iter c : Expr} {scope : Scope} {N : List Str} {σ σw : Sl} {S : V → Sl} {H : Hp} {Q : VK} {x : Str} {i : Nat} {px pos rp rpos : Pos} {a b : Expr}
theorem QT.imp {R R' : Bool → Hp → Prop} (h : QT X c σ H R) (k : ∀ t H', R t H' → R' t H') : QT X c σ H R' := fun pins s I => thn (h pins s I) fun t s1 ⟨H', J, q⟩ => ⟨H', J, k t H' q⟩
theorem map_im {α : Type} {xs : List α} {f : α → D} (h : ∀ a ∈ xs, (f a).im = true) : ∀ i d, (fun k : Nat => (xs[k]?).map f) i = some d → d.im = true := by
  intro i d e
  dsimp only at e
  cases w : xs[i]? with
  | none => rw [w] at e; cases e
  | some z => rw [w] at e; cases e; exact h z (List.mem_of_getElem? w)
theorem RpAll.getA {K : PySem.W.Frag} {H : Hp} {vs : List V} {α : Type} {xs : List α} {g : α → D} {k : Nat} {v : V} (h : RpAll K H vs (xs.map g)) (e : vs[k]? = some v) : ∃ a, xs[k]? = some a ∧ Rp K H v (g a) := by
  obtain ⟨d, e1, r⟩ := h.get e
  rw [List.getElem?_map] at e1
  cases w : xs[k]? with
  | none => rw [w] at e1; cases e1
  | some a => rw [w] at e1; cases e1; exact ⟨a, rfl, r⟩
/-- [elt for x in a tuple] -/
theorem ql_mt (h : Tgt N σ x σw S i) (hN : X.N = N) (nd : X.N.Nodup)
    (hl : ∀ s H0 C cl fp, Loc (X.blk s H0 scope (compEnvC scope cl C X.env) fp).env.scope x) (hf : ∀ s H0 C cl fp, (X.blk s H0 scope (compEnvC scope cl C X.env) fp).fn x = true ∨ (X.blk s H0 scope (compEnvC scope cl C X.env) fp).env.scope.names.lookup x = some .local)
    (q : QE X iter σ H fun v H1 => ∃ (α : Type) (xs : List α) (g f : α → D), Rp X.K H1 v (.tup (xs.map g)) ∧ xs.length < sizeLine ∧ (∀ a ∈ xs, (f a).im = true) ∧
      (∀ a ∈ xs, ∀ w H2, Same H1 H2 → Rp X.K H2 w (g a) → BE X scope elt (S w) H2 fun y H3 => Same H2 H3 ∧ Rp X.K H3 y (f a)) ∧
      ∀ p H2 ys, Same H1 H2 → H1 p = none → H2 p = some (.lst ys) → RpAll X.K H2 ys (xs.map f) → Q (.ref p) H2) : QL X elt (.Name x px) iter [] scope [i] σ H Q := by
  refine ql_seq h hN nd hl hf (qi_tup (q.imp fun v H1 ⟨α, xs, g, f, r, hz, him, hb, hq⟩ => ?_))
  obtain ⟨a, vs, rfl, h1, h2⟩ := r.tup_inv
  have hlen : vs.length = xs.length := by rw [h2.len, List.length_map]
  refine ⟨a, rfl, ⟨vs, h1⟩, vs.length, _, _, walk_tup (xs := vs), by rw [hlen]; exact hz, fun H' s => Same.tupR s h1, fun k => (xs[k]?).map f, map_im him, ?_, ?_⟩
  · rintro k v H2 H3 hk s2 ⟨rfl, e⟩
    obtain ⟨d, e1, r1⟩ := (h2.to s2).getA e
    intro s H0 C cl fp
    refine (hb d (List.mem_of_getElem? e1) v H3 s2 r1 s H0 C cl fp).imp fun y H5 ⟨s5, r5⟩ => ⟨s5, f d, by simp [e1], r5⟩
  · intro p H2 ys s2 hp hp2 r
    rw [hlen, bits_mp] at r
    exact hq p H2 ys s2 hp hp2 r
/-- [elt for x in a list] -/
theorem ql_ml (h : Tgt N σ x σw S i) (hN : X.N = N) (nd : X.N.Nodup)
    (hl : ∀ s H0 C cl fp, Loc (X.blk s H0 scope (compEnvC scope cl C X.env) fp).env.scope x) (hf : ∀ s H0 C cl fp, (X.blk s H0 scope (compEnvC scope cl C X.env) fp).fn x = true ∨ (X.blk s H0 scope (compEnvC scope cl C X.env) fp).env.scope.names.lookup x = some .local)
    (q : QE X iter σ H fun v H1 => ∃ (α : Type) (xs : List α) (g f : α → D), Rp X.K H1 v (.lst (xs.map g)) ∧ xs.length < sizeLine ∧ (∀ a ∈ xs, (f a).im = true) ∧
      (∀ a ∈ xs, ∀ w H2, Same H1 H2 → Rp X.K H2 w (g a) → BE X scope elt (S w) H2 fun y H3 => Same H2 H3 ∧ Rp X.K H3 y (f a)) ∧
      ∀ p H2 ys, Same H1 H2 → H1 p = none → H2 p = some (.lst ys) → RpAll X.K H2 ys (xs.map f) → Q (.ref p) H2) : QL X elt (.Name x px) iter [] scope [i] σ H Q := by
  refine ql_seq h hN nd hl hf (qi_list (q.imp fun v H1 ⟨α, xs, g, f, r, hz, him, hb, hq⟩ => ?_))
  obtain ⟨a, vs, rfl, h1, h2⟩ := r.lst_inv
  have hlen : vs.length = xs.length := by rw [h2.len, List.length_map]
  refine ⟨a, rfl, ⟨vs, h1⟩, vs.length, _, _, walk_list (xs := vs), by rw [hlen]; exact hz, fun H' s => s.seq h1, fun k => (xs[k]?).map f, map_im him, ?_, ?_⟩
  · rintro k v H2 H3 hk s2 ⟨rfl, e⟩
    obtain ⟨d, e1, r1⟩ := (h2.to s2).getA e
    intro s H0 C cl fp
    refine (hb d (List.mem_of_getElem? e1) v H3 s2 r1 s H0 C cl fp).imp fun y H5 ⟨s5, r5⟩ => ⟨s5, f d, by simp [e1], r5⟩
  · intro p H2 ys s2 hp hp2 r
    rw [hlen, bits_mp] at r
    exact hq p H2 ys s2 hp hp2 r
/-- [elt for x in a list if c] -/
theorem ql_mlT (h : Tgt N σ x σw S i) (hN : X.N = N) (nd : X.N.Nodup)
    (hl : ∀ s H0 C cl fp, Loc (X.blk s H0 scope (compEnvC scope cl C X.env) fp).env.scope x) (hf : ∀ s H0 C cl fp, (X.blk s H0 scope (compEnvC scope cl C X.env) fp).fn x = true ∨ (X.blk s H0 scope (compEnvC scope cl C X.env) fp).env.scope.names.lookup x = some .local)
    (q : QE X iter σ H fun v H1 => ∃ (α : Type) (xs : List α) (g : α → D) (f : α → Option D), Rp X.K H1 v (.lst (xs.map g)) ∧ xs.length < sizeLine ∧ (∀ a ∈ xs, ∀ d, f a = some d → d.im = true) ∧
      (∀ a ∈ xs, ∀ w H2, Same H1 H2 → Rp X.K H2 w (g a) → BT X scope c (S w) H2 fun t H3 => (t = true → BE X scope elt (S w) H3 fun y H4 => Same H2 H4 ∧ ∃ d, f a = some d ∧ Rp X.K H4 y d) ∧ (t = false → Same H2 H3 ∧ f a = none)) ∧
      ∀ p H2 ys, Same H1 H2 → H1 p = none → H2 p = some (.lst ys) → RpAll X.K H2 ys (xs.filterMap f) → Q (.ref p) H2) : QL X elt (.Name x px) iter [c] scope [i] σ H Q := by
  refine ql_seqT h hN nd hl hf (qi_list (q.imp fun v H1 ⟨α, xs, g, f, r, hz, him, hb, hq⟩ => ?_))
  obtain ⟨a, vs, rfl, h1, h2⟩ := r.lst_inv
  have hlen : vs.length = xs.length := by rw [h2.len, List.length_map]
  refine ⟨a, rfl, ⟨vs, h1⟩, vs.length, _, _, walk_list (xs := vs), by rw [hlen]; exact hz, fun H' s => s.seq h1, fun k => (xs[k]?).bind f, ?_, ?_, ?_⟩
  · intro k d e
    dsimp only at e
    cases w : xs[k]? with
    | none => rw [w] at e; cases e
    | some z => rw [w] at e; exact him z (List.mem_of_getElem? w) d e
  · rintro k v H2 H3 hk s2 ⟨rfl, e⟩
    obtain ⟨d, e1, r1⟩ := (h2.to s2).getA e
    intro s H0 C cl fp
    refine QT.imp (hb d (List.mem_of_getElem? e1) v H3 s2 r1 s H0 C cl fp) fun t H5 ⟨t1, t2⟩ => ⟨fun ht => ?_, fun ht => ?_⟩
    · intro s H0 C cl fp
      refine (t1 ht s H0 C cl fp).imp fun y H6 ⟨s6, d6, e6, r6⟩ => ⟨s6, d6, by simp [e1, e6], r6⟩
    · obtain ⟨t3, t4⟩ := t2 ht
      exact ⟨t3, by simp [e1, t4]⟩
  · intro p H2 ys s2 hp hp2 r
    rw [hlen, bits_ty] at r
    exact hq p H2 ys s2 hp hp2 r
/-! zip, enumerate -/
theorem qi_z {elts : List Expr} {kk : Nat} {tpos : Pos} {R : It → Hp → Prop} (hm : X.mg "zip" = none) (hg : Gl X "zip") (hs : starEach [a, b] X.env = (false, eval a X.env) :: starEach [b] X.env) (hs2 : starEach [b] X.env = [(false, eval b X.env)]) (hpl : (backTo pos (starEach [b] X.env)).any (·.1) = false)
    (q : QE X a σ H fun v H1 => QE X b σ H1 fun w H2 => ∃ b1 b2 a1 a2 xs ys, v = .ref a1 ∧ w = .ref a2 ∧ SqB X.K b1 H2 a1 xs ∧ SqB X.K b2 H2 a2 ys ∧ R (ItZ X.K b1 b2 a1 a2 xs ys) H2) : QI X (.Tuple elts kk tpos) (.Call (.Name "zip" rp) [a, b] [] pos) σ H R :=
  qi_of (pi_z hg hm pa_sem hs hpl) (wa_cons hs (q.imp fun v H1 q1 => wa_cons hs2 (QE.imp q1 fun w H2 ⟨b1, b2, a1, a2, xs, ys, e1, e2, h1, h2, r⟩ => wa_nil ⟨b1, b2, a1, a2, xs, ys, by rw [e1, e2], h1, h2, r⟩)))
theorem qi_en {elts : List Expr} {kk : Nat} {tpos : Pos} {R : It → Hp → Prop} (hm : X.mg "enumerate" = none) (hg : Gl X "enumerate") (hs : starEach [a] X.env = [(false, eval a X.env)])
    (q : QE X a σ H fun v H1 => ∃ b1 a1 xs, v = .ref a1 ∧ SqB X.K b1 H1 a1 xs ∧ R (ItE X.K b1 a1 xs) H1) : QI X (.Tuple elts kk tpos) (.Call (.Name "enumerate" rp) [a] [] pos) σ H R :=
  qi_of (pi_en hg hm pa_sem hs) (wa_cons hs (q.imp fun v H1 ⟨b1, a1, xs, e1, h1, r⟩ => wa_nil ⟨b1, a1, xs, by rw [e1], h1, r⟩))
end
section
variable {X : Cx} {elt c : Expr} {scope : Scope} {N : List Str} {σ σ1 σw : Sl} {S1 S : V → Sl} {σi : V → Sl} {S2 : V → V → Sl} {H : Hp} {Q : VK} {x y : Str} {i j kk : Nat} {px py pos rp tpos : Pos} {a b : Expr}
/-- two names, and a pair for them -/
structure Two (X : Cx) (scope : Scope) (N : List Str) (σ σ1 σw : Sl) (S1 S : V → Sl) (σi : V → Sl) (S2 : V → V → Sl) (x y : Str) (i j : Nat) : Prop where
  h1 : Tgt N σ y σ1 S1 j
  h : Tgt N σ1 x σw S i
  h2 : ∀ v, Tgt N (S v) y (σi v) (S2 v) j
  hij : i ≠ j
  hN : X.N = N
  nd : X.N.Nodup
  hc : X.calm = true
  hl : ∀ s H0 C cl fp, Loc (X.blk s H0 scope (compEnvC scope cl C X.env) fp).env.scope x
  hf : ∀ s H0 C cl fp, (X.blk s H0 scope (compEnvC scope cl C X.env) fp).fn x = true ∨ (X.blk s H0 scope (compEnvC scope cl C X.env) fp).env.scope.names.lookup x = some .local
  hl1 : ∀ s H0 C cl fp, Loc (X.blk s H0 scope (compEnvC scope cl C X.env) fp).env.scope y
  hf1 : ∀ s H0 C cl fp, (X.blk s H0 scope (compEnvC scope cl C X.env) fp).fn y = true ∨ (X.blk s H0 scope (compEnvC scope cl C X.env) fp).env.scope.names.lookup y = some .local
theorem Two.w (T : Two X scope N σ σ1 σw S1 S σi S2 x y i j) : wipe σ [i, j] = σw := by
  show (σ.set j none).set i none = σw
  rw [T.h1.w, T.h.w]
theorem Two.e3 (T : Two X scope N σ σ1 σw S1 S σi S2 x y i j) (v : V) : (S v).set j none = S v := by
  have e1 : σ1.set j none = σ1 := by rw [← T.h1.w, List.set_set]
  have e2 : σw.set j none = σw := by rw [← T.h.w, List.set_comm _ _ T.hij, e1]
  rw [← T.h.p, List.set_comm _ _ T.hij, e2]
theorem bg_two (T : Two X scope N σ σ1 σw S1 S σi S2 x y i j) {R : Sl → Hp → Prop} {p : Addr} {u w : V} (hp : H p = some (.tup [u, w])) (q : R (S2 u w) H) :
    BG X scope (.Tuple [.Name x px, .Name y py] kk tpos) (.ref p) σw H fun σ2 H2 => wipe σ2 [i, j] = σw ∧ R σ2 H2 := by
  intro s H0 C cl fp
  refine wg_tup T.hc (.inl (.inl hp)) rfl rfl ?_
  refine wgs_cons rfl (wg_of (pg_name (i := i) T.nd (by show X.N[i]? = some x; rw [T.hN]; exact T.h.n) (T.hl s H0 C cl fp) (T.hf s H0 C cl fp)) ?_)
  show QGs _ _ _ (σw.set i (some u)) _ _
  rw [T.h.p]
  refine wgs_cons rfl (wg_of (pg_name (i := j) T.nd (by show X.N[j]? = some y; rw [T.hN]; exact T.h1.n) (T.hl1 s H0 C cl fp) (T.hf1 s H0 C cl fp)) ?_)
  show QGs _ _ _ ((S u).set j (some w)) _ _
  rw [(T.h2 u).q]
  refine wgs_nil ⟨?_, q⟩
  show ((S2 u w).set j none).set i none = σw
  rw [(T.h2 u).b, ← (T.h2 u).w, T.e3, T.h.b]
/-- [elt for x, y in zip(a, b)] -/
theorem ql_zip (T : Two X scope N σ σ1 σw S1 S σi S2 x y i j) (hm : X.mg "zip" = none) (hg : Gl X "zip") (hs : starEach [a, b] X.env = (false, eval a X.env) :: starEach [b] X.env) (hs2 : starEach [b] X.env = [(false, eval b X.env)]) (hpl : (backTo pos (starEach [b] X.env)).any (·.1) = false)
    (q : QE X a σ H fun v H1 => QE X b σ H1 fun w H2 => ∃ (α β : Type) (b1 b2 : Bool) (xs : List α) (ys : List β) (g1 : α → D) (g2 : β → D) (f : α → β → D), RpB X.K b1 H2 v (xs.map g1) ∧ RpB X.K b2 H2 w (ys.map g2) ∧ xs.length < sizeLine ∧ (∀ a ∈ xs, ∀ b ∈ ys, (f a b).im = true) ∧
      (∀ a ∈ xs, ∀ b ∈ ys, ∀ u1 u2 H3, Same H2 H3 → Rp X.K H3 u1 (g1 a) → Rp X.K H3 u2 (g2 b) → BE X scope elt (S2 u1 u2) H3 fun y H4 => Same H3 H4 ∧ Rp X.K H4 y (f a b)) ∧
      ∀ p H3 zs, Same H2 H3 → H2 p = none → H3 p = some (.lst zs) → RpAll X.K H3 zs (List.zipWith f xs ys) → Q (.ref p) H3) :
    QL X elt (.Tuple [.Name x px, .Name y py] kk tpos) (.Call (.Name "zip" rp) [a, b] [] pos) [] scope [i, j] σ H Q := by
  refine ql_lc (σw := σw) T.w (qi_z hm hg hs hs2 hpl (q.imp fun v H1 q1 => QE.imp q1 fun w H2 ⟨α, β, b1, b2, xs, ys, g1, g2, f, r1, r2, hz, him, hb, hq⟩ => ?_))
  obtain ⟨a1, vs, rfl, h1, h2⟩ := r1.inv
  obtain ⟨a2, ws, rfl, h3, h4⟩ := r2.inv
  have l1 : vs.length = xs.length := by rw [h2.len, List.length_map]
  have l2 : ws.length = ys.length := by rw [h4.len, List.length_map]
  refine ⟨b1, b2, a1, a2, vs, ws, rfl, rfl, h1, h3, _, _, _, walk_z, by omega, fun H' s => ⟨h1.to s, h3.to s⟩, fun k => ((List.zipWith f xs ys)[k]?).bind some, ?_, ?_, ?_⟩
  · intro k d e
    dsimp only at e
    cases w : (List.zipWith f xs ys)[k]? with
    | none => rw [w] at e; cases e
    | some z =>
      rw [w] at e
      cases e
      rw [List.getElem?_zipWith] at w
      cases w1 : xs[k]? with
      | none => rw [w1] at w; cases w
      | some a =>
        cases w2 : ys[k]? with
        | none => rw [w1, w2] at w; cases w
        | some b => rw [w1, w2] at w; cases w; exact him a (List.mem_of_getElem? w1) b (List.mem_of_getElem? w2)
  · rintro k v H3 H4 hk s3 ⟨p, u1, u2, rfl, hp, rfl, e1, e2⟩
    obtain ⟨d1, f1, r1⟩ := (h2.to s3).getA e1
    obtain ⟨d2, f2, r2⟩ := (h4.to s3).getA e2
    have s4 := same_new (o := .tup [u1, u2]) hp
    refine bg_two T upd_same ?_
    intro s H0 C cl fp
    exact (hb d1 (List.mem_of_getElem? f1) d2 (List.mem_of_getElem? f2) u1 u2 _ (s3.trans s4) (r1.to s4) (r2.to s4) s H0 C cl fp).imp fun y H5 ⟨s5, r5⟩ => ⟨s4.trans s5, _, by simp [List.getElem?_zipWith, f1, f2], r5⟩
  · intro p H3 zs s3 hp hp2 r
    have e := bits_ty (List.zipWith f xs ys) some
    rw [List.length_zipWith, ← l1, ← l2] at e
    rw [e] at r
    have e2 : (List.zipWith f xs ys).filterMap some = List.zipWith f xs ys := by simp
    rw [e2] at r
    exact hq p H3 zs s3 hp hp2 r
/-- [elt for x, y in enumerate(a) if c] -/
theorem ql_enT (T : Two X scope N σ σ1 σw S1 S σi S2 x y i j) (hm : X.mg "enumerate" = none) (hg : Gl X "enumerate") (hs : starEach [a] X.env = [(false, eval a X.env)])
    (q : QE X a σ H fun v H1 => ∃ (α : Type) (b1 : Bool) (xs : List α) (g1 : α → D) (f : Nat → α → Option D), RpB X.K b1 H1 v (xs.map g1) ∧ xs.length < sizeLine ∧ (∀ k a d, f k a = some d → d.im = true) ∧
      (∀ (k : Nat) a u H2, xs[k]? = some a → Same H1 H2 → Rp X.K H2 u (g1 a) → BT X scope c (S2 (.int k) u) H2 fun t H3 => (t = true → BE X scope elt (S2 (.int k) u) H3 fun y H4 => Same H2 H4 ∧ ∃ d, f k a = some d ∧ Rp X.K H4 y d) ∧ (t = false → Same H2 H3 ∧ f k a = none)) ∧
      ∀ p H3 zs, Same H1 H3 → H1 p = none → H3 p = some (.lst zs) → RpAll X.K H3 zs (bits xs.length fun k => (xs[k]?).bind (f k)) → Q (.ref p) H3) :
    QL X elt (.Tuple [.Name x px, .Name y py] kk tpos) (.Call (.Name "enumerate" rp) [a] [] pos) [c] scope [i, j] σ H Q := by
  refine ql_lcT (σw := σw) T.w (qi_en hm hg hs (q.imp fun v H1 ⟨α, b1, xs, g1, f, r1, hz, him, hb, hq⟩ => ?_))
  obtain ⟨a1, vs, rfl, h1, h2⟩ := r1.inv
  have l1 : vs.length = xs.length := by rw [h2.len, List.length_map]
  refine ⟨b1, a1, vs, rfl, h1, _, _, _, walk_e, by omega, fun H' s => h1.to s, fun k => (xs[k]?).bind (f k), ?_, ?_, ?_⟩
  · intro k d e
    dsimp only at e
    cases w : xs[k]? with
    | none => rw [w] at e; cases e
    | some z => rw [w] at e; exact him k z d e
  · rintro k v H3 H4 hk s3 ⟨p, u1, u2, rfl, hp, rfl, e1, e2⟩
    cases e1
    obtain ⟨d2, f2, r2⟩ := (h2.to s3).getA e2
    have s4 := same_new (o := .tup [.int (k : Nat), u2]) hp
    refine bg_two T upd_same ?_
    intro s H0 C cl fp
    refine QT.imp (hb k d2 u2 _ f2 (s3.trans s4) (r2.to s4) s H0 C cl fp) fun t H5 ⟨t1, t2⟩ => ⟨fun ht => ?_, fun ht => ?_⟩
    · intro s H0 C cl fp
      exact (t1 ht s H0 C cl fp).imp fun y H6 ⟨s6, d6, e6, r6⟩ => ⟨s4.trans s6, d6, by simp [f2, e6], r6⟩
    · obtain ⟨t3, t4⟩ := t2 ht
      exact ⟨s4.trans t3, by simp [f2, t4]⟩
  · intro p H3 zs s3 hp hp2 r
    rw [l1] at r
    exact hq p H3 zs s3 hp hp2 r
/-- for x, y in zip(a, b) -/
theorem ws_forz {fpos : Pos} {tg : List Expr} {body : List Stmt} {E : Ends} (hp : PassesOwn (model X.prog X.w) X.A X.env X.xe) (hc : X.calm = true) (hfs : ∀ x, foldedSetIterable (.Call (.Name "zip" rp) [a, b] [] pos) X.env x = pure x) (hm : X.mg "zip" = none) (hg : Gl X "zip") (hs : starEach [a, b] X.env = (false, eval a X.env) :: starEach [b] X.env) (hs2 : starEach [b] X.env = [(false, eval b X.env)]) (hpl : (backTo pos (starEach [b] X.env)).any (·.1) = false)
    (q : QE X a σ H fun v H1 => QE X b σ H1 fun w H2 => ∃ (b1 b2 : Bool) (ds1 ds2 : List D), RpB X.K b1 H2 v ds1 ∧ RpB X.K b2 H2 w ds2 ∧ ∃ Pv : Nat → Sl → Hp → Prop, Pv 0 σ H2 ∧ (∀ k σ' H', Pv k σ' H' → Same H2 H') ∧
      (∀ k d1 d2 u1 u2 p σ3 H3 H4, ds1[k]? = some d1 → ds2[k]? = some d2 → Pv k σ3 H3 → Same H3 H4 → H4 p = some (.tup [u1, u2]) → Rp X.K H4 u1 d1 → Rp X.K H4 u2 d2 → QG X (.Tuple tg kk tpos) (.ref p) σ3 H4 fun σ5 H5 => QB X body { E with nx := Pv (k + 1), ct := Pv (k + 1), bk := E.nx } σ5 H5) ∧
      ∀ σ3 H3, Pv (min ds1.length ds2.length) σ3 H3 → E.nx σ3 H3) : QS X (.For (.Tuple tg kk tpos) (.Call (.Name "zip" rp) [a, b] [] pos) body [] fpos) E σ H := by
  refine qs_for hp hc hfs (qi_z hm hg hs hs2 hpl (q.imp fun v H1 q1 => QE.imp q1 fun w H2 ⟨b1, b2, ds1, ds2, r1, r2, Pv, h0, hS, hb, hd⟩ => ?_))
  obtain ⟨a1, vs, rfl, h1, h2⟩ := r1.inv
  obtain ⟨a2, ws, rfl, h3, h4⟩ := r2.inv
  refine ⟨b1, b2, a1, a2, vs, ws, rfl, rfl, h1, h3, _, _, _, walk_z, Pv, h0, fun k σ3 H3 _ hv => ⟨h1.to (hS k σ3 H3 hv), h3.to (hS k σ3 H3 hv)⟩, ?_, by rw [h2.len, h4.len]; exact hd⟩
  rintro k v σ3 H3 H4 hk hv ⟨p, u1, u2, rfl, hp, rfl, e1, e2⟩
  have s3 := hS k σ3 H3 hv
  obtain ⟨d1, f1, r1⟩ := (h2.to s3).get e1
  obtain ⟨d2, f2, r2⟩ := (h4.to s3).get e2
  have s4 := same_new (o := .tup [u1, u2]) hp
  exact hb k d1 d2 u1 u2 p σ3 H3 _ f1 f2 hv s4 upd_same (r1.to s4) (r2.to s4)
end
/-! over range(n), told by a number; places of rows and tables -/
section
variable {X : Cx} {elt c : Expr} {scope : Scope} {N : List Str} {σ σw : Sl} {S : V → Sl} {H : Hp} {Q : VK} {x : Str} {i : Nat} {px pos rp rpos : Pos} {a b : Expr} {v : V}
theorem ql_r1 (hm : X.mg "range" = none) (hg : Gl X "range") (h : Tgt N σ x σw S i) (hN : X.N = N) (nd : X.N.Nodup)
    (hl : ∀ s H0 C cl fp, Loc (X.blk s H0 scope (compEnvC scope cl C X.env) fp).env.scope x) (hf : ∀ s H0 C cl fp, (X.blk s H0 scope (compEnvC scope cl C X.env) fp).fn x = true ∨ (X.blk s H0 scope (compEnvC scope cl C X.env) fp).env.scope.names.lookup x = some .local)
    (hs1 : starEach [a] X.env = [(false, eval a X.env)])
    (q : QE X a σ H fun v H1 => ∃ n : Nat, v = .int n ∧ n ≤ 1000 ∧ ∃ f : Nat → D, (∀ k, k < n → (f k).im = true) ∧ (∀ k H2, k < n → Same H1 H2 → BE X scope elt (S (.int (k : Nat))) H2 fun y H3 => Same H2 H3 ∧ Rp X.K H3 y (f k)) ∧
      ∀ p H2 ys, Same H1 H2 → H1 p = none → H2 p = some (.lst ys) → RpAll X.K H2 ys ((List.range n).map f) → Q (.ref p) H2) : QL X elt (.Name x px) (.Call (.Name "range" rp) [a] [] rpos) [] scope [i] σ H Q := by
  refine ql_lcr1 hm hg h hN nd hl hf hs1 (q.imp fun v H1 ⟨n, e, hn, f, him, hb, hq⟩ => ⟨n, e, ?_, fun z => f z.toNat, ⟨fun k hk => ?_, fun k H2 hk s2 => ?_⟩, fun p H2 ys s2 hp hp2 r => hq p H2 ys s2 hp hp2 ?_⟩)
  · have := sizeLine_eq
    omega
  · rw [Int.zero_add]
    dsimp only
    rw [Int.toNat_natCast]
    exact him k (by omega)
  · rw [Int.zero_add]
    dsimp only
    rw [Int.toNat_natCast]
    exact hb k H2 (by omega) s2
  · simpa using r
theorem ql_r1T (hm : X.mg "range" = none) (hg : Gl X "range") (h : Tgt N σ x σw S i) (hN : X.N = N) (nd : X.N.Nodup)
    (hl : ∀ s H0 C cl fp, Loc (X.blk s H0 scope (compEnvC scope cl C X.env) fp).env.scope x) (hf : ∀ s H0 C cl fp, (X.blk s H0 scope (compEnvC scope cl C X.env) fp).fn x = true ∨ (X.blk s H0 scope (compEnvC scope cl C X.env) fp).env.scope.names.lookup x = some .local)
    (hs1 : starEach [a] X.env = [(false, eval a X.env)])
    (q : QE X a σ H fun v H1 => ∃ n : Nat, v = .int n ∧ n ≤ 1000 ∧ ∃ f : Nat → Option D, (∀ k, k < n → ∀ d, f k = some d → d.im = true) ∧
      (∀ k H2, k < n → Same H1 H2 → BT X scope c (S (.int (k : Nat))) H2 fun t H3 => (t = true → BE X scope elt (S (.int (k : Nat))) H3 fun y H4 => Same H2 H4 ∧ ∃ d, f k = some d ∧ Rp X.K H4 y d) ∧ (t = false → Same H2 H3 ∧ f k = none)) ∧
      ∀ p H2 ys, Same H1 H2 → H1 p = none → H2 p = some (.lst ys) → RpAll X.K H2 ys ((List.range n).filterMap f) → Q (.ref p) H2) : QL X elt (.Name x px) (.Call (.Name "range" rp) [a] [] rpos) [c] scope [i] σ H Q := by
  refine rg_auxT h hN nd hl hf (qi_range1 hm hg hs1 (q.imp fun v H1 ⟨n, e, hn, f, him, hb, hq⟩ => ⟨n, e, ?_, 0, _, rfl, ?_, fun z => f z.toNat, ⟨fun k hk => ?_, fun k H2 hk s2 => ?_⟩, fun p H2 ys s2 hp hp2 r => hq p H2 ys s2 hp hp2 ?_⟩))
  · omega
  · have := sizeLine_eq
    omega
  · rw [Int.zero_add]
    dsimp only
    rw [Int.toNat_natCast]
    exact him k (by omega)
  · rw [Int.zero_add]
    dsimp only
    rw [Int.toNat_natCast]
    exact hb k H2 (by omega) s2
  · simpa using r
theorem ixw_mt {α : Type} {xs : List α} {g : α → D} {k : Int} {d0 : α} (h : Rp X.K H v (.tup (xs.map g))) (h0 : 0 ≤ k) (hk : k.toNat < xs.length) (q : ∀ w, Rp X.K H w (g (xs.getD k.toNat d0)) → Q w H) : IxW X v (.int k) H Q := by
  obtain ⟨n, rfl⟩ := Int.eq_ofNat_of_zero_le h0
  rw [Int.toNat_natCast] at hk q
  refine ixw_tup h (d := g (xs.getD n d0)) ?_ q
  rw [atI_map, atI_nat hk]
  simp [hk]
theorem ixw_ml {α : Type} {xs : List α} {g : α → D} {k : Int} {d0 : α} (h : Rp X.K H v (.lst (xs.map g))) (h0 : 0 ≤ k) (hk : k.toNat < xs.length) (q : ∀ w, Rp X.K H w (g (xs.getD k.toNat d0)) → Q w H) : IxW X v (.int k) H Q := by
  obtain ⟨n, rfl⟩ := Int.eq_ofNat_of_zero_le h0
  rw [Int.toNat_natCast] at hk q
  refine ixw_lst h (d := g (xs.getD n d0)) ?_ q
  rw [atI_map, atI_nat hk]
  simp [hk]
theorem ixw_row {r : List Int} {k : Int} (h : Rp X.K H v (.tup (r.map .int))) (h0 : 0 ≤ k) (hk : k.toNat < r.length) (q : Q (.int (r.getD k.toNat 0)) H) : IxW X v (.int k) H Q :=
  ixw_mt (d0 := 0) h h0 hk fun w rw' => by rw [rw'.int_inv]; exact q
theorem ixw_rowL {r : List Int} {k : Int} (h : Rp X.K H v (.lst (r.map .int))) (h0 : 0 ≤ k) (hk : k.toNat < r.length) (q : Q (.int (r.getD k.toNat 0)) H) : IxW X v (.int k) H Q :=
  ixw_ml (d0 := 0) h h0 hk fun w rw' => by rw [rw'.int_inv]; exact q
end
end Sx

/-! Sn: != of tuples whose things have an own ==, all alike. -/
namespace Sx
open PySem PySem.SeqAt
open AutoSeq1 (wpAny_loadPart')
open MeetsSeq MeetsSeq2 MeetsSeq3 SeqRoads2
section
variable {prog : Program} {w : World} {A : Around} {R : Result → Shared → Prop}
theorem tne_run (p q : Addr) (us vs : Array Value) (n n2 : Nat) (dp dq : Option Addr) (sp sq : Array (Option Value)) (hz : us.size = vs.size) (J : Nat → Shared → Prop)
    (step : ∀ k (k1 : k < us.size) (k2 : k < vs.size) s, J k s → wpAny (model prog w) A.in1 (eqBool us[k] vs[k]) (fun r s' => r = true ∧ J (k + 1) s') (fun e s' => R (.error e) s') s)
    (last : ∀ s, J us.size s → R (.ok (.ret (.bool false))) s) {s : Shared} (ep : s.heap.get? p = some { cls := .type "tuple", dict := dp, data := .seq us n, slots := sp }) (eq : s.heap.get? q = some { cls := .type "tuple", dict := dq, data := .seq vs n2, slots := sq }) (j0 : J 0 s) :
    wpAny (model prog w) A.in1 (Builtin.«tuple.__ne__» ⟨[.ref p, .ref q], []⟩) (GQ.FinOf prog w A R) (fun e s' => R (.error e) s') s := by
  have sub := AutoSeq1.sub_tuple_tuple
  have zl : (us.toList.zip vs.toList).length = us.size := by simp [hz]
  have j1 := j0
  obtain ⟨hp, g, d, tk, os⟩ := s
  wp_walk using wpAny_loadPart' ep, wpAny_loadPart' eq, wpAny_forIn_list _ (fun more r s' => r.1 = none ∧ ∃ k, more = (us.toList.zip vs.toList).drop k ∧ k ≤ us.size ∧ J k s') _
  case turn =>
    rintro ⟨u, v⟩ more r s' ⟨hr, k, hm, hk, hJ⟩
    have lt : k < (us.toList.zip vs.toList).length := Nat.lt_of_not_le fun ge => by
      rw [List.drop_of_length_le ge] at hm
      cases hm
    have k1 : k < us.size := zl ▸ lt
    have k2 : k < vs.size := hz ▸ k1
    rw [List.drop_eq_getElem_cons lt] at hm
    injection hm with huv hmore
    obtain rfl : u = us[k] := by simpa using congrArg Prod.fst huv
    obtain rfl : v = vs[k] := by simpa using congrArg Prod.snd huv
    refine wpAny_bind (wpAny_mono (step k k1 k2 s' hJ) (fun t s2 ht => ?_) fun _ _ x => x)
    obtain ⟨rfl, hJ2⟩ := ht
    wp_walk
    exact ⟨rfl, k + 1, hmore, k1, hJ2⟩
  case fin =>
    rintro ⟨r1, r2⟩ s' ⟨hr, k, hm, hk, hJ⟩
    simp only at hr
    subst hr
    have ge : us.size ≤ k := Nat.le_of_not_lt fun lt => by
      have lt' : k < (us.toList.zip vs.toList).length := by rw [zl]; exact lt
      rw [List.drop_eq_getElem_cons lt'] at hm
      cases hm
    obtain rfl : k = us.size := Nat.le_antisymm hk ge
    have hR := last s' hJ
    wp_walk
    simpa [Builtin.Tuple.tupleCompareSizes, hz] using hR
  case h => exact ⟨rfl, 0, rfl, Nat.zero_le _, j1⟩
theorem tne_rc {E : Value → Shared → Prop} {s : Shared} {p q : Addr} {us vs : Array Value} {Q : Value → Shared → Prop} (hz : us.size = vs.size) (hu : A.units < cLine) (J : Nat → Shared → Prop) (tp : s.heap.IsTuple p us) (tq : s.heap.IsTuple q vs)
    (step : ∀ k (k1 : k < us.size) (k2 : k < vs.size) s, J k s → wpAny (model prog w) A.in1 (eqBool us[k] vs[k]) (fun r s' => r = true ∧ J (k + 1) s') E s)
    (last : ∀ s, J us.size s → Q (.bool false) s) (j0 : J 0 s) : wpAny (model prog w) A (richCompare .NotEq (.ref p) (.ref q)) Q E s := by
  obtain ⟨⟨c1, d1, t1, l1⟩, e1, f1, n1, g1⟩ := tp
  obtain ⟨⟨c2, d2, t2, l2⟩, e2, f2, n2, g2⟩ := tq
  cases f1
  cases g1
  cases f2
  cases g2
  refine wpAny_richCompare_same_room (op := .NotEq) ⟨_, e1, rfl⟩ ⟨_, e2, rfl⟩ F.slot_tuple_ne (GQ.call_here F.slot_tuple_ne ⟨_, e1, rfl⟩ F.entry_tuple_ne (F.args_tuple_ne_2 _ _) ?_) hu
  exact tne_run (R := wants (fun v s' => v ≠ .notImplemented ∧ Q v s') E) p q us vs n1 n2 d1 d2 l1 l2 hz J step (fun s' h => ⟨(fun x => nomatch x), last s' h⟩) e1 e2 j0
end
end Sx
namespace Sx
open PySem PySem.Spec PyProof.Rows L2
section
variable {X : Cx} {n : Nat} {D : Eqv} {H : Hp} {Q : VK} {x y : V}
theorem opw_neTup (hD : Mon D) (h : EqG X n D) (hr : Room (n + 1) X.A) (d : DTup X.K D x y H) (q : ∀ H', Same H H' → Q (.bl false) H') : OpW X (compareOp .NotEq) x y H Q := by
  intro pins s σ u v I rx ry
  obtain ⟨a, b, xs, ys, rfl, rfl, ha, hb, p⟩ := d
  cases rx
  cases ry
  obtain ⟨us, r, e, z⟩ := I.tuple ha
  obtain ⟨vs, r2, e2, z2⟩ := I.tuple hb
  have hz : us.toArray.size = vs.toArray.size := by rw [List.size_toArray, List.size_toArray, ← r.length, ← r2.length]; exact p.1
  show wpAny (model X.prog X.w) X.A (richCompare .NotEq (.ref a) (.ref b)) (EP X pins σ Q) X.xe s
  have sb : Sub X (n + 1) X.A := ⟨hr, rfl⟩
  exact tne_rc hz sb.room.units0 (fun _ s' => LoopI X pins σ H s') e e2 (fun i h1 h2 s' l => turnG hD h sb p r r2 i h1 h2 s' l) (fun s' ⟨H', I', e'⟩ => ⟨.bl false, H', I', rfl, q H' e'⟩) ⟨H, I, Ext.rfl'⟩
end
/-! a list taken apart; a number in a tuple of numbers; tuples and lists repeated; slices -/
section
variable {X : Cx} {σ : Sl} {H : Hp} {Q : VK} {x y v : V} {pos p : Pos} {e lo hi : Expr}
theorem wg_lst {es : List Expr} {k : Nat} {a : Addr} {xs : List V} {Q : Sl → Hp → Prop} (hc : X.calm = true) (ht : SqL X.K H a xs) (hl : xs.length = (assignEach es X.env).length) (hst : (assignEach es X.env).findIdx? (·.1) = none) (q : QGs X es xs σ H Q) : QG X (.Tuple es k pos) (.ref a) σ H Q :=
  wg_of (pg_lst hc pgs_sem rfl hst) ⟨a, xs, rfl, ht, hl, q⟩
theorem inV_ints (i : Int) (ns : List Int) : inV (.int i) (ns.map .int) = decide (i ∈ ns) := by
  unfold inV
  rw [List.any_map]
  show ns.any (fun z => z == i) = _
  rw [Bool.eq_iff_iff, List.any_eq_true, decide_eq_true_iff]
  constructor
  · rintro ⟨z, hz, e⟩
    rw [← eq_of_beq e]
    exact hz
  · exact fun h => ⟨i, h, beq_self_eq_true i⟩
theorem opw_inI {a : Addr} {i : Int} {ns : List Int} (h : H a = some (.tup (ns.map .int))) (q : Q (.bl (decide (i ∈ ns))) H) : OpW X (compareOp .In) (.int i) (.ref a) H Q :=
  opw_of op_in_seq ⟨a, _, rfl, .inr (.inl (.inl h)), rfl, by simp [flatV], by rw [if_neg (by decide), inV_ints]; exact q⟩
theorem opw_ninI {a : Addr} {i : Int} {ns : List Int} (h : H a = some (.tup (ns.map .int))) (q : Q (.bl (!decide (i ∈ ns))) H) : OpW X (compareOp .NotIn) (.int i) (.ref a) H Q :=
  opw_of op_notIn_seq ⟨a, _, rfl, .inr (.inl (.inl h)), rfl, by simp [flatV], by rw [if_pos rfl, inV_ints]; exact q⟩
end
section
variable {K : PySem.W.Frag} {H : Hp}
theorem cut_hi {xs : List V} {k : Nat} (h : k ≤ xs.length) : cutV xs none (some (k : Int)) = xs.take k := by
  unfold cutV
  rw [HT.sIx_none, HT.sIx_nat, Nat.min_eq_left h]
  simp
theorem cut_lo {xs : List V} {k : Nat} (h : k ≤ xs.length) : cutV xs (some (k : Int)) none = xs.drop k := by
  unfold cutV
  rw [HT.sIx_none, HT.sIx_nat, Nat.min_eq_left h]
  rw [List.take_of_length_le (by rw [List.length_drop]; omega)]
theorem RpAll.takeK : ∀ {k : Nat} {xs : List V} {ds : List D}, RpAll K H xs ds → RpAll K H (xs.take k) (ds.take k)
  | 0, _, _, _ => .nil
  | _ + 1, _, _, .nil => .nil
  | k + 1, _, _, .cons a r => .cons a (RpAll.takeK (k := k) r)
theorem RpAll.dropK : ∀ {k : Nat} {xs : List V} {ds : List D}, RpAll K H xs ds → RpAll K H (xs.drop k) (ds.drop k)
  | 0, _, _, r => r
  | _ + 1, _, _, .nil => .nil
  | k + 1, _, _, .cons _ r => RpAll.dropK (k := k) r
end
section
variable {X : Cx} {σ : Sl} {H : Hp} {Q : VK} {pos p2 : Pos} {e lo hi : Expr}
theorem we_slHiT (q : QE X e σ H fun x H1 => QE X hi σ H1 fun u H2 => ∃ (ds : List D) (k : Nat), u = .int k ∧ k < ds.length ∧ Rp X.K H2 x (.tup ds) ∧ ∀ v H3, Same H2 H3 → Rp X.K H3 v (.tup (ds.take k)) → Q v H3) : QE X (.Subscript e (.Slice none (some hi) none p2) pos) σ H Q := by
  refine we_of (pe_slice sl_tup pe_sem po_none (po_some pe_sem)) ?_
  intro pins s I
  refine thn (q pins s I) fun u s1 ⟨x, H1, I1, r1, q1⟩ => ⟨x, H1, I1, r1, ?_⟩
  show QE X hi σ H1 _
  refine QE.imp q1 fun u H2 ⟨ds, k, e1, hk, r, z⟩ => ?_
  obtain ⟨a, xs, rfl, h1, h2⟩ := r.tup_inv
  have hk' : k < xs.length := by rw [h2.len]; exact hk
  refine ⟨k, e1, a, xs, rfl, h1, fun hw => ?_, fun p hp => z (.ref p) _ (same_new hp) ?_⟩
  · have := hw.2
    rw [HT.sIx_nat, Nat.min_eq_left (Nat.le_of_lt hk')] at this
    omega
  · rw [cut_hi (Nat.le_of_lt hk')]
    exact .tupOf upd_same (RpAll.takeK (h2.to (same_new hp)))
theorem we_slLoT (q : QE X e σ H fun x H1 => QE X lo σ H1 fun u H2 => ∃ (ds : List D) (k : Nat), u = .int k ∧ (1 ≤ k ∧ k ≤ ds.length) ∧ Rp X.K H2 x (.tup ds) ∧ ∀ v H3, Same H2 H3 → Rp X.K H3 v (.tup (ds.drop k)) → Q v H3) : QE X (.Subscript e (.Slice (some lo) none none p2) pos) σ H Q := by
  refine we_of (pe_slice sl_tup pe_sem (po_some pe_sem) po_none) ?_
  intro pins s I
  refine thn (q pins s I) fun u s1 ⟨x, H1, I1, r1, q1⟩ => ⟨x, H1, I1, r1, ?_⟩
  show QE X lo σ H1 _
  refine QE.imp q1 fun u H2 ⟨ds, k, e1, hk, r, z⟩ => ?_
  obtain ⟨a, xs, rfl, h1, h2⟩ := r.tup_inv
  have hk' : k ≤ xs.length := by rw [h2.len]; exact hk.2
  refine ⟨k, e1, a, xs, rfl, h1, fun hw => ?_, fun p hp => z (.ref p) _ (same_new hp) ?_⟩
  · have := hw.1
    rw [HT.sIx_nat, Nat.min_eq_left hk'] at this
    omega
  · rw [cut_lo hk']
    exact .tupOf upd_same (RpAll.dropK (h2.to (same_new hp)))
theorem we_slHiL (q : QE X e σ H fun x H1 => QE X hi σ H1 fun u H2 => ∃ (ds : List D) (k : Nat), u = .int k ∧ k ≤ ds.length ∧ Rp X.K H2 x (.lst ds) ∧ ∀ p H3 xs, H2 p = none → Same H2 H3 → H3 p = some (.lst xs) → RpAll X.K H3 xs (ds.take k) → Q (.ref p) H3) : QE X (.Subscript e (.Slice none (some hi) none p2) pos) σ H Q := by
  refine we_of (pe_slice sl_list pe_sem po_none (po_some pe_sem)) ?_
  intro pins s I
  refine thn (q pins s I) fun u s1 ⟨x, H1, I1, r1, q1⟩ => ⟨x, H1, I1, r1, ?_⟩
  show QE X hi σ H1 _
  refine QE.imp q1 fun u H2 ⟨ds, k, e1, hk, r, z⟩ => ?_
  obtain ⟨a, xs, rfl, h1, h2⟩ := r.lst_inv
  have hk' : k ≤ xs.length := by rw [h2.len]; exact hk
  refine ⟨k, e1, a, xs, rfl, h1, fun p hp => z p _ _ hp (same_new hp) upd_same ?_⟩
  rw [cut_hi hk']
  exact RpAll.takeK (h2.to (same_new hp))
theorem we_slLoL (q : QE X e σ H fun x H1 => QE X lo σ H1 fun u H2 => ∃ (ds : List D) (k : Nat), u = .int k ∧ k ≤ ds.length ∧ Rp X.K H2 x (.lst ds) ∧ ∀ p H3 xs, H2 p = none → Same H2 H3 → H3 p = some (.lst xs) → RpAll X.K H3 xs (ds.drop k) → Q (.ref p) H3) : QE X (.Subscript e (.Slice (some lo) none none p2) pos) σ H Q := by
  refine we_of (pe_slice sl_list pe_sem (po_some pe_sem) po_none) ?_
  intro pins s I
  refine thn (q pins s I) fun u s1 ⟨x, H1, I1, r1, q1⟩ => ⟨x, H1, I1, r1, ?_⟩
  show QE X lo σ H1 _
  refine QE.imp q1 fun u H2 ⟨ds, k, e1, hk, r, z⟩ => ?_
  obtain ⟨a, xs, rfl, h1, h2⟩ := r.lst_inv
  have hk' : k ≤ xs.length := by rw [h2.len]; exact hk
  refine ⟨k, e1, a, xs, rfl, h1, fun p hp => z p _ _ hp (same_new hp) upd_same ?_⟩
  rw [cut_lo hk']
  exact RpAll.dropK (h2.to (same_new hp))
end
/-- a number that stands under a global name -/
theorem we_gint {X : Cx} {σ : Sl} {H : Hp} {Q : VK} {x : Str} {pos : Pos} {i : Int} {t : Tok} (hm : X.mg x = some (.int i t)) (hg : Gl X x) (q : Q (.int i) H) (hdb : (x == ("__debug__" : Str)) = false := by decide) : QE X (.Name x pos) σ H Q := we_gval hm hg (v := .int i) ⟨_, rfl⟩ q hdb
section
variable {X : Cx} {σ : Sl} {H : Hp} {Q : VK} {o e : Expr} {apos cpos : Pos}
/-- xs.append(e) -/
theorem we_append (hbase : attributeBase o "append" X.env (eval o X.env) = eval o X.env)
    (hfew : ((backTo cpos (starEach [e] X.env)).all (fun x => !x.1) && (backToKw cpos (keywordEach [] X.env)).all (fun x => x.1.isSome) && decide ([e].length + ([] : List Keyword).length + (if ([] : List Keyword).isEmpty then 0 else 1) < 30)) = true)
    (hline : (apos.endLine == cpos.line) = true) (hs : starEach [e] X.env = (false, eval e X.env) :: starEach [] X.env) (hs0 : starEach [e] X.env = [(false, eval e X.env)]) (hpl : (backTo cpos (starEach [] X.env)).any (·.1) = false)
    (q : QE X o σ H fun x H1 => ∃ l xs1, x = .ref l ∧ H1 l = some (.lst xs1) ∧ QE X e σ H1 fun y H2 => ∃ xs, H2 l = some (.lst xs) ∧ xs.length < sizeLine ∧ Q .non (upd H2 l (.lst (xs ++ [y])))) : QE X (.Call (.Attribute o "append" apos) [e] [] cpos) σ H Q := by
  refine we_of (pe_bm PySem.F.plainAttrs_list PySem.F.slot_list_append PySem.F.type_list_append mt_append pe_sem pa_sem hbase hfew hline hs hpl) ?_
  refine q.imp fun x H1 ⟨l, xs1, e1, h1, q1⟩ => ?_
  subst e1
  refine ⟨?_, wa_cons hs0 (QE.imp q1 fun y H2 ⟨xs, h2, hz, z⟩ => wa_nil ⟨l, xs, y, rfl, rfl, h2, hz, z⟩)⟩
  exact .inl ⟨rfl, xs1, .inl (.inl h1)⟩
end
/-- isinstance(x, (list, tuple)) -/
theorem callw_isiT {X : Cx} {H : Hp} {Q : VK} {v : V} {d : D} {n : String} {b : Bool} {tp : Addr} (h : Rp X.K H v d) (e : d.ty = some n) (ht : H tp = some (.tup [.ty "list", .ty "tuple"])) (k : PySem.W.kitAny X.K (.type n) [.type "list", .type "tuple"] = some b) (q : Q (.bl b) H) : CallW X (.builtin "isinstance") [v, .ref tp] H Q :=
  callw_of call_isiT ⟨v, tp, _, _, _, b, rfl, ht, .cons (.ty _) (.cons (.ty _) .nil), h.tyx e, k, q⟩
theorem kit_lt {K : PySem.W.Frag} : PySem.W.kitAny K (.type "NoneType") [.type "list", .type "tuple"] = some false ∧ PySem.W.kitAny K (.type "int") [.type "list", .type "tuple"] = some false ∧ PySem.W.kitAny K (.type "list") [.type "list", .type "tuple"] = some true ∧ PySem.W.kitAny K (.type "tuple") [.type "list", .type "tuple"] = some true :=
  ⟨by kernel_rfl, by kernel_rfl, by kernel_rfl, by kernel_rfl⟩
end Sx

/-! Sp: loops that fill a list. -/
namespace Sx
open PySem PySem.Spec PyProof.Rows L2
/-- all but the thing at p as it was -/
structure KL (p : Addr) (H H' : Hp) : Prop where
  s : ∀ b o, b ≠ p → H b = some o → H' b = some o
section
variable {K : PySem.W.Frag} {p : Addr} {H H' H2 : Hp}
theorem KL.refl : KL p H H := ⟨fun _ _ _ e => e⟩
theorem KL.same (k : KL p H H') (s : Same H' H2) : KL p H H2 := ⟨fun b o n e => s b o (k.s b o n e)⟩
theorem KL.of (s : Same H H') : KL p H H' := ⟨fun b o _ e => s b o e⟩
theorem KL.trans (k : KL p H H') (k2 : KL p H' H2) : KL p H H2 := ⟨fun b o n e => k2.s b o n (k.s b o n e)⟩
theorem KL.upd {o : HO} : KL p H (upd H p o) := ⟨fun b u n e => by rw [upd_ne n]; exact e⟩
theorem KL.rp {v : V} {d : D} (k : KL p H H') (l : Lst H p) (r : Rp K H v d) (m : d.im = true) : Rp K H' v d := Rp.keep l k.s d v m r
theorem KL.rpA {v : List V} {d : List D} (k : KL p H H') (l : Lst H p) (r : RpAll K H v d) (m : imAll d = true) : RpAll K H' v d := RpAll.keep l k.s d v m r
theorem KL.tup {a : Addr} {xs : List V} (k : KL p H H') (l : Lst H p) (h : SqT K H a xs) : SqT K H' a xs := by
  obtain ⟨zs, hz⟩ := l
  rcases h with (h | ⟨o, h⟩) | h
  · exact .inl (.inl (k.s _ _ (fun e => by rw [e, hz] at h; cases h) h))
  · exact .inl (.inr ⟨o, k.s _ _ (fun e => by rw [e, hz] at h; cases h) h⟩)
  · exact .inr h
end
section
variable {X : Cx} {iter tg : Expr} {body : List Stmt} {E : Ends} {σ : Sl} {H : Hp} {pos : Pos}
theorem ws_forA (hp : PassesOwn (model X.prog X.w) X.A X.env X.xe) (hc : X.calm = true) (hfs : ∀ x, foldedSetIterable iter X.env x = pure x)
    (q : QE X iter σ H fun v H1 => ∃ (ds : List D) (p : Addr), Rp X.K H1 v (.tup ds) ∧ imAll ds = true ∧ Lst H1 p ∧ ∃ Pv : Nat → Sl → Hp → Prop, Pv 0 σ H1 ∧ (∀ k σ H', Pv k σ H' → KL p H1 H') ∧
      (∀ k d w σ1 H2, ds[k]? = some d → Pv k σ1 H2 → Rp X.K H2 w d → Turn X tg body E Pv k w σ1 H2) ∧ (∀ σ1 H2, Pv ds.length σ1 H2 → E.nx σ1 H2)) : QS X (.For tg iter body [] pos) E σ H := by
  refine qs_for hp hc hfs (qi_tup (q.imp fun v H1 ⟨ds, p, r, him, l, Pv, h0, hS, hb, hd⟩ => ?_))
  obtain ⟨a, xs, rfl, h1, h2⟩ := r.tup_inv
  refine ⟨a, rfl, ⟨xs, h1⟩, xs.length, _, _, walk_tup (xs := xs), Pv, h0, fun k σ1 H2 _ z => (hS _ _ _ z).tup l h1, ?_, by rw [h2.len]; exact hd⟩
  rintro k w σ1 H2 H3 hk z ⟨rfl, e⟩
  obtain ⟨d, e1, r1⟩ := ((hS _ _ _ z).rpA l h2 him).get e
  exact hb k d w σ1 H3 e1 z r1
theorem imAll_map {α : Type} {xs : List α} {g : α → D} (h : ∀ a, (g a).im = true) : imAll (xs.map g) = true := by
  rw [imAll_iff]
  intro d hd
  obtain ⟨a, _, rfl⟩ := List.mem_map.mp hd
  exact h a
end
end Sx

/-! Sb: comprehensions that make lists (each new); a tuple or a list told by a Bool. -/
namespace Sx
open PySem PySem.Spec PyProof.Rows L2
section
theorem RpAll.setA {K : PySem.W.Frag} {H : Hp} {v : V} {d : D} : ∀ {xs : List V} {ds : List D} (k : Nat), RpAll K H xs ds → Rp K H v d → RpAll K H (xs.set k v) (ds.set k d)
  | _, _, _, .nil, _ => .nil
  | _, _, 0, .cons _ r, h => .cons h r
  | _, _, k + 1, .cons a r, h => .cons a (RpAll.setA k r h)
end
section
variable {K : PySem.W.Frag} {H0 H H' H1 : Hp} {p : Addr} {as : List Addr} {dss : List (List D)}
/-- lists, each at its own place, none of them at p -/
structure RowsAt (K : PySem.W.Frag) (H0 H : Hp) (p : Addr) (as : List Addr) (dss : List (List D)) : Prop where
  nd : as.Nodup
  np : p ∉ as
  fr : ∀ a ∈ as, H0 a = none
  len : as.length = dss.length
  at_ : ∀ (k : Nat) a, as[k]? = some a → ∃ xs ds, H a = some (.lst xs) ∧ dss[k]? = some ds ∧ RpAll K H xs ds
theorem RowsAt.to (h : RowsAt K H0 H p as dss) (s : Same H H') : RowsAt K H0 H' p as dss :=
  ⟨h.nd, h.np, h.fr, h.len, fun k a e => let ⟨xs, ds, e1, e2, r⟩ := h.at_ k a e; ⟨xs, ds, s _ _ e1, e2, r.to s⟩⟩
theorem RowsAt.keep (h : RowsAt K H0 H p as dss) (hp : Lst H p) (him : ∀ ds ∈ dss, imAll ds = true) (s : ∀ b o, b ≠ p → H b = some o → H' b = some o) : RowsAt K H0 H' p as dss :=
  ⟨h.nd, h.np, h.fr, h.len, fun k a e => let ⟨xs, ds, e1, e2, r⟩ := h.at_ k a e; ⟨xs, ds, s _ _ (fun ea => h.np (ea ▸ List.mem_of_getElem? e)) e1, e2, RpAll.keep hp s _ _ (him ds (List.mem_of_getElem? e2)) r⟩⟩
theorem RowsAt.keepA {a : Addr} (h : RowsAt K H0 H p as dss) (ha : Lst H a) (na : a ∉ as) (him : ∀ ds ∈ dss, imAll ds = true) (s : ∀ b o, b ≠ a → H b = some o → H' b = some o) : RowsAt K H0 H' p as dss :=
  ⟨h.nd, h.np, h.fr, h.len, fun k b e => let ⟨xs, ds, e1, e2, r⟩ := h.at_ k b e; ⟨xs, ds, s _ _ (fun ea => na (ea ▸ List.mem_of_getElem? e)) e1, e2, RpAll.keep ha s _ _ (him ds (List.mem_of_getElem? e2)) r⟩⟩
theorem RowsAt.snoc {a : Addr} {xs : List V} {ds : List D} (h : RowsAt K H0 H p as dss) (hn : a ∉ as) (hp : p ≠ a) (h0 : H0 a = none) (e : H a = some (.lst xs)) (r : RpAll K H xs ds) : RowsAt K H0 H p (as ++ [a]) (dss ++ [ds]) := by
  refine ⟨?_, by simp [h.np, hp], fun b hb => (List.mem_append.mp hb).elim (h.fr b) (fun hb => by rw [List.mem_singleton.mp hb]; exact h0), by simp [h.len], fun k b e1 => ?_⟩
  · rw [List.nodup_append]
    exact ⟨h.nd, by simp, fun x hx y hy => by simp at hy; subst hy; exact fun e => hn (e ▸ hx)⟩
  · by_cases hk : k < as.length
    · rw [List.getElem?_append_left hk] at e1
      obtain ⟨xs, ds, z1, z2, z3⟩ := h.at_ k b e1
      exact ⟨xs, ds, z1, by rw [List.getElem?_append_left (by rw [← h.len]; exact hk)]; exact z2, z3⟩
    · rw [List.getElem?_append_right (by omega)] at e1
      have hk2 : k - as.length = 0 := by
        have := (List.getElem?_eq_some_iff.mp e1).1
        simp at this
        omega
      rw [hk2] at e1
      simp at e1
      subst e1
      exact ⟨xs, ds, e, by rw [List.getElem?_append_right (by rw [← h.len]; omega), ← h.len, hk2]; rfl, r⟩
theorem RowsAt.rp (h : RowsAt K H0 H p as dss) : RpAll K H (as.map V.ref) (dss.map D.lst) := by
  obtain ⟨nd, np, fr, len, at_⟩ := h
  clear nd np fr
  induction as generalizing dss with
  | nil =>
    match dss, len with
    | [], _ => exact .nil
  | cons a as ih =>
    match dss, len with
    | ds :: dss, len =>
      refine .cons ?_ (ih (by simpa using len) fun k b e => ?_)
      · obtain ⟨xs, ds', e1, e2, r⟩ := at_ 0 a rfl
        cases e2
        exact .lstOf e1 r
      · obtain ⟨xs, ds', e1, e2, r⟩ := at_ (k + 1) b (by simpa using e)
        exact ⟨xs, ds', e1, by simpa using e2, r⟩
/-- an item of one of the lists is set -/
theorem RowsAt.set {a : Addr} {xs : List V} {ds : List D} {i k : Nat} {c : Int} (h : RowsAt K H0 H p as dss) (hi : as[i]? = some a) (e : H a = some (.lst xs)) (ed : dss[i]? = some ds) (r : RpAll K H xs ds) (him : ∀ ds ∈ dss, imAll ds = true) : RowsAt K H0 (upd H a (.lst (xs.set k (.int c)))) p as (dss.set i (ds.set k (.int c))) := by
  have hl : Lst H a := ⟨_, e⟩
  have hk : ∀ b o, b ≠ a → H b = some o → (upd H a (.lst (xs.set k (.int c)))) b = some o := fun b o n q => by rw [upd_ne n]; exact q
  have li : i < dss.length := (List.getElem?_eq_some_iff.mp ed).1
  refine ⟨h.nd, h.np, h.fr, by rw [List.length_set]; exact h.len, fun j b ej => ?_⟩
  by_cases hj : j = i
  · subst hj
    rw [hi] at ej
    cases ej
    exact ⟨_, _, upd_same, by rw [List.getElem?_set_self li], (RpAll.keep hl hk _ _ (him ds (List.mem_of_getElem? ed)) r).setA k (.int c)⟩
  · obtain ⟨zs, es, z1, z2, z3⟩ := h.at_ j b ej
    have nb : b ≠ a := by
      rintro rfl
      have l1 := (List.getElem?_eq_some_iff.mp ej)
      have l2 := (List.getElem?_eq_some_iff.mp hi)
      exact hj ((List.getElem_inj h.nd).mp (l1.2.trans l2.2.symm))
    exact ⟨zs, es, hk _ _ nb z1, by rw [List.getElem?_set_ne (Ne.symm hj)]; exact z2, RpAll.keep hl hk _ _ (him es (List.mem_of_getElem? z2)) z3⟩
structure LcN (K : PySem.W.Frag) (H1 : Hp) (Dl : Addr) (F : Nat → List D) (i : Nat) (H : Hp) : Prop where
  s : Same H1 H
  l : ∃ as, H Dl = some (.lst (as.map V.ref)) ∧ RowsAt K H1 H Dl as ((List.range i).map F)
end
section
variable {X : Cx} {tg iter e a b l : Expr} {σ : Sl} {H : Hp} {pos : Pos}
/-- [elt for tg in iter], elt a new list each time -/
theorem ql_lcN {elt : Expr} {scope : Scope} {vs : List Nat} {Q : VK} {σw : Sl} (hw : wipe σ vs = σw)
    (q : QI X tg iter σ H fun J H1 => ∃ (n : Nat) (G : Hp → Prop) (Y : Nat → Hp → V → Hp → Prop), Walk J n G Y ∧ n < sizeLine ∧ (∀ H', Same H1 H' → G H') ∧ ∃ F : Nat → List D, (∀ i, i < n → imAll (F i) = true) ∧
      (∀ i x H2 H3, i < n → Same H1 H2 → Y i H2 x H3 → BG X scope tg x σw H3 fun σ2 H4 => wipe σ2 vs = σw ∧ BE X scope elt σ2 H4 fun y H5 => Same H2 H5 ∧ ∃ a xs, y = .ref a ∧ H2 a = none ∧ H5 a = some (.lst xs) ∧ RpAll X.K H5 xs (F i)) ∧
      (∀ p H2 as, Same H1 H2 → H1 p = none → H2 p = some (.lst (as.map V.ref)) → RowsAt X.K H1 H2 p as ((List.range n).map F) → Q (.ref p) H2)) : QL X elt tg iter [] scope vs σ H Q := by
  show QI X tg iter σ H _
  refine q.imp fun J H1 ⟨n, G, Y, w, hn, hG, F, him, hb, hq⟩ Dl hD => ?_
  refine lc_it w (fun i H => i ≤ n ∧ LcN X.K H1 Dl F i H) ⟨Nat.zero_le _, same_new hD, [], upd_same, ⟨List.nodup_nil, by simp, by simp, rfl, fun k a e => by simp at e⟩⟩ (fun i H _ h => hG H h.2.s) (fun i x H2 H3 hi ⟨hi', h⟩ y => ?_) (fun H2 ⟨_, h⟩ => ?_)
  · rw [hw]
    have hb' := hb i x H2 H3 hi h.s y
    intro s H0 C cl fp pins s1 u I r
    refine thn (hb' s H0 C cl fp pins s1 u I r) fun _ s2 ⟨σ2, H4, I4, e4, b4⟩ => ⟨σ2, H4, I4, e4, ?_⟩
    delta QT1 tYes
    dsimp only
    rw [if_pos rfl]
    intro s H0 C cl fp pins s1 I
    refine thn (b4 s H0 C cl fp pins s1 I) fun u s3 ⟨v, H5, I5, r5, s5, a, xs, ev, ha, e5, rp⟩ => ⟨v, H5, I5, r5, ?_⟩
    subst ev
    obtain ⟨as, h1, h2⟩ := h.l
    have n1 : a ∉ as := fun hm => by
      obtain ⟨k, hk⟩ := List.getElem?_of_mem hm
      obtain ⟨xs, ds, z, _⟩ := h2.at_ k a hk
      rw [ha] at z
      cases z
    have n3 : H1 a = none := by
      cases z : H1 a with
      | none => rfl
      | some o => rw [h.s _ _ z] at ha; cases ha
    have n2 : Dl ≠ a := fun e => by rw [e, ha] at h1; cases h1
    have hl5 : Lst H5 Dl := ⟨_, s5 _ _ h1⟩
    have hk : ∀ b o, b ≠ Dl → H5 b = some o → (upd H5 Dl (.lst (as.map V.ref ++ [V.ref a]))) b = some o := fun b o n q => by rw [upd_ne n]; exact q
    have hlen : as.length = i := by rw [h2.len]; simp
    refine ⟨as.map V.ref, s5 _ _ h1, by rw [List.length_map, hlen]; omega, by omega, fun b o q => ?_, as ++ [a], by rw [upd_same]; simp, ?_⟩
    · rw [upd_ne (ne_of_none q hD)]
      exact s5 _ _ (h.s _ _ q)
    · rw [List.range_succ, List.map_append]
      refine (RowsAt.keep (h2.to s5) hl5 (fun ds hd => ?_) hk).snoc n1 n2 n3 (hk _ _ n2.symm e5) (RpAll.keep hl5 hk _ _ (him i hi) rp)
      obtain ⟨j, hj, rfl⟩ := List.mem_map.mp hd
      exact him j (by have := List.mem_range.mp hj; omega)
  · obtain ⟨as, h1, h2⟩ := h.l
    exact hq Dl H2 as h.s hD h1 h2
end
section
variable {X : Cx} {elt iter c : Expr} {scope : Scope} {N : List Str} {σ σw : Sl} {S : V → Sl} {H : Hp} {Q : VK} {x : Str} {i : Nat} {px pos rp rpos : Pos} {a b : Expr}
theorem ql_seqN (h : Tgt N σ x σw S i) (hN : X.N = N) (nd : X.N.Nodup)
    (hl : ∀ s H0 C cl fp, Loc (X.blk s H0 scope (compEnvC scope cl C X.env) fp).env.scope x) (hf : ∀ s H0 C cl fp, (X.blk s H0 scope (compEnvC scope cl C X.env) fp).fn x = true ∨ (X.blk s H0 scope (compEnvC scope cl C X.env) fp).env.scope.names.lookup x = some .local)
    (q : QI X (.Name x px) iter σ H fun J H1 => ∃ (n : Nat) (G : Hp → Prop) (Y : Nat → Hp → V → Hp → Prop), Walk J n G Y ∧ n < sizeLine ∧ (∀ H', Same H1 H' → G H') ∧ ∃ F : Nat → List D, (∀ i, i < n → imAll (F i) = true) ∧
      (∀ i v H2 H3, i < n → Same H1 H2 → Y i H2 v H3 → BE X scope elt (S v) H3 fun y H5 => Same H2 H5 ∧ ∃ a xs, y = .ref a ∧ H2 a = none ∧ H5 a = some (.lst xs) ∧ RpAll X.K H5 xs (F i)) ∧
      (∀ p H2 as, Same H1 H2 → H1 p = none → H2 p = some (.lst (as.map V.ref)) → RowsAt X.K H1 H2 p as ((List.range n).map F) → Q (.ref p) H2)) : QL X elt (.Name x px) iter [] scope [i] σ H Q := by
  refine ql_lcN (σw := σw) (by show (wipe σ []).set i none = σw; exact h.w) (q.imp fun J H1 ⟨n, G, Y, w, hn, hG, F, him, hb, hq⟩ => ⟨n, G, Y, w, hn, hG, F, him, fun k v H2 H3 hk s2 y => ?_, hq⟩)
  intro s H0 C cl fp
  refine wg_of (pg_name (i := i) nd (by show X.N[i]? = some x; rw [hN]; exact h.n) (hl s H0 C cl fp) (hf s H0 C cl fp)) ?_
  show wipe (σw.set i (some v)) [i] = σw ∧ _
  rw [h.p]
  exact ⟨by show (S v).set i none = σw; exact h.b v, hb k v H2 H3 hk s2 y⟩
/-- .. over range(n) -/
theorem ql_rN (hm : X.mg "range" = none) (hg : Gl X "range") (h : Tgt N σ x σw S i) (hN : X.N = N) (nd : X.N.Nodup)
    (hl : ∀ s H0 C cl fp, Loc (X.blk s H0 scope (compEnvC scope cl C X.env) fp).env.scope x) (hf : ∀ s H0 C cl fp, (X.blk s H0 scope (compEnvC scope cl C X.env) fp).fn x = true ∨ (X.blk s H0 scope (compEnvC scope cl C X.env) fp).env.scope.names.lookup x = some .local)
    (hs1 : starEach [a] X.env = [(false, eval a X.env)])
    (q : QE X a σ H fun v H1 => ∃ n : Nat, v = .int n ∧ n ≤ 1000 ∧ ∃ f : Nat → List D, (∀ k, k < n → imAll (f k) = true) ∧
      (∀ k H2, k < n → Same H1 H2 → BE X scope elt (S (.int (k : Nat))) H2 fun y H3 => Same H2 H3 ∧ ∃ a xs, y = .ref a ∧ H2 a = none ∧ H3 a = some (.lst xs) ∧ RpAll X.K H3 xs (f k)) ∧
      ∀ p H2 as, Same H1 H2 → H1 p = none → H2 p = some (.lst (as.map V.ref)) → RowsAt X.K H1 H2 p as ((List.range n).map f) → Q (.ref p) H2) : QL X elt (.Name x px) (.Call (.Name "range" rp) [a] [] rpos) [] scope [i] σ H Q := by
  refine ql_seqN h hN nd hl hf (qi_range1 hm hg hs1 (q.imp fun v H1 ⟨n, e, hn, f, him, hb, hq⟩ => ⟨n, e, by omega, n, _, _, walk_range (lo := 0) (n := n), by have := sizeLine_eq; omega, fun _ _ => trivial, f, him, ?_, hq⟩))
  rintro k v H2 H3 hk s2 ⟨rfl, rfl⟩
  dsimp only
  rw [show (0 : Int) + (k : Nat) = (k : Int) by omega]
  exact hb k H3 hk s2
/-- what a tuple (b true) or a list is walked by -/
theorem qi_b {b : Bool} {tg l : Expr} {R : It → Hp → Prop} (q : QE X l σ H fun x H1 => ∃ a xs, x = .ref a ∧ SqB X.K b H1 a xs ∧ ∀ J, Walk J xs.length (fun H => SqB X.K b H a xs) (YAt xs) → R J H1) : QI X tg l σ H R := by
  cases b
  · exact qi_list (q.imp fun x H1 ⟨a, xs, e, h, r⟩ => ⟨a, e, ⟨xs, h⟩, r _ walk_list⟩)
  · exact qi_tup (q.imp fun x H1 ⟨a, xs, e, h, r⟩ => ⟨a, e, ⟨xs, h⟩, r _ walk_tup⟩)
/-- .. over a tuple (b true) or a list -/
theorem ql_mN (b : Bool) (h : Tgt N σ x σw S i) (hN : X.N = N) (nd : X.N.Nodup)
    (hl : ∀ s H0 C cl fp, Loc (X.blk s H0 scope (compEnvC scope cl C X.env) fp).env.scope x) (hf : ∀ s H0 C cl fp, (X.blk s H0 scope (compEnvC scope cl C X.env) fp).fn x = true ∨ (X.blk s H0 scope (compEnvC scope cl C X.env) fp).env.scope.names.lookup x = some .local)
    (q : QE X iter σ H fun v H1 => ∃ (α : Type) (xs : List α) (g : α → D) (f : α → List D), RpB X.K b H1 v (xs.map g) ∧ xs.length < sizeLine ∧ (∀ a ∈ xs, imAll (f a) = true) ∧
      (∀ a ∈ xs, ∀ w H2, Same H1 H2 → Rp X.K H2 w (g a) → BE X scope elt (S w) H2 fun y H3 => Same H2 H3 ∧ ∃ p zs, y = .ref p ∧ H2 p = none ∧ H3 p = some (.lst zs) ∧ RpAll X.K H3 zs (f a)) ∧
      ∀ p H2 as, Same H1 H2 → H1 p = none → H2 p = some (.lst (as.map V.ref)) → RowsAt X.K H1 H2 p as (xs.map f) → Q (.ref p) H2) : QL X elt (.Name x px) iter [] scope [i] σ H Q := by
  refine ql_seqN h hN nd hl hf (qi_b (b := b) (q.imp fun v H1 ⟨α, xs, g, f, r, hz, him, hb, hq⟩ => ?_))
  obtain ⟨a, vs, rfl, h1, h2⟩ := r.inv
  have hlen : vs.length = xs.length := by rw [h2.len, List.length_map]
  refine ⟨a, vs, rfl, h1, fun J W => ⟨vs.length, _, _, W, by omega, fun H' s => h1.to s, fun k => (xs[k]?).elim [] f, fun k hk => ?_, ?_, fun p H2 as s2 hp hp2 r => hq p H2 as s2 hp hp2 ?_⟩⟩
  · dsimp only
    rw [List.getElem?_eq_getElem (by omega)]
    exact him _ (List.getElem_mem _)
  · rintro k v H2 H3 hk s2 ⟨rfl, e⟩
    obtain ⟨d, e1, r1⟩ := (h2.to s2).getA e
    dsimp only
    rw [e1]
    exact hb d (List.mem_of_getElem? e1) v H3 s2 r1
  · have : (List.range vs.length).map (fun k => (xs[k]?).elim [] f) = xs.map f := by
      rw [hlen]
      refine List.ext_getElem? fun k => ?_
      rw [List.getElem?_map, List.getElem?_map]
      by_cases hk : k < xs.length
      · rw [List.getElem?_range hk, List.getElem?_eq_getElem hk]
        simp [List.getElem?_eq_getElem hk]
      · rw [List.getElem?_eq_none (by rw [List.length_range]; omega), List.getElem?_eq_none (by omega)]
        rfl
    rw [this] at r
    exact r
/-- a tuple, or a new list -/
def NwB (K : PySem.W.Frag) (b : Bool) (H H' : Hp) (y : V) (ds : List D) : Prop := match b with
  | true => Rp K H' y (.tup ds)
  | false => ∃ p zs, y = .ref p ∧ H p = none ∧ H' p = some (.lst zs) ∧ RpAll K H' zs ds
def dB (b : Bool) (ds : List D) : D := match b with
  | true => .tup ds
  | false => .lst ds
theorem rpB_dB {K : PySem.W.Frag} {b : Bool} {H : Hp} {v : V} {ds : List D} : RpB K b H v ds ↔ Rp K H v (dB b ds) := by
  cases b <;> exact Iff.rfl
theorem NwB.rpb {K : PySem.W.Frag} {b : Bool} {H H' : Hp} {y : V} {ds : List D} (h : NwB K b H H' y ds) : RpB K b H' y ds := by
  cases b
  · obtain ⟨p, zs, rfl, _, e, r⟩ := h
    exact .lstOf e r
  · exact h
theorem NwB.mono {K : PySem.W.Frag} {b : Bool} {H0 H H' : Hp} {y : V} {ds : List D} (h : NwB K b H H' y ds) (s : Same H0 H) : NwB K b H0 H' y ds := by
  cases b
  · obtain ⟨p, zs, rfl, hp, e, r⟩ := h
    refine ⟨p, zs, rfl, ?_, e, r⟩
    cases w : H0 p with
    | none => rfl
    | some o => rw [s _ _ w] at hp; cases hp
  · exact h
theorem NwB.to {K : PySem.W.Frag} {b : Bool} {H H' H2 : Hp} {y : V} {ds : List D} (h : NwB K b H H' y ds) (s : Same H' H2) : NwB K b H H2 y ds := by
  cases b
  · obtain ⟨p, zs, rfl, hp, e, r⟩ := h
    exact ⟨p, zs, rfl, hp, s _ _ e, r.to s⟩
  · exact Rp.to (d := .tup ds) h s
/-- a tuple, or a list of the heap -/
def LvB (K : PySem.W.Frag) (b : Bool) (H : Hp) (y : V) (ds : List D) : Prop := match b with
  | true => Rp K H y (.tup ds)
  | false => ∃ p zs, y = .ref p ∧ H p = some (.lst zs) ∧ RpAll K H zs ds
theorem NwB.lv {K : PySem.W.Frag} {b : Bool} {H H' : Hp} {y : V} {ds : List D} (h : NwB K b H H' y ds) : LvB K b H' y ds := by
  cases b
  · obtain ⟨p, zs, e1, _, e, r⟩ := h
    exact ⟨p, zs, e1, e, r⟩
  · exact h
theorem LvB.to {K : PySem.W.Frag} {b : Bool} {H H' : Hp} {y : V} {ds : List D} (h : LvB K b H y ds) (s : Same H H') : LvB K b H' y ds := by
  cases b
  · obtain ⟨p, zs, rfl, e, r⟩ := h
    exact ⟨p, zs, rfl, s _ _ e, r.to s⟩
  · exact Rp.to (d := .tup ds) h s
/-- [elt for x in a tuple or a list], elt a tuple or a new list -/
theorem ql_mB (b b2 : Bool) (h : Tgt N σ x σw S i) (hN : X.N = N) (nd : X.N.Nodup)
    (hl : ∀ s H0 C cl fp, Loc (X.blk s H0 scope (compEnvC scope cl C X.env) fp).env.scope x) (hf : ∀ s H0 C cl fp, (X.blk s H0 scope (compEnvC scope cl C X.env) fp).fn x = true ∨ (X.blk s H0 scope (compEnvC scope cl C X.env) fp).env.scope.names.lookup x = some .local)
    (q : QE X iter σ H fun v H1 => ∃ (α : Type) (xs : List α) (g : α → D) (f : α → List D), RpB X.K b H1 v (xs.map g) ∧ xs.length < sizeLine ∧ (∀ a ∈ xs, imAll (f a) = true) ∧
      (∀ a ∈ xs, ∀ w H2, Same H1 H2 → Rp X.K H2 w (g a) → BE X scope elt (S w) H2 fun y H3 => Same H2 H3 ∧ NwB X.K b2 H2 H3 y (f a)) ∧
      ∀ p H2 ys, Same H1 H2 → H1 p = none → H2 p = some (.lst ys) → RpAll X.K H2 ys (xs.map fun a => dB b2 (f a)) → Q (.ref p) H2) : QL X elt (.Name x px) iter [] scope [i] σ H Q := by
  cases b2
  · refine ql_mN b h hN nd hl hf (q.imp fun v H1 ⟨α, xs, g, f, r, hz, him, hb, hq⟩ => ⟨α, xs, g, f, r, hz, him, hb, fun p H2 as s2 hp hp2 rw' => hq p H2 _ s2 hp hp2 ?_⟩)
    have := rw'.rp
    rw [List.map_map] at this
    exact this
  · cases b
    · refine ql_ml h hN nd hl hf (q.imp fun v H1 ⟨α, xs, g, f, r, hz, him, hb, hq⟩ => ⟨α, xs, g, fun a => .tup (f a), r, hz, him, hb, hq⟩)
    · refine ql_mt h hN nd hl hf (q.imp fun v H1 ⟨α, xs, g, f, r, hz, him, hb, hq⟩ => ⟨α, xs, g, fun a => .tup (f a), r, hz, him, hb, hq⟩)
end
section
variable {X : Cx} {elt iter c : Expr} {scope : Scope} {N : List Str} {σ σ1 σw : Sl} {S1 S : V → Sl} {σi : V → Sl} {S2 : V → V → Sl} {H : Hp} {Q : VK} {x y : Str} {i j kk : Nat} {px py pos rp tpos : Pos} {a b : Expr}
/-- [elt for x, y in zip(a, b)], elt a new list -/
theorem ql_zipN (T : Two X scope N σ σ1 σw S1 S σi S2 x y i j) (hm : X.mg "zip" = none) (hg : Gl X "zip") (hs : starEach [a, b] X.env = (false, eval a X.env) :: starEach [b] X.env) (hs2 : starEach [b] X.env = [(false, eval b X.env)]) (hpl : (backTo pos (starEach [b] X.env)).any (·.1) = false)
    (q : QE X a σ H fun v H1 => QE X b σ H1 fun w H2 => ∃ (α β : Type) (b1 b2 : Bool) (xs : List α) (ys : List β) (g1 : α → D) (g2 : β → D) (f : α → β → List D), RpB X.K b1 H2 v (xs.map g1) ∧ RpB X.K b2 H2 w (ys.map g2) ∧ xs.length < sizeLine ∧ (∀ a ∈ xs, ∀ b ∈ ys, imAll (f a b) = true) ∧
      (∀ a ∈ xs, ∀ b ∈ ys, ∀ u1 u2 H3, Same H2 H3 → Rp X.K H3 u1 (g1 a) → Rp X.K H3 u2 (g2 b) → BE X scope elt (S2 u1 u2) H3 fun y H4 => Same H3 H4 ∧ ∃ p zs, y = .ref p ∧ H3 p = none ∧ H4 p = some (.lst zs) ∧ RpAll X.K H4 zs (f a b)) ∧
      ∀ p H3 as, Same H2 H3 → H2 p = none → H3 p = some (.lst (as.map V.ref)) → RowsAt X.K H2 H3 p as (List.zipWith f xs ys) → Q (.ref p) H3) :
    QL X elt (.Tuple [.Name x px, .Name y py] kk tpos) (.Call (.Name "zip" rp) [a, b] [] pos) [] scope [i, j] σ H Q := by
  refine ql_lcN (σw := σw) T.w (qi_z hm hg hs hs2 hpl (q.imp fun v H1 q1 => QE.imp q1 fun w H2 ⟨α, β, b1, b2, xs, ys, g1, g2, f, r1, r2, hz, him, hb, hq⟩ => ?_))
  obtain ⟨a1, vs, rfl, h1, h2⟩ := r1.inv
  obtain ⟨a2, ws, rfl, h3, h4⟩ := r2.inv
  have l1 : vs.length = xs.length := by rw [h2.len, List.length_map]
  have l2 : ws.length = ys.length := by rw [h4.len, List.length_map]
  have lz : (List.zipWith f xs ys).length = min vs.length ws.length := by rw [List.length_zipWith, l1, l2]
  refine ⟨b1, b2, a1, a2, vs, ws, rfl, rfl, h1, h3, _, _, _, walk_z, by omega, fun H' s => ⟨h1.to s, h3.to s⟩, fun k => (List.zipWith f xs ys).getD k [], fun k hk => ?_, ?_, ?_⟩
  · have hm : (List.zipWith f xs ys).getD k [] ∈ List.zipWith f xs ys := by
      rw [List.getD_eq_getElem?_getD, List.getElem?_eq_getElem (by rw [lz]; exact hk)]
      exact List.getElem_mem _
    obtain ⟨j, hj⟩ := List.getElem?_of_mem hm
    rw [List.getElem?_zipWith] at hj
    cases w1 : xs[j]? with
    | none => rw [w1] at hj; cases hj
    | some a =>
      cases w2 : ys[j]? with
      | none => rw [w1, w2] at hj; cases hj
      | some b =>
        rw [w1, w2] at hj
        simp only [Option.some.injEq] at hj
        dsimp only
        rw [← hj]
        exact him a (List.mem_of_getElem? w1) b (List.mem_of_getElem? w2)
  · rintro k v H3 H4 hk s3 ⟨p, u1, u2, rfl, hp, rfl, e1, e2⟩
    obtain ⟨d1, f1, r1⟩ := (h2.to s3).getA e1
    obtain ⟨d2, f2, r2⟩ := (h4.to s3).getA e2
    have s4 := same_new (o := .tup [u1, u2]) hp
    refine bg_two T upd_same ?_
    intro s H0 C cl fp
    refine (hb d1 (List.mem_of_getElem? f1) d2 (List.mem_of_getElem? f2) u1 u2 _ (s3.trans s4) (r1.to s4) (r2.to s4) s H0 C cl fp).imp fun y H5 ⟨s5, pp, zs, ey, hpp, e5, r5⟩ => ⟨s4.trans s5, pp, zs, ey, ?_, e5, ?_⟩
    · cases w : H3 pp with
      | none => rfl
      | some o => rw [s4 _ _ w] at hpp; cases hpp
    · have : (List.zipWith f xs ys).getD k [] = f d1 d2 := by simp [List.getD_eq_getElem?_getD, List.getElem?_zipWith, f1, f2]
      dsimp only
      rw [this]
      exact r5
  · intro p H3 as s3 hp hp2 r
    refine hq p H3 as s3 hp hp2 ?_
    have : (List.range (min vs.length ws.length)).map (fun k => (List.zipWith f xs ys).getD k []) = List.zipWith f xs ys := by
      rw [← lz]
      refine List.ext_getElem? fun k => ?_
      rw [List.getElem?_map]
      by_cases hk : k < (List.zipWith f xs ys).length
      · rw [List.getElem?_range hk, List.getElem?_eq_getElem hk]
        simp only [Option.map_some, List.getD_eq_getElem?_getD, List.getElem?_eq_getElem hk, Option.getD_some]
      · rw [List.getElem?_eq_none (by rw [List.length_range]; omega), List.getElem?_eq_none (by omega)]
        rfl
    rw [this] at r
    exact r
end
/-! a tuple or a list, told by a Bool -/
section
variable {X : Cx} {σ : Sl} {H : Hp} {Q : VK} {pos p2 : Pos} {e lo hi : Expr} {x y v : V} {b : Bool}
theorem we_slHiB (b : Bool) (q : QE X e σ H fun x H1 => QE X hi σ H1 fun u H2 => ∃ (ds : List D) (k : Nat), u = .int k ∧ k < ds.length ∧ RpB X.K b H2 x ds ∧ ∀ v H3, Same H2 H3 → NwB X.K b H2 H3 v (ds.take k) → Q v H3) : QE X (.Subscript e (.Slice none (some hi) none p2) pos) σ H Q := by
  cases b
  · exact we_slHiL (q.imp fun x H1 q1 => QE.imp q1 fun u H2 ⟨ds, k, e1, hk, r, z⟩ => ⟨ds, k, e1, Nat.le_of_lt hk, r, fun p H3 xs hp s e r => z _ _ s ⟨p, xs, rfl, hp, e, r⟩⟩)
  · exact we_slHiT q
theorem we_slLoB (b : Bool) (q : QE X e σ H fun x H1 => QE X lo σ H1 fun u H2 => ∃ (ds : List D) (k : Nat), u = .int k ∧ (1 ≤ k ∧ k ≤ ds.length) ∧ RpB X.K b H2 x ds ∧ ∀ v H3, Same H2 H3 → NwB X.K b H2 H3 v (ds.drop k) → Q v H3) : QE X (.Subscript e (.Slice (some lo) none none p2) pos) σ H Q := by
  cases b
  · exact we_slLoL (q.imp fun x H1 q1 => QE.imp q1 fun u H2 ⟨ds, k, e1, hk, r, z⟩ => ⟨ds, k, e1, hk.2, r, fun p H3 xs hp s e r => z _ _ s ⟨p, xs, rfl, hp, e, r⟩⟩)
  · exact we_slLoT q
theorem opw_catB {ds es : List D} (h1 : LvB X.K b H x ds) (h2 : LvB X.K b H y es) (hl : ds.length + es.length ≤ sizeLine) (q : ∀ v H', Same H H' → NwB X.K b H H' v (ds ++ es) → Q v H') : OpW X (binaryOp .Add) x y H Q := by
  cases b
  · obtain ⟨a, xs, rfl, h3, h4⟩ := h1
    obtain ⟨a2, ys, rfl, h5, h6⟩ := h2
    exact opw_catL h3 h5 (by rw [h4.len, h6.len]; exact hl) fun p H' hp s e => q _ _ s ⟨p, _, rfl, hp, e, (h4.app h6).to s⟩
  · exact opw_catT h1 h2 hl q
theorem callw_len_B {ds : List D} (h : RpB X.K b H x ds) (q : Q (.int ds.length) H) : CallW X (.builtin "len") [x] H Q := by
  cases b
  · exact callw_len_l h q
  · exact callw_len_t h q
theorem ixw_mB {α : Type} {xs : List α} {g : α → D} {k : Int} {d0 : α} (h : RpB X.K b H v (xs.map g)) (h0 : 0 ≤ k) (hk : k.toNat < xs.length) (q : ∀ w, Rp X.K H w (g (xs.getD k.toNat d0)) → Q w H) : IxW X v (.int k) H Q := by
  cases b
  · exact ixw_ml h h0 hk q
  · exact ixw_mt h h0 hk q
theorem ixw_rowB {r : List Int} {k : Int} (h : RpB X.K b H v (r.map .int)) (h0 : 0 ≤ k) (hk : k.toNat < r.length) (q : Q (.int (r.getD k.toNat 0)) H) : IxW X v (.int k) H Q := by
  cases b
  · exact ixw_rowL h h0 hk q
  · exact ixw_row h h0 hk q
/-- list(x) -/
theorem callw_list {ds : List D} (h : RpB X.K b H x ds) (q : ∀ p H' xs, H p = none → Same H H' → H' p = some (.lst xs) → RpAll X.K H' xs ds → Q (.ref p) H') : CallW X (.type "list") [x] H Q := by
  obtain ⟨a, xs, rfl, h1, h2⟩ := h.inv
  refine callw_of call_list_of ⟨a, xs, rfl, ?_, fun l hl => q _ _ _ hl (same_new hl) upd_same (h2.to (same_new hl))⟩
  cases b
  · exact .inl h1
  · exact .inr h1
/-- xs * k -/
theorem opw_repL {a : Addr} {xs : List V} {ds : List D} {k : Nat} (h : H a = some (.lst xs)) (r : RpAll X.K H xs ds) (hk : k ≤ 1000) (hz : ds.length ≤ 1000) (q : ∀ p H' ys, H p = none → Same H H' → H' p = some (.lst ys) → RpAll X.K H' ys (List.replicate k ds).flatten → Q (.ref p) H') : OpW X (binaryOp .Mult) (.ref a) (.int k) H Q := by
  refine opw_of op_rep ⟨a, k, xs, rfl, rfl, h, by omega, by omega, ?_, fun p hp => q p _ _ hp (same_new hp) upd_same ?_⟩
  · rw [Int.toNat_natCast, r.len]
    exact Nat.le_trans (Nat.mul_le_mul hz hk) (by decide)
  · rw [Int.toNat_natCast]
    have r' := r.to (same_new (o := .lst (List.replicate k xs).flatten) hp)
    revert r'
    generalize (upd H p (HO.lst (List.replicate k xs).flatten)) = H'
    intro r'
    clear q hk
    induction k with
    | zero => exact .nil
    | succ k ih =>
      rw [List.replicate_succ, List.replicate_succ, List.flatten_cons, List.flatten_cons]
      exact r'.app ih
end
end Sx

/-! Sf: a list comprehension whose element may raise. -/
namespace Sx
open PySem PySem.Spec PyProof.Rows L2
/-- the context with another wish -/
abbrev wish (X : Cx) (xe : Value → Shared → Prop) : Cx := { X with xe := xe }
/-- an exception that came out of a call made in the block Y -/
def XB (Y : Cx) (W : XK) (u : Value) (s' : Shared) : Prop :=
  ∃ (a : Addr) (B : Heap) (sI : Shared) (pins : List (Addr × Obj)) (σ : Sl) (H : Hp) (cls : Value) (d : Option Addr),
    u = .ref a ∧ Inv Y pins σ H sI ∧ (∀ b o, sI.heap.get? b = some o → b ∉ frs Y.stack → B.get? b = some o) ∧ sI.heap.UpToSlots s'.heap ∧
      HandSPX.FlyingZ B Y.stack a (Zc cls d) s'.heap ∧ H a = none ∧ s'.os = sI.os ∧ AllBare s'.gens ∧ W cls d H
section
variable {X Y : Cx} {pins : List (Addr × Obj)} {σ : Sl} {H : Hp} {s s' : Shared}
theorem okUnwish {xe : Value → Shared → Prop} (k : (wish Y xe).Ok) : Y.Ok :=
  ⟨k.mod, k.kind, k.glob, k.blt, k.above, k.inj, k.has, k.cab, k.hd, k.frames, k.stk, k.exf, k.bs, k.bsz, k.noex, k.exfs, k.funs, k.frf⟩
theorem okWish {xe : Value → Shared → Prop} (k : Y.Ok) : (wish Y xe).Ok :=
  ⟨k.mod, k.kind, k.glob, k.blt, k.above, k.inj, k.has, k.cab, k.hd, k.frames, k.stk, k.exf, k.bs, k.bsz, k.noex, k.exfs, k.funs, k.frf⟩
theorem unwish {xe : Value → Shared → Prop} (J : Inv (wish Y xe) pins σ H s) : Inv Y pins σ H s :=
  ⟨okUnwish J.ok, J.os, J.bare, J.base, J.loc, J.cell, J.free, J.freeC, J.pin, J.hok, J.len⟩
theorem inWish {xe : Value → Shared → Prop} (J : Inv Y pins σ H s) : Inv (wish Y xe) pins σ H s :=
  ⟨okWish J.ok, J.os, J.bare, J.base, J.loc, J.cell, J.free, J.freeC, J.pin, J.hok, J.len⟩
/-- a callee's error, in the block's air -/
theorem pass_xb {W : XK} : Passes (L2.CX Y.prog Y.w) (wish Y (XB Y W)) W := by
  intro pins σ H s u s' I0 c
  have I := unwish I0
  have fly := c
  obtain ⟨a, B, H', cls, d, rfl, fl, hok, ub, na, os, ag, hE⟩ := c
  obtain ⟨G, g1, g2⟩ := restrict s'.heap fun b => (B.get? b).isSome || decide (b ∈ frs Y.stack)
  have st : B.StaysIn s'.heap := fl.1
  have inG : ∀ b o, B.get? b = some o → G.get? b = some o := fun b o e => (g1 b (by simp [e])).trans (st b o e)
  have frG : ∀ b, b ∈ frs Y.stack → G.get? b = s'.heap.get? b := fun b hb => g1 b (by simp [hb])
  have ofG : ∀ b o, G.get? b = some o → s'.heap.get? b = some o ∧ ((B.get? b).isSome = true ∨ b ∈ frs Y.stack) := fun b o e => by
    cases q : ((B.get? b).isSome || decide (b ∈ frs Y.stack)) with
    | false => rw [g2 b q] at e; cases e
    | true =>
      rw [g1 b q] at e
      exact ⟨e, by simpa [Bool.or_eq_true] using q⟩
  refine ⟨a, B, { s with heap := G, gens := s'.gens, drawn := s'.drawn, toks := s'.toks }, pins, σ, H', cls, d, rfl, ?_, fun b o e hb => ?_, Heap.UpToSlots.of_keeps fun b o e => (ofG b o e).1, fl, na, os, ag, hE⟩
  · refine I.call (ch := []) ⟨fun b o e n hb _ => inG b o (ub.keep b o e n hb), fun b o e n hb _ => ?_, fun b o e n _ => ub.free b o e n, fun b o e _ => ?_, ub.tups, ub.frzs, ub.tbls⟩ (hok.kept inG) ag (fun _ z => nomatch z)
    · obtain ⟨sl, q⟩ := ub.slot b o e hb
      exact ⟨sl, (frG b hb).trans q⟩
    · by_cases hb : b ∈ frs Y.stack
      · obtain ⟨sl, q⟩ := ub.slot b o e hb
        exact ⟨_, (frG b hb).trans q⟩
      · obtain ⟨o', q⟩ := ub.there b o e hb
        exact ⟨o', inG b o' q⟩
  · obtain ⟨e', h⟩ := ofG b o e
    rcases h with h | h
    · obtain ⟨o', q⟩ := Option.isSome_iff_exists.mp h
      have z := st b o' q
      rw [e'] at z; cases z
      exact q
    · exact absurd h hb
theorem sub_hide {B : Heap} {C b : Addr} {o : Obj} (e : (PySem.W.hideAll B [C]).get? b = some o) : B.get? b = some o ∧ b ≠ C := by
  refine ⟨PySem.W.of_hideAll _ e, fun z => ?_⟩
  rw [PySem.W.hideAll_none [C] (by simp [z])] at e
  cases e
/-- out of the block: noted, the block's names let go, in the air of X -/
theorem xb_out {W : WX} {Wb : XK} {s3 : Shared} {H3 : Hp} {scope : Scope} {ce : Env} {fp : List Addr} {u : Value} (hst : X.stack = X.env :: X.outer) (hfr : X.env.frame = some X.env.locals) (tk : Takes X W) (hW : ∀ c d H, Wb c d H → ∀ σ, W c d σ H)
    (I3 : Inv X pins σ H3 s3) (f3 : ∀ b ∈ fp, FpOk X pins H3 b ∧ b < s3.heap.objs.size) (cL : ce.locals = s3.heap.objs.size) (cf : ce.frame = X.env.frame)
    (x : XB (X.blk s3 H3 scope ce fp) Wb u s') : notedBy (model X.prog X.w) X.A ce (CompFails (model X.prog X.w) X.A X.xe ce) u s' := by
  obtain ⟨a, B, sI, pins', σ', H', cls, d, rfl, I, nb, up, fl, na, os, ag, w⟩ := x
  have hfs : X.A.frames = some (X.env :: X.outer) := by rw [I3.ok.frames, hst]
  have fl : HandSPX.FlyingZ B (X.env :: X.outer) a (Zc cls d) s'.heap := by
    rw [← hst]
    exact fl
  show wpAny _ _ (noteFrame (.ref a) ce) _ _ s'
  rw [noteFrame_env _ cf]
  refine HandSPX.looks_onZ Zc.steady hfs hfr fl fun h1 hh up1 => ?_
  obtain ⟨m, hn, _⟩ := I.loc
  have hn : sI.heap.Ns ce.locals m := hn
  have hn1 : h1.Ns ce.locals m := (hn.upToSlots up).upToSlots up1
  refine ⟨m, hn1, fun h2 m2 hn2 sb => ?_⟩
  obtain ⟨b1, b0, f1, t1⟩ := hh
  have hB : ∀ b o, (PySem.W.hideAll B [ce.locals]).get? b = some o → B.get? b = some o ∧ b ≠ ce.locals := fun b o e => sub_hide e
  have st2 : (PySem.W.hideAll B [ce.locals]).StaysIn h2 := fun b o e => (sb.2 b (hB b o e).2).trans (b1 b o (hB b o e).1)
  have none2 : ∀ b, B.get? b = none → (PySem.W.hideAll B [ce.locals]).get? b = none := fun b e => by
    cases q : (PySem.W.hideAll B [ce.locals]).get? b with
    | none => rfl
    | some o => rw [(hB b o q).1] at e; cases e
  have f2 : h2.FunFrames (PySem.W.hideAll B [ce.locals]) (X.env :: X.outer) := funFrames_none (Heap.FunFrames.sameBut sb hn2 f1) fun L hL => none2 L (f1.mem hL).1
  obtain ⟨oL, es, ep, hoL, hdL, _⟩ := hn1
  obtain ⟨oe, vs, T, oT, ts, he, hz, hd, h1', hnT, hTe, hT, hdT, h3⟩ := t1
  have neL : ∀ {b : Addr} {o : Obj} {vs : Array Value}, h1.get? b = some o → o.data = .fields vs → b ≠ ce.locals := fun {b o vs} e ed z => by
    rw [z, hoL] at e
    cases e
    rw [hdL] at ed
    cases ed
  have t2 : HandSPX.TracedZ h2 (PySem.W.hideAll B [ce.locals]) a (Zc cls d) (rawInt X.env.locals) :=
    ⟨oe, vs, T, oT, ts, (sb.2 a (neL he hd)).trans he, hz, hd, h1', none2 T hnT, hTe, (sb.2 T (neL hT hdT)).trans hT, hdT, h3⟩
  unfold PySem.passOn
  refine wpAny_bind (wpAny_field ((sb.2 a (neL he hd)).trans he) hd h1' ?_)
  rw [if_neg (show ¬ ((Value.ref T == Value.none) = true) from by simp), cf, hfr]
  refine wpAny_bind (HandSPX.setFlight_anyZ (fr := some X.env.locals) st2 f2 t2 fun h4 k1 k2 k3 k4 => wpAny_throw ?_)
  -- back in the def
  have I7 : Inv X pins σ H' sI := I3.call' (ch := fp) I.os I.base I.hok I.bare fun b hb => ⟨(f3 b hb).1.2.2.2.1, (f3 b hb).1.2.1, (f3 b hb).1.2.2.2.2.1, (f3 b hb).1.2.2.2.2.2⟩
  have nC : H' ce.locals = none := I.free
  have g := I3.fpOk (b := ce.locals) (by rw [cL]; exact Nat.le_refl _) nC
  obtain ⟨g0, g1, g2, g3, g4, g5⟩ := g
  have I8 := I7.turned (t' := sI.toks) (h' := PySem.W.hideAll sI.heap [ce.locals]) (it := ce.locals) (fun b o n e => PySem.W.hideAll_get _ e (by simp [n])) g0 g1 g3 g4 g5
  refine tk _ _ ⟨a, PySem.W.hideAll B [ce.locals], _, pins, σ, H', cls, d, rfl, I8, fun b o e hb => ?_, fun b o e hnf => ?_, .inr (.inr ?_), na, os, ag, hW _ _ _ w _⟩
  · obtain ⟨e1, e2⟩ := sub_hide e
    exact PySem.W.hideAll_get _ (nb b o e1 hb) (by simp [e2])
  · obtain ⟨e1, e2⟩ := sub_hide e
    obtain ⟨sl, q⟩ := up b o e1 hnf
    obtain ⟨sl1, q1⟩ := up1 b _ q hnf
    obtain ⟨sl2, q2⟩ := k4 b _ ((sb.2 b e2).trans q1) hnf
    exact ⟨sl2, q2⟩
  · rw [hst]
    exact ⟨k1, none2 a b0, k2, k3⟩
end
/-- in the block, errors of kind W may leave -/
def BEX (X : Cx) (W : XK) (scope : Scope) (e : Expr) (σ : Sl) (H : Hp) (Q : VK) : Prop := ∀ (s : Shared) (H0 : Hp) (C : Addr) (cl : List (Str × Addr)) (fp : List Addr), QE (wish (X.blk s H0 scope (compEnvC scope cl C X.env) fp) (XB (X.blk s H0 scope (compEnvC scope cl C X.env) fp) W)) e σ H Q

section
variable {X : Cx} {elt tg iter : Expr} {scope : Scope} {σ : Sl} {H : Hp} {Q : VK} {pos : Pos}
/-- [elt for tg in iter], the element may raise -/
theorem we_lcX {W : WX} {Wb : XK} {own : List (Str × Nat)} {vs : List Nat} (hv : own.map (·.2) = vs) (hc : X.calm = true) (nd : X.N.Nodup) (ok : BlkOk X.N X.env.scope scope own) (hs : ∀ x, foldedSetIterable iter X.env x = pure x)
    (hst : X.stack = X.env :: X.outer) (hfr : X.env.frame = some X.env.locals) (tk : Takes X W) (hW : ∀ c d H, Wb c d H → ∀ σ, W c d σ H)
    (q : tLc (QI X tg iter) (BG X scope tg) tYes (BEX X Wb scope elt) vs σ H Q) : QE X (.ListComp elt [⟨tg, iter, [], 0⟩] scope pos) σ H Q := by
  subst hv
  intro pins s I
  rw [eval_ListComp]
  have free : ∀ y ∈ scope.names, y.2 = .free → ∃ c, X.env.cells.lookup y.1 = some c := fun y hy e => I.ok.has _ (ok.free y hy e)
  refine comprehension_at (use := none) rfl hs (closure_ok free) ok.kind (fun y hy e => by rw [ok.uniq y hy, e]) (thn (q pins s I) fun xv s1 hx => thn hx fun itv s2 h2 => ?_)
  obtain ⟨it, fp, tn, J, H2, e, I2, T, st2, f2, q⟩ := h2
  subst e
  refine wpAny_newObj_type (newEnv_comp ?_) (by show 0 ≤ sizeLine; decide)
  generalize hD : s2.heap.objs.size = Dl
  obtain ⟨Wm, ⟨m0, w0⟩, turn⟩ := q Dl (I2.hok.fresh (Nat.le_of_eq hD))
  generalize hs3 : ({ s2 with heap := s2.heap.push { cls := .type "list", data := .seq ([] : List Value).toArray } } : Shared) = s3
  have I3 : Inv X pins σ (upd H2 Dl (.lst [])) s3 := by
    subst hs3
    refine I2.laid (t' := s2.toks) (fun b u e => Heap.get?_push_of_some _ e) (Nat.le_of_eq hD) ⟨Nat.zero_le _, [], 0, .nil, ?_⟩
    subst hD
    exact Heap.get?_push_size _ rfl
  have h3 : s3.heap = s2.heap.push { cls := .type "list", data := .seq ([] : List Value).toArray } := by rw [← hs3]
  have lo : ∀ b ∈ fp, b < s2.heap.objs.size := fun b hb => by
    obtain ⟨_, e, _⟩ := T.obj _ _ st2 b hb
    exact Heap.lt_size e
  have f3 : ∀ b ∈ fp, FpOk X pins (upd H2 Dl (.lst [])) b ∧ b < s3.heap.objs.size := fun b hb => by
    have l := lo b hb
    refine ⟨⟨?_, (f2 b hb).2⟩, by rw [h3, Heap.size_push]; exact Nat.lt_succ_of_lt l⟩
    rw [upd_ne (by subst hD; exact Nat.ne_of_lt l)]
    exact (f2 b hb).1
  have st3 : tn 0 s3.heap := T.keep _ _ _ st2 fun b _ u e => by rw [h3]; exact Heap.get?_push_of_some _ e
  have I4 := block_start I3 ok nd f3
  show codeAny _ _ (.compStart (.ListComp elt [⟨tg, iter, [], 0⟩] scope pos) 0 (.ref it) (.ref Dl) (compEnvC scope (cellsFrom (s3.heap.objs.size + 1) scope.names (cloFrom X.env.cells scope.names [])) s3.heap.objs.size X.env)) (compEnds (model X.prog X.w) X.A X.xe none (EP X pins σ Q) (.ref Dl) (compEnvC scope (cellsFrom (s3.heap.objs.size + 1) scope.names (cloFrom X.env.cells scope.names [])) s3.heap.objs.size X.env)) { s3 with heap := pushCells (s3.heap.push { cls := .type "dict", data := .dict #[] }) scope.names }
  have nf : ∀ b ∈ fp, (upd H2 Dl (.lst [])) b = none := fun b hb => (f3 b hb).1.1
  generalize hcl : cellsFrom (s3.heap.objs.size + 1) scope.names (cloFrom X.env.cells scope.names []) = cl at I4 ⊢
  generalize hcc : s3.heap.objs.size = cc at I4 ⊢
  generalize hce : compEnvC scope cl cc X.env = ce at I4 ⊢
  have cL : ce.locals = s3.heap.objs.size := by subst hce; exact hcc.symm
  have cf : ce.frame = X.env.frame := by subst hce; rfl
  generalize hH3 : upd H2 Dl (.lst []) = H3 at I3 I4 w0 nf f3
  generalize hs4 : ({ s3 with heap := pushCells (s3.heap.push { cls := .type "dict", data := .dict #[] }) scope.names } : Shared) = s4 at I4 ⊢
  have st4 : tn 0 s4.heap := T.keep _ _ _ st3 fun b _ u e => by rw [← hs4]; exact pushCells_keeps _ _ _ _ (Heap.get?_push_of_some _ e)
  have fpk : ∀ {σ' : Sl} {H' : Hp} {s' : Shared}, Inv (X.blk s3 H3 scope ce fp) [] σ' H' s' → (∀ b ∈ fp, H' b = none) → ∀ b ∈ fp, FpOk (X.blk s3 H3 scope ce fp) [] H' b := fun {σ' H' s'} I' hn b hb =>
    ⟨hn b hb, (I'.ok.exf b hb).1, I'.ok.exfs b hb, .inl hb, fun x c e => (I'.ok.exf b hb).2 x c e, fun p hp => absurd (show p ∈ ([] : List (Addr × Obj)) ++ [] from hp) (by simp)⟩
  have loop : codeAny (model X.prog X.w) X.A (.compLoop (.ListComp elt [⟨tg, iter, [], 0⟩] scope pos) 0 (.ref it) (.ref Dl) ce) (compEnds (model X.prog X.w) X.A X.xe none (EP X pins σ Q) (.ref Dl) ce) s4 := by
    refine compLoop_any (fun n s' => ∃ i H', Inv (X.blk s3 H3 scope ce fp) [] (wipe σ (own.map (·.2))) H' s' ∧ tn i s'.heap ∧ (∀ b ∈ fp, H' b = none) ∧ Wm i n H') ?_ m0 ⟨0, H3, I4, st4, nf, w0⟩
    rintro n s5 ⟨i, H5, I5, st5, n5, w5⟩
    rcases turn i n H5 w5 with ⟨stop, qq⟩ | ⟨go, Nx, hNx, step⟩
    · have td := T.done (X.blk s3 H3 scope ce fp) rfl rfl rfl hc i [] s5 _ H5 (fun _ _ => False) I5 (fpk I5 n5) st5 stop
      refine thnF td fun r s6 ⟨hr, I6⟩ => ?_
      subst hr
      have I7 : Inv X pins σ H5 s6 := I3.call' (ch := fp) I6.os I6.base I6.hok I6.bare fun b hb =>
        let z := (f3 b hb).1
        ⟨z.2.2.2.1, z.2.1, z.2.2.2.2.1, z.2.2.2.2.2⟩
      have nC : H5 ce.locals = none := I6.free
      obtain ⟨m, hn, _⟩ := I6.loc
      have hn : s6.heap.Ns ce.locals m := hn
      obtain ⟨g0, g1, g2, g3, g4, g5⟩ := I3.fpOk (b := ce.locals) (by rw [cL]; exact Nat.le_refl _) nC
      exact ⟨m, hn, fun h'' sb => ⟨.ref Dl, H5, I7.turned (t' := s6.toks) (fun b u hb e => (sb.2 b hb).trans e) g0 g1 g3 g4 g5, rfl, qq⟩⟩
    · have ti := T.item (X.blk s3 H3 scope ce fp) rfl rfl rfl hc i [] s5 _ H5 (fun _ _ => False) I5 (fpk I5 n5) st5 go
      refine thnF ti fun r s6 ⟨u, hr, h6⟩ => ?_
      subst hr
      refine thnF h6 fun _ s7 ⟨x, H7, I7, r7, y7, st7, n7⟩ => ?_
      have J7 := I7.pinned (fpk I7 n7) (T.obj _ _ st7)
      have pg := step x H7 y7
      have pg := pg s3 H3 cc cl fp
      rw [hce] at pg
      refine thnF (pg _ s7 u J7 r7) fun _ s8 ⟨σ8, H8, I8, hw8, q8⟩ => ?_
      have q8 : BEX X Wb scope elt σ8 H8 fun y H4 => ∃ acc, H4 Dl = some (.lst acc) ∧ acc.length < sizeLine ∧ Nx (upd H4 Dl (.lst (acc ++ [y]))) := q8
      have q8 := q8 s3 H3 cc cl fp
      rw [hce] at q8
      refine wpAny_tests_nil ?_
      rw [if_pos rfl]
      refine wpAny_mono (q8 _ s8 (inWish I8)) (fun z s9 ⟨yv, H9, I9', r9, acc, hD9, hz9, nx⟩ => ?_) fun u9 s9 x9 => xb_out hst hfr tk hW I3 f3 cL cf x9
      have I9 := unwish I9'
      refine app_ok (X := X.blk s3 H3 scope ce fp) I9 hD9 hz9 r9 fun s' I' => ?_
      obtain ⟨m', hm, w'⟩ := hNx _ nx
      have pin' : ∀ b ∈ fp, ∀ u, s7.heap.get? b = some u → s'.heap.get? b = some u ∧ (upd H9 Dl (.lst (acc ++ [yv]))) b = none := fun b hb u e =>
        let z := I'.pin (b, u) (List.mem_append_right _ (List.mem_append_right _ (mem_pinsAt hb e)))
        ⟨z.1, z.2.1⟩
      have hl : (wipe σ (own.map (·.2))).length = σ8.length := by rw [← hw8, wipe_length]
      refine ⟨m', hm, i + 1, _, (I'.unpinned (pins := [])).weak hl (fun j v e => ?_), T.keep _ _ _ st7 fun b hb u e => (pin' b hb u e).1, fun b hb => ?_, w'⟩
      · rw [← hw8] at e
        exact (wipe_some e).1
      · obtain ⟨u, e, _⟩ := T.obj _ _ st7 b hb
        exact (pin' b hb u e).2
  exact codeAny_compStart_list loop (T.self X.A 0 _ _ _ st4 loop)
/-- .. F tells what turn i brings, G0 that it was brought -/
theorem ql_lcX {scope : Scope} {vs : List Nat} {Wb : XK} {σw : Sl} (hw : wipe σ vs = σw)
    (q : QI X tg iter σ H fun J H1 => ∃ (n : Nat) (G : Hp → Prop) (Y : Nat → Hp → V → Hp → Prop), Walk J n G Y ∧ n < sizeLine ∧ (∀ H', Same H1 H' → G H') ∧ ∃ (F : Nat → D) (G0 : Nat → Prop), (∀ i, (F i).im = true) ∧
      (∀ i x H2 H3, i < n → Same H1 H2 → Y i H2 x H3 → BG X scope tg x σw H3 fun σ2 H4 => wipe σ2 vs = σw ∧ BEX X Wb scope elt σ2 H4 fun y H5 => Same H2 H5 ∧ G0 i ∧ Rp X.K H5 y (F i)) ∧
      (∀ p H2 ys, Same H1 H2 → H1 p = none → H2 p = some (.lst ys) → RpAll X.K H2 ys ((List.range n).map F) → (∀ i, i < n → G0 i) → Q (.ref p) H2)) : tLc (QI X tg iter) (BG X scope tg) tYes (BEX X Wb scope elt) vs σ H Q := by
  show QI X tg iter σ H _
  refine q.imp fun J H1 ⟨n, G, Y, w, hn, hG, F, G0, him, hb, hq⟩ Dl hD => ?_
  refine lc_it w (fun i H => LcAt X.K H1 Dl (fun k => some (F k)) i H ∧ ∀ k, k < i → G0 k) ⟨LcAt.zero hD, fun k h => absurd h (by omega)⟩ (fun i H _ h => hG H h.1.s) (fun i x H2 H3 hi h y => ?_) (fun H2 h => ?_)
  · rw [hw]
    have hb' := hb i x H2 H3 hi h.1.s y
    intro s H0 C cl fp pins s1 u I r
    refine thn (hb' s H0 C cl fp pins s1 u I r) fun _ s2 ⟨σ2, H4, I4, e4, b4⟩ => ⟨σ2, H4, I4, e4, ?_⟩
    delta tYes
    dsimp only
    rw [if_pos rfl]
    intro s H0 C cl fp pins s1 I
    refine thn (b4 s H0 C cl fp pins s1 I) fun u s3 ⟨v, H5, I5, r5, s5, g5, rp⟩ => ⟨v, H5, I5, r5, ?_⟩
    obtain ⟨acc, h1, h2, h3⟩ := h.1.more hD s5 rfl (fun k d e => by cases e; exact him k) rp
    refine ⟨acc, h1, by rw [h2]; exact Nat.lt_of_le_of_lt (bits_len _ _) (by omega), h3, fun k hk => ?_⟩
    rcases Nat.lt_succ_iff_lt_or_eq.mp hk with e | e
    · exact h.2 k e
    · exact e ▸ g5
  · obtain ⟨acc, h1, h2⟩ := h.1.l
    refine hq Dl H2 acc h.1.s hD h1 ?_ h.2
    have e : bits n (fun k => some (F k)) = (List.range n).map F := by unfold bits; simp
    rw [← e]
    exact h2
end
end Sx

/-! Sk: texts; calls out of blocks that may raise; comprehensions whose element may raise, over data. -/
namespace Sx
open PySem PySem.Spec PyProof.Rows L2
section
variable {X : Cx} {o e a : Expr} {es : List Expr} {σ : Sl} {H : Hp} {Q : VK} {x : Str} {pos p p2 apos : Pos} {j k : Nat} {sp : Sp} {E : XK}
theorem we_splitS (q : QE X o σ H fun x H1 => ∃ z, x = .str z ∧ QE X e σ H1 fun y H2 => ∃ b, y = .str b ∧ (b.length == 0) = false ∧ z.length + 2 ≤ sizeLine ∧ ∀ p H3, H2 p = none → Same H2 H3 → H3 p = some (.lst ((Txt.split z b).map V.str)) → Q (.ref p) H3)
    (hs : starEach [e] X.env = [(false, eval e X.env)]) (hbase : attributeBase o "split" X.env (eval o X.env) = eval o X.env) (hline : (apos.endLine == pos.line) = true) : QE X (.Call (.Attribute o "split" apos) [e] [] pos) σ H Q := by
  refine we_of (pe_split pe_sem pe_sem hs hbase hline) (q.imp fun v H1 ⟨z, ev, q1⟩ => ⟨⟨z, ev⟩, ?_⟩)
  exact QE.imp q1 fun y H2 ⟨b, ey, h1, h2, q2⟩ => ⟨z, b, ev, by rw [ey], h1, h2, fun p hp => q2 p _ hp (same_new hp) upd_same⟩
theorem we_partS (q : QE X o σ H fun x H1 => ∃ z, x = .str z ∧ QE X e σ H1 fun y H2 => ∃ b, y = .str b ∧ (b.length == 0) = false ∧ z.length ≤ sizeLine ∧ ∀ p H3, H2 p = none → Same H2 H3 → H3 p = some (.tup [.str (Txt.partition z b).1, .str (Txt.partition z b).2.1, .str (Txt.partition z b).2.2]) → Q (.ref p) H3)
    (hs : starEach [e] X.env = [(false, eval e X.env)]) (hbase : attributeBase o "partition" X.env (eval o X.env) = eval o X.env) (hline : (apos.endLine == pos.line) = true) : QE X (.Call (.Attribute o "partition" apos) [e] [] pos) σ H Q := by
  refine we_of (pe_partition pe_sem pe_sem hs hbase hline) (q.imp fun v H1 ⟨z, ev, q1⟩ => ⟨⟨z, ev⟩, ?_⟩)
  exact QE.imp q1 fun y H2 ⟨b, ey, h1, h2, q2⟩ => ⟨z, b, ev, by rw [ey], h1, h2, fun p hp => q2 p _ hp (same_new hp) upd_same⟩
theorem we_rmpre (q : QE X o σ H fun x H1 => ∃ z, x = .str z ∧ QE X e σ H1 fun y H2 => ∃ b, y = .str b ∧ z.length ≤ sizeLine ∧ Q (.str (Txt.removeprefix z b)) H2)
    (hs : starEach [e] X.env = [(false, eval e X.env)]) (hbase : attributeBase o "removeprefix" X.env (eval o X.env) = eval o X.env) (hline : (apos.endLine == pos.line) = true) : QE X (.Call (.Attribute o "removeprefix" apos) [e] [] pos) σ H Q := by
  refine we_of (pe_m1 F.slot_str_removeprefix F.type_str_removeprefix mt_removeprefix pe_sem pe_sem hs hbase hline) (q.imp fun v H1 ⟨z, ev, q1⟩ => ⟨⟨z, ev⟩, ?_⟩)
  exact QE.imp q1 fun y H2 ⟨b, ey, h1, q2⟩ => ⟨z, b, ev, by rw [ey], h1, q2⟩
theorem we_starts (q : QE X o σ H fun x H1 => ∃ z, x = .str z ∧ QE X e σ H1 fun y H2 => ∃ b, y = .str b ∧ Q (.bl (Txt.startswith z b)) H2)
    (hs : starEach [e] X.env = [(false, eval e X.env)]) (hbase : attributeBase o "startswith" X.env (eval o X.env) = eval o X.env) (hline : (apos.endLine == pos.line) = true) : QE X (.Call (.Attribute o "startswith" apos) [e] [] pos) σ H Q := by
  refine we_of (pe_m1 F.slot_str_startswith F.type_str_startswith mt_startswith pe_sem pe_sem hs hbase hline) (q.imp fun v H1 ⟨z, ev, q1⟩ => ⟨⟨z, ev⟩, ?_⟩)
  exact QE.imp q1 fun y H2 ⟨b, ey, q2⟩ => ⟨z, b, ev, by rw [ey], q2⟩
theorem opw_leS {i j : Str} (q : Q (.bl (!decide (j.cps.toList < i.cps.toList))) H) : OpW X (compareOp .LtE) (.str i) (.str j) H Q := opw_of op_le_str ⟨i, j, rfl, rfl, q⟩
theorem opw_inS {c : Nat} {z : Str} (q : Q (.bl (decide (c ∈ z.cps.toList))) H) : OpW X (compareOp .In) (.str ⟨#[c]⟩) (.str z) H Q := opw_of op_in_sign ⟨c, z, rfl, rfl, q⟩
theorem opw_addS {i j : Str} (hz : i.length + j.length ≤ sizeLine) (q : Q (.str (i ++ j)) H) : OpW X (binaryOp .Add) (.str i) (.str j) H Q := opw_of op_add_str ⟨i, j, rfl, rfl, hz, q⟩
theorem opw_mulS {z : Str} {n : Int} (hok : MulOk z n) (q : Q (.str (Txt.mul z n)) H) : OpW X (binaryOp .Mult) (.str z) (.int n) H Q := by
  intro pins s σ u v I ru rv
  obtain ⟨t, rfl⟩ := ru
  obtain ⟨t', rfl⟩ := rv
  exact PySem.SB.mul hok fun t2 k2 => ⟨.str (Txt.mul z n), H, I.tok k2, ⟨t2, rfl⟩, q⟩
theorem ixw_s {z : Str} {i : Int} {c : Nat} (hz : z.length ≤ sizeLine) (ha : atI z.cps.toList i = some c) (q : Q (.str ⟨#[c]⟩) H) : IxW X (.str z) (.int i) H Q := ixw_of ix_str ⟨z, i, c, rfl, rfl, hz, ha, q⟩
theorem callw_intS {z : Str} {n : Int} (h : intText? z = some n) (hz : z.length ≤ 640) (q : Q (.int n) H) : CallW X (.type "int") [.str z] H Q := callw_of call_int_str ⟨z, n, rfl, h, hz, q⟩
theorem callw_lenS {z : Str} (hz : z.length ≤ sizeLine) (q : Q (.int z.length) H) : CallW X (.builtin "len") [.str z] H Q := callw_of call_len_str ⟨z, rfl, hz, q⟩
theorem we_slHiS {hi : Expr} (q : QE X e σ H fun x H1 => QE X hi σ H1 fun u H2 => ∃ (z : Str) (k : Int), u = .int k ∧ x = .str z ∧ z.length ≤ sizeLine ∧ Q (.str (cutS z none (some k))) H2) : QE X (.Subscript e (.Slice none (some hi) none p2) pos) σ H Q := by
  refine we_of (pe_slice sl_str pe_sem po_none (po_some pe_sem)) ?_
  intro pins s I
  refine thn (q pins s I) fun u s1 ⟨x, H1, I1, r1, q1⟩ => ⟨x, H1, I1, r1, ?_⟩
  show QE X hi σ H1 _
  exact QE.imp q1 fun u H2 ⟨z, k, e1, ez, hz, q2⟩ => ⟨k, e1, z, ez, hz, q2⟩
theorem we_slLoS {lo : Expr} (q : QE X e σ H fun x H1 => QE X lo σ H1 fun u H2 => ∃ (z : Str) (k : Int), u = .int k ∧ x = .str z ∧ z.length ≤ sizeLine ∧ Q (.str (cutS z (some k) none)) H2) : QE X (.Subscript e (.Slice (some lo) none none p2) pos) σ H Q := by
  refine we_of (pe_slice sl_str pe_sem (po_some pe_sem) po_none) ?_
  intro pins s I
  refine thn (q pins s I) fun u s1 ⟨x, H1, I1, r1, q1⟩ => ⟨x, H1, I1, r1, ?_⟩
  show QE X lo σ H1 _
  exact QE.imp q1 fun u H2 ⟨z, k, e1, ez, hz, q2⟩ => ⟨k, e1, z, ez, hz, q2⟩
/-! calls that may raise, the wish told -/
theorem we_callP {dvs : List V} (c : CalX X.prog X.w X.K X.mg X.base k x sp dvs) (px : Passes (L2.CX X.prog X.w) X E) (hr : Room j X.A) (hk : k ≤ j) (hg : Gl X x) (q : QA X (e :: es) σ H fun vs H1 => sp (vs ++ dvs) H1 Q E)
    (hdb : (x == ("__debug__" : Str)) = false := by decide) (he : starEach (e :: es) X.env = (false, eval e X.env) :: starEach es X.env := by rfl) (hpl : (backTo pos (starEach es X.env)).any (·.1) = false := by rfl) :
    QE X (.Call (.Name x p) (e :: es) [] pos) σ H Q := by
  obtain ⟨f, fd, ps, ds, F, hm, kp, b, d⟩ := c.ex
  exact we_of (pe_call F (hr.mono hk) hg hm kp b d px pa_sem hdb he hpl) q
theorem we_makeDP {C : Addr} {dvs : List V} (mk : MakD X.prog X.w X.K X.mg X.base (L2.CX X.prog X.w) k x C sp dvs) (px : Passes (L2.CX X.prog X.w) X E) (hr : Room j X.A) (hk : k + 1 ≤ j) (hg : Gl X x)
    (q : QA X (e :: es) σ H fun vs H1 => ∀ a dx H2, H1 a = none → Same H1 H2 → H2 a = some (.ins C dx []) → H2 dx = some (.own a) → dx ≠ a → sp (.ref a :: (vs ++ dvs)) H2 (fun v H3 => v = .non ∧ Q (.ref a) H3) E)
    (hdb : (x == ("__debug__" : Str)) = false := by decide) (he : starEach (e :: es) X.env = (false, eval e X.env) :: starEach es X.env := by rfl) (hpl : (backTo pos (starEach es X.env)).any (·.1) = false := by rfl) : QE X (.Call (.Name x p) (e :: es) [] pos) σ H Q := by
  obtain ⟨f, fd, ps, ds, F, M, b, hd0⟩ := mk.ex
  refine we_of (pe_make M F (hr.mono hk) hg mk.at_ b hd0 px pa_sem hdb he hpl) ?_
  intro ps2 pins s I
  refine thn (q ps2 pins s I) fun us s1 ⟨vs, H1, I1, r, z⟩ => ⟨vs, H1, I1, r, fun x dx hx hd hne => ?_⟩
  have s1' : Same H1 (upd H1 dx (.own x)) := same_new hd
  have hx2 : (upd H1 dx (.own x)) x = none := by rw [upd_ne hne.symm]; exact hx
  exact z x dx _ hx (s1'.trans (same_new hx2)) upd_same (by rw [upd_ne hne]; exact upd_same) hne
end
section
variable {X : Cx} {elt iter c : Expr} {scope : Scope} {N : List Str} {σ σw : Sl} {S : V → Sl} {H : Hp} {Q : VK} {x : Str} {i : Nat} {px pos rp rpos : Pos} {a b : Expr} {W : WX} {Wb : XK}
theorem qi_str {tg l : Expr} {R : It → Hp → Prop} (q : QE X l σ H fun x H1 => ∃ z, x = .str z ∧ R (Its z) H1) : QI X tg l σ H R := qi_of (pi_str pe_sem) q
/-- [elt for x in iter], the element may raise: over data told by a list of any type -/
theorem we_mX (b : Bool) {own : List (Str × Nat)} (hv : own.map (·.2) = [i]) (hc : X.calm = true) (nd : X.N.Nodup) (ok : BlkOk X.N X.env.scope scope own) (hs : ∀ x, foldedSetIterable iter X.env x = pure x)
    (hst : X.stack = X.env :: X.outer) (hfr : X.env.frame = some X.env.locals) (tk : Takes X W) (hW : ∀ c d H, Wb c d H → ∀ σ, W c d σ H) (h : Tgt N σ x σw S i) (hN : X.N = N)
    (hl : ∀ s H0 C cl fp, Loc (X.blk s H0 scope (compEnvC scope cl C X.env) fp).env.scope x) (hf : ∀ s H0 C cl fp, (X.blk s H0 scope (compEnvC scope cl C X.env) fp).fn x = true ∨ (X.blk s H0 scope (compEnvC scope cl C X.env) fp).env.scope.names.lookup x = some .local)
    (q : QE X iter σ H fun v H1 => ∃ (α : Type) (xs : List α) (g f : α → D) (okk : α → Prop), RpB X.K b H1 v (xs.map g) ∧ xs.length < sizeLine ∧ (∀ a ∈ xs, (f a).im = true) ∧
      (∀ a ∈ xs, ∀ u H2, Same H1 H2 → Rp X.K H2 u (g a) → BEX X Wb scope elt (S u) H2 fun y H3 => Same H2 H3 ∧ okk a ∧ Rp X.K H3 y (f a)) ∧
      (∀ p H2 ys, Same H1 H2 → H1 p = none → H2 p = some (.lst ys) → RpAll X.K H2 ys (xs.map f) → (∀ a ∈ xs, okk a) → Q (.ref p) H2)) : QE X (.ListComp elt [⟨.Name x px, iter, [], 0⟩] scope pos) σ H Q := by
  refine we_lcX hv hc nd ok hs hst hfr tk hW (ql_lcX (σw := σw) (by show (wipe σ []).set i none = σw; exact h.w) (qi_b (b := b) (q.imp fun v H1 ⟨α, xs, g, f, okk, r, hz, him, hb, hq⟩ => ?_)))
  obtain ⟨a, vs, rfl, h1, h2⟩ := r.inv
  have ln : vs.length = xs.length := by rw [h2.len, List.length_map]
  refine ⟨a, vs, rfl, h1, fun J w => ⟨vs.length, _, _, w, by omega, fun H' s => h1.to s, fun k => (xs[k]?).elim .non f, fun k => ∀ a, xs[k]? = some a → okk a, fun k => ?_, ?_, ?_⟩⟩
  · dsimp only
    cases e : xs[k]? with
    | none => rfl
    | some z => exact him z (List.mem_of_getElem? e)
  · rintro k u H2 H3 hk s2 ⟨rfl, e⟩
    obtain ⟨d, e1, r1⟩ := (h2.to s2).getA e
    intro s H0 C cl fp
    refine wg_of (pg_name (i := i) nd (by show X.N[i]? = some x; rw [hN]; exact h.n) (hl s H0 C cl fp) (hf s H0 C cl fp)) ?_
    show wipe (σw.set i (some u)) [i] = σw ∧ _
    rw [h.p]
    refine ⟨by show (S u).set i none = σw; exact h.b u, ?_⟩
    intro s H0 C cl fp
    exact (hb d (List.mem_of_getElem? e1) u H3 s2 r1 s H0 C cl fp).imp fun y H5 ⟨s5, o5, r5⟩ => ⟨s5, fun a' ea => by rw [e1] at ea; cases ea; exact o5, by dsimp only; rw [e1]; exact r5⟩
  · intro p H2 ys s2 hp hp2 r2 ho
    refine hq p H2 ys s2 hp hp2 ?_ fun a ha => ?_
    · have em : (List.range vs.length).map (fun k => (xs[k]?).elim D.non f) = xs.map f := by
        rw [ln]
        apply List.ext_getElem?
        intro k
        by_cases hk : k < xs.length
        · simp [hk]
        · rw [List.getElem?_eq_none (by simpa using hk), List.getElem?_eq_none (by simpa using hk)]
      rw [em] at r2
      exact r2
    · obtain ⟨k, e⟩ := List.mem_iff_getElem?.mp ha
      have hk : k < xs.length := by
        rcases Nat.lt_or_ge k xs.length with z | z
        · exact z
        · rw [List.getElem?_eq_none z] at e; cases e
      exact ho k (by omega) a e
/-- [elt for x in text] -/
theorem ql_ch (h : Tgt N σ x σw S i) (hN : X.N = N) (nd : X.N.Nodup)
    (hl : ∀ s H0 C cl fp, Loc (X.blk s H0 scope (compEnvC scope cl C X.env) fp).env.scope x) (hf : ∀ s H0 C cl fp, (X.blk s H0 scope (compEnvC scope cl C X.env) fp).fn x = true ∨ (X.blk s H0 scope (compEnvC scope cl C X.env) fp).env.scope.names.lookup x = some .local)
    (q : QE X iter σ H fun v H1 => ∃ (z : Str) (f : Nat → D), v = .str z ∧ z.length < sizeLine ∧ (∀ c, (f c).im = true) ∧ (∀ c H2, c ∈ z.cps.toList → Same H1 H2 → BE X scope elt (S (.str ⟨#[c]⟩)) H2 fun y H3 => Same H2 H3 ∧ Rp X.K H3 y (f c)) ∧
      ∀ p H2 ys, Same H1 H2 → H1 p = none → H2 p = some (.lst ys) → RpAll X.K H2 ys (z.cps.toList.map f) → Q (.ref p) H2) : QL X elt (.Name x px) iter [] scope [i] σ H Q := by
  refine ql_seq h hN nd hl hf (qi_str (q.imp fun v H1 ⟨z, f, ev, hz, him, hb, hq⟩ => ⟨z, ev, _, _, _, walk_str, hz, fun _ _ => trivial, fun k => (z.cps.toList[k]?).map f, ?_, ?_, ?_⟩))
  · intro k d e
    dsimp only at e
    cases w : z.cps.toList[k]? with
    | none => rw [w] at e; cases e
    | some c => rw [w] at e; cases e; exact him c
  · rintro k u H2 H3 hk s2 ⟨rfl, c, e, rfl⟩
    have e' : z.cps.toList[k]? = some c := by simpa using e
    intro s H0 C cl fp
    exact (hb c H3 (List.mem_of_getElem? e') s2 s H0 C cl fp).imp fun y H5 ⟨s5, r5⟩ => ⟨s5, f c, by dsimp only; rw [e']; rfl, r5⟩
  · intro p H2 ys s2 hp hp2 r
    have e := bits_mp z.cps.toList f
    rw [Array.length_toList] at e
    rw [e] at r
    exact hq p H2 ys s2 hp hp2 r
end
end Sx
namespace Sx
open PySem PySem.Spec PyProof.Rows L2
section
variable {X : Cx} {iter tg : Expr} {body : List Stmt} {E : Ends} {σ : Sl} {H : Hp} {pos : Pos}
/-- for over a tuple or a list -/
theorem ws_forB (b : Bool) (hp : PassesOwn (model X.prog X.w) X.A X.env X.xe) (hc : X.calm = true) (hfs : ∀ x, foldedSetIterable iter X.env x = pure x)
    (q : QE X iter σ H fun v H1 => ∃ ds, RpB X.K b H1 v ds ∧ ∃ Pv : Nat → Sl → Hp → Prop, Pv 0 σ H1 ∧ (∀ k σ' H', Pv k σ' H' → Same H1 H') ∧
      (∀ k d w σ1 H2, ds[k]? = some d → Pv k σ1 H2 → Rp X.K H2 w d → Turn X tg body E Pv k w σ1 H2) ∧ (∀ σ1 H2, Pv ds.length σ1 H2 → E.nx σ1 H2)) : QS X (.For tg iter body [] pos) E σ H := by
  cases b
  · exact ws_forl hp hc hfs q
  · exact ws_fort hp hc hfs q
end
end Sx
namespace Sx
open PySem PySem.Spec PyProof.Rows L2
section
variable {X : Cx} {σ : Sl} {H : Hp} {E : Ends} {W : WX} {x : Str} {p1 pos : Pos}
/-- raise C(i), C an own error with one field -/
theorem ws_raiseT {C fI : Addr} {k j : Nat} {fd : FuncData} {ps : List Str} {f : Str} {i : Int} {jm : Nat} {pm cpos : Pos} (hcal : X.calm = true) (tk : Takes X W) (T : OexC X.K C) (iC : PySem.W.findIn X.K (.ref C) "__init__" = some (some (.ref fI))) (tI : PySem.W.typeIn X.K (.ref fI) = some (.type "function"))
    (F1 : FnOk X.prog X.w X.K X.mg X.base CX0 k fI fd ps (spErr C f)) (hr : Room j X.A) (hk : k + 1 ≤ j) (hb : Binds X.K fd ps []) (hg : Gl X x) (hm : X.mg x = some (.ref C))
    (q : ∀ d H', Same H H' → H' d = some (.xd [(f, .int i)]) → W (.ref C) (some d) σ H')
    (hdb : (x == ("__debug__" : Str)) = false) (he : starEach [.Constant (.int i) jm pm] X.env = (false, eval (.Constant (.int i) jm pm) X.env) :: starEach [] X.env) (hpl : (backTo cpos (starEach [] X.env)).any (·.1) = false) :
    QS X (.Raise (some (.Call (.Name x p1) [.Constant (.int i) jm pm] [] cpos)) none pos) E σ H := by
  refine ws_of (ps_raise hcal tk (pmk_oex T iC tI F1 (hr.mono hk) hb .nil pass0 hg hm (pa_cons pe_int pa_nil he) hdb he hpl)) ?_
  refine ⟨by simp, fun a ha => ⟨a, .int i, rfl, upd_same, fun dx hdx hne => ⟨rfl, dx, [(f, .int i)], upd_same, by rw [upd_ne hne]; exact upd_same, ?_, ?_⟩⟩⟩
  · rw [upd_ne hne] at hdx
    exact hdx
  · rw [upd_ne hne] at hdx
    refine q dx _ (fun b u hb => ?_) upd_same
    have n1 : b ≠ a := ne_of_none hb ha
    have n2 : b ≠ dx := ne_of_none hb hdx
    rw [upd_ne n2, del_ne n1, upd_ne n1, upd_ne n2, upd_ne n1]
    exact hb
end
end Sx
namespace Sx
open PySem PySem.Spec PyProof.Rows L2
section
variable {X : Cx} {e : Expr} {es : List Expr} {σ : Sl} {H : Hp} {Q : VK} {W : WX} {x : Str} {p pos : Pos} {j k : Nat} {sp : Sp}
/-- a call whose errors are told at the slots as they are -/
theorem we_callS (c : CalX X.prog X.w X.K X.mg X.base k x sp []) (tk : Takes X W) (hr : Room j X.A) (hk : k ≤ j) (hg : Gl X x) (q : QA X (e :: es) σ H fun vs H1 => sp vs H1 Q fun c d H' => W c d σ H')
    (hdb : (x == ("__debug__" : Str)) = false) (he : starEach (e :: es) X.env = (false, eval e X.env) :: starEach es X.env) (hpl : (backTo pos (starEach es X.env)).any (·.1) = false) : QE X (.Call (.Name x p) (e :: es) [] pos) σ H Q := by
  obtain ⟨f, fd, ps, ds, F, hm, kp, b, d⟩ := c.ex
  cases d
  exact we_of (pe_callS F (hr.mono hk) hg hm kp b (fun σ => passAt tk σ) pa_sem hdb he hpl) q
end
end Sx

/-! Sl: != of lists of own things, all alike. -/
namespace Sx
open PySem PySem.SeqAt
open AutoSeq1 (wpAny_loadPart')
open MeetsSeq MeetsSeq2 MeetsSeq3 SeqRoads2
section
variable {prog : Program} {w : World} {A : Around} {R : Result → Shared → Prop}
theorem nel_loop (p q : Addr) (M : Nat) (J : Nat → Shared → Prop) (each : GQ.ListI prog w A (fun e s' => R (.error e) s') p q M J)
    (last : ∀ s, J M s → R (.ok (.ret (.bool false))) s) (m : Nat) :
    ∀ j : Nat, M - j = m → j ≤ M → ∀ s, J j s →
      wpAny (model prog w) A.in1 (Builtin.«list.__eq__.loop» ⟨[.ref p, .ref q, rawInt j, rawInt 3], []⟩) (GQ.FinOf prog w A R) (fun e s' => R (.error e) s') s := by
  induction m with
  | zero =>
    intro j hm hj s jj
    obtain ⟨us, vs, a1, a2, ep, eq, z1, z2, _⟩ := each _ _ jj
    have hjM : j = M := by omega
    have done : R (.ok (.ret (.bool false))) s := last s (hjM ▸ jj)
    obtain ⟨hp, g, d, tk, os⟩ := s
    wp_walk using wpAny_loadPart' ep, wpAny_loadPart' eq
    have n1 : us[((j : Nat) : Int).toNat]? = none := by simp; omega
    have n2 : vs[((j : Nat) : Int).toNat]? = none := by simp; omega
    rw [n1, n2]
    wp_walk using wpAny_loadPart' ep, wpAny_loadPart' eq
    show R (.ok (.ret (.bool (us.size != vs.size)))) _
    rw [z1, z2]
    simpa using done
  | succ m ih =>
    intro j hm hj s jj
    obtain ⟨us, vs, a1, a2, ep, eq, z1, z2, turn⟩ := each _ _ jj
    have l1 : j < us.size := by omega
    have l2 : j < vs.size := by omega
    have now := turn l1 l2
    obtain ⟨hp, g, d, tk, os⟩ := s
    wp_walk using wpAny_loadPart' ep, wpAny_loadPart' eq
    have n1 : us[((j : Nat) : Int).toNat]? = some us[j] := by simp [l1]
    have n2 : vs[((j : Nat) : Int).toNat]? = some vs[j] := by simp [l2]
    have cast1 : ((j : Int) + 1) = ((j + 1 : Nat) : Int) := by omega
    rw [n1, n2]
    refine wpAny_bind (wpAny_mono now (fun t s2 h2 => ?_) fun _ _ x => x)
    obtain ⟨ht, h2⟩ := h2
    subst ht
    have more := ih (j + 1) (by omega) (by omega) s2 h2
    obtain ⟨hp2, g2, d2, tk2, os2⟩ := s2
    wp_walk
    rw [cast1]
    exact ⟨plainId_quiet plain_eq_loop _, codeAny_builtin entry_eq_loop (by
      rw [Around.under_plainId plain_eq_loop _]
      exact more)⟩
theorem nel_run (p q : Addr) (M : Nat) (J : Nat → Shared → Prop) (each : GQ.ListI prog w A (fun e s' => R (.error e) s') p q M J)
    (last : ∀ s, J M s → R (.ok (.ret (.bool false))) s) {s : Shared} (j0 : J 0 s) :
    wpAny (model prog w) A.in1 (Builtin.«list.__ne__» ⟨[.ref p, .ref q], []⟩) (GQ.FinOf prog w A R) (fun e s' => R (.error e) s') s := by
  obtain ⟨us, vs, a1, a2, ep, eq, z1, z2, _⟩ := each _ _ j0
  have more := nel_loop (A := A) (R := R) p q M J each last _ 0 rfl (Nat.zero_le _) s j0
  obtain ⟨hp, g, d, tk, os⟩ := s
  have sub := AutoSeq1.sub_list_list
  have same : ¬ (us.size != vs.size) = true := by simp [z1, z2]
  wp_walk using wpAny_loadPart' ep, wpAny_loadPart' eq
  exact ⟨plainId_quiet plain_eq_loop _, codeAny_builtin entry_eq_loop (by
    rw [Around.under_plainId plain_eq_loop _]
    exact more)⟩
theorem nel_rc {E : Value → Shared → Prop} {s : Shared} {p q : Addr} {M : Nat} {Q : Value → Shared → Prop} (hu : A.units < cLine) (J : Nat → Shared → Prop) (each : GQ.ListI prog w A E p q M J)
    (last : ∀ s, J M s → Q (.bool false) s) (j0 : J 0 s) : wpAny (model prog w) A (richCompare .NotEq (.ref p) (.ref q)) Q E s := by
  obtain ⟨us, vs, a1, a2, ep, eq, _, _, _⟩ := each _ _ j0
  refine wpAny_richCompare_same_room (op := .NotEq) ⟨_, ep, rfl⟩ ⟨_, eq, rfl⟩ F.slot_list_ne (GQ.call_here F.slot_list_ne ⟨_, ep, rfl⟩ F.entry_list_ne (F.args_list_ne_2 _ _) ?_) hu
  exact nel_run (R := wants (fun v s' => v ≠ .notImplemented ∧ Q v s') E) p q M J each (fun s' h => ⟨(fun x => nomatch x), last s' h⟩) j0
end
end Sx
namespace Sx
open PySem PySem.Spec PyProof.Rows L2
section
variable {X : Cx} {n : Nat} {D : Eqv} {H : Hp} {Q : VK} {x y : V}
theorem opw_neLst (hD : Mon D) (h : EqG X n D) (hr : Room (n + 1) X.A) (d : DList D x y H) (q : ∀ H', Same H H' → Q (.bl false) H') : OpW X (compareOp .NotEq) x y H Q := by
  intro pins s σ u v I rx ry
  obtain ⟨a, b, xs, ys, rfl, rfl, ha, hb, p⟩ := d
  cases rx
  cases ry
  show wpAny (model X.prog X.w) X.A (richCompare .NotEq (.ref a) (.ref b)) (EP X pins σ Q) X.xe s
  have sb : Sub X (n + 1) X.A := ⟨hr, rfl⟩
  refine nel_rc (M := xs.length) sb.room.units0 (fun _ s' => LoopI X pins σ H s') (fun i s' l => ?_) (fun s' ⟨H', I', e'⟩ => ⟨.bl false, H', I', rfl, q H' e'⟩) ⟨H, I, Ext.rfl'⟩
  obtain ⟨H1, I1, e1⟩ := id l
  obtain ⟨_, us, k1, r1, o1⟩ := I1.hok a _ (e1 _ _ ha)
  obtain ⟨_, vs, k2, r2, o2⟩ := I1.hok b _ (e1 _ _ hb)
  exact ⟨us.toArray, vs.toArray, k1, k2, o1, o2, by rw [List.size_toArray, ← r1.length], by rw [List.size_toArray, ← r2.length, ← p.1], fun h1 h2 => turnG hD h sb p r1 r2 i h1 h2 s' l⟩
end
end Sx

set_option maxHeartbeats 4000000
namespace K02
open PySem PySem.Spec PyProof.Rows L2 Sx
def top (i : Nat) : Stmt := PySem.Challenge.pw_motionroads_k02_whole_rows_and_texts_of.main.body.getD i (.Pass ⟨0, 0, 0, 0⟩)
local macro_rules | `(tactic| kct_strs) => `(tactic| first
  | ((with_reducible show QE _ _ _ _ _); (first
    | ((with_reducible refine' we_name ?h ?hN ?hv ?q); (case hN => first | with_reducible assumption | assumption); (case h => infer_instance); (case hv => first | exact Or.inl rfl | exact Or.inr (Or.inl rfl) | exact Or.inr (Or.inr rfl)); (case' q => skip))
    | with_reducible refine we_int ?_
    | with_reducible refine we_bl ?_
    | with_reducible refine we_non ?_
    | with_reducible refine we_str ?_
    | with_reducible refine we_bin ?_
    | with_reducible refine we_not ?_
    | with_reducible refine we_un ?_
    | with_reducible refine we_cmp (nomark _) ?_
    | ((with_reducible refine' we_chain ?h ?q); (case h => with_unfolding_all rfl); (case' q => skip))
    | with_reducible refine we_and ?_
    | with_reducible refine we_or ?_
    | with_reducible refine we_one ?_
    | with_reducible refine we_ifx ?_
    | with_reducible refine we_tup ?_
    | with_reducible refine we_lst ?_
    | ((with_reducible refine' we_fld ?hb ?q); (case hb => exact rfl); (case' q => skip))
    | ((with_reducible refine' we_join ?q ?hs ?hb ?hl); (case hs => exact rfl); (case hb => exact rfl); (case hl => exact rfl); (case' q => skip))
    | ((with_reducible refine' we_ix ?hs ?q); (case hs => intro _ _; exact rfl); (case' q => skip))
    | ((with_reducible refine' we_bltn ?hm ?hg ?hv ?q ?h1 ?h2 ?h3 ?h4); (case hv => infer_instance); (case hm => first | with_reducible assumption | assumption); (case hg => exact rfl); (case h1 => decide); (case h2 => decide); (case h3 => exact rfl); (case h4 => exact rfl); (case' q => skip))
    | ((with_reducible refine' we_type ?hm ?hg ?hv ?q ?h1 ?h2 ?h3 ?h4); (case hv => infer_instance); (case hm => first | with_reducible assumption | assumption); (case hg => exact rfl); (case h1 => decide); (case h2 => decide); (case h3 => exact rfl); (case h4 => exact rfl); (case' q => skip))
    | ((with_reducible refine' we_tyval ?hm ?hg ?hv ?q ?h1 ?h2); (case hv => infer_instance); (case hm => first | with_reducible assumption | assumption); (case hg => exact rfl); (case h1 => decide); (case h2 => decide); (case' q => skip))
    | ((with_reducible refine' we_gref ?hm ?hg ?q ?h1); (case hm => first | with_reducible assumption | assumption); (case hg => exact rfl); (case h1 => decide); (case' q => skip))
    | ((with_reducible refine' we_gint ?hm ?hg ?q ?h1); (case hm => first | with_reducible assumption | assumption); (case hg => exact rfl); (case h1 => decide); (case' q => skip))
    | ((with_reducible refine' we_call ?c ?hr ?hk ?hg ?q ?h1 ?h2 ?h3); (case c => first | with_reducible assumption | assumption); (case hr => assumption); (case hk => decide); (case hg => exact rfl); (case h1 => decide); (case h2 => exact rfl); (case h3 => exact rfl); (case' q => skip))
    | ((with_reducible refine' we_callX ?c ?tk ?hr ?hk ?hg ?q ?h1 ?h2 ?h3); (case c => first | with_reducible assumption | assumption); (case tk => assumption); (case hr => assumption); (case hk => decide); (case hg => exact rfl); (case h1 => decide); (case h2 => exact rfl); (case h3 => exact rfl); (case' q => skip))
    | ((with_reducible refine' we_make ?mk ?tk ?hr ?hk ?hg ?q ?h1 ?h2 ?h3); (case mk => first | with_reducible assumption | assumption); (case tk => assumption); (case hr => assumption); (case hk => decide); (case hg => exact rfl); (case h1 => decide); (case h2 => exact rfl); (case h3 => exact rfl); (case' q => skip))
    | ((with_reducible refine' we_lc1 ?hi ?hN ?hc ?nd ?ok ?hs ?q); (case hN => first | with_reducible assumption | assumption); (case hi => infer_instance); (case hc => exact rfl); (case nd => first | with_reducible assumption | assumption); (case ok => exact ⟨rfl, of_decide_eq_true (by kernel_rfl), of_decide_eq_true (by kernel_rfl), of_decide_eq_true (by kernel_rfl), of_decide_eq_true (by kernel_rfl)⟩); (case hs => intro _; exact rfl); (case' q => skip))
    | ((with_reducible refine' we_lcn2 ?hi ?hj ?hN ?hc ?nd ?ok ?hs ?hs1 ?q); (case hN => first | with_reducible assumption | assumption); (case hi => infer_instance); (case hj => infer_instance); (case hc => exact rfl); (case nd => first | with_reducible assumption | assumption); (case ok => exact ⟨rfl, of_decide_eq_true (by kernel_rfl), of_decide_eq_true (by kernel_rfl), of_decide_eq_true (by kernel_rfl), of_decide_eq_true (by kernel_rfl)⟩); (case hs => intro _; exact rfl); (case hs1 => intro _ _; exact rfl); (case' q => skip))); kct_strs)
  | ((with_reducible show QT _ _ _ _ _); (first
    | with_reducible refine wt_not ?_
    | with_reducible refine wt_boolop ?_
    | with_reducible refine wt_cmp (nomark _) ?_
    | ((with_reducible refine' wt_chain ?h ?q); (case h => with_unfolding_all rfl); (case' q => skip))
    | ((with_reducible refine' wt_val ?h ?q); (case h => intro _; rfl); (case' q => skip))); kct_strs)
  | ((with_reducible show QW _ _ _ _ _); (first
    | with_reducible refine ww_and ?_
    | with_reducible refine ww_or ?_
    | with_reducible refine ww_and1 ?_
    | with_reducible refine ww_or1 ?_); kct_strs)
  | ((with_reducible show QA _ _ _ _ _); (first
    | with_reducible refine wa_nil ?_
    | ((with_reducible refine' wa_cons ?h ?q); (case h => exact rfl); (case' q => skip))); kct_strs)
  | ((with_reducible show OpW _ _ _ _ _ _); (first
    | with_reducible first | refine opw_add ?_ | refine opw_sub ?_ | refine opw_lt ?_ | refine opw_le ?_ | refine opw_gt ?_ | refine opw_ge ?_ | refine opw_eq ?_ | refine opw_ne ?_ | refine opw_eqb ?_ | refine opw_neb ?_ | refine opw_eqs ?_ | refine opw_nes ?_
    | ((with_reducible refine' opw_isN ?h ?q); (case h => assumption); (case' q => skip))); kct_strs)
  | ((with_reducible show UnW _ _ _ _ _); (first
    | with_reducible refine unw_neg ?_); kct_strs)
  | ((with_reducible show CallW _ _ _ _ _); (first
    | (with_reducible first | refine callw_abs ?_ | refine callw_int ?_ | refine callw_intb ?_)
    | ((with_reducible refine' isi_int ?h ?o ?q); (case h => assumption); (case o => first | assumption | rfl); (case' q => skip))
    | ((with_reducible refine' isi_bool ?h ?o ?q); (case h => assumption); (case o => first | assumption | rfl); (case' q => skip))
    | ((with_reducible refine' isi_str ?h ?o ?q); (case h => assumption); (case o => first | assumption | rfl); (case' q => skip))
    | ((with_reducible refine' isi_tuple ?h ?o ?q); (case h => assumption); (case o => first | assumption | rfl); (case' q => skip))); kct_strs)
  | ((with_reducible show QB _ _ _ _ _); (first
    | with_reducible refine wss_one ?_
    | with_reducible refine wss_cons ?_
    | with_reducible refine wss_nil ?_); kct_strs)
  | ((with_reducible show QS _ _ _ _ _); (first
    | with_reducible refine ws_ret ?_
    | with_reducible refine ws_retN ?_
    | with_reducible refine ws_if ?_
    | ((with_reducible refine' ws_lc1 ?h ?hi ?hN ?hc ?nd ?hyl ?hsw ?ok ?hs ?q); (case hN => first | with_reducible assumption | assumption); (case h => infer_instance); (case hi => infer_instance); (case hc => exact rfl); (case nd => first | with_reducible assumption | assumption); (case hyl => exact rfl); (case hsw => exact rfl); (case ok => exact ⟨rfl, of_decide_eq_true (by kernel_rfl), of_decide_eq_true (by kernel_rfl), of_decide_eq_true (by kernel_rfl), of_decide_eq_true (by kernel_rfl)⟩); (case hs => intro _; exact rfl); (case' q => skip))
    | ((with_reducible refine' ws_lcn2 ?h ?hi ?hj ?hN ?hc ?nd ?hyl ?hsw ?ok ?hs ?hs1 ?q); (case hN => first | with_reducible assumption | assumption); (case h => infer_instance); (case hi => infer_instance); (case hj => infer_instance); (case hc => exact rfl); (case nd => first | with_reducible assumption | assumption); (case hyl => exact rfl); (case hsw => exact rfl); (case ok => exact ⟨rfl, of_decide_eq_true (by kernel_rfl), of_decide_eq_true (by kernel_rfl), of_decide_eq_true (by kernel_rfl), of_decide_eq_true (by kernel_rfl)⟩); (case hs => intro _; exact rfl); (case hs1 => intro _ _; exact rfl); (case' q => skip))
    | ((with_reducible refine' ws_par ?hN ?hi ?hj ?hij ?hc ?nd ?hx ?hy ?hw ?hs ?q); (case hN => first | with_reducible assumption | assumption); (case hi => infer_instance); (case hj => infer_instance); (case hij => decide); (case hc => exact rfl); (case nd => first | with_reducible assumption | assumption); (case hx => exact rfl); (case hy => exact rfl); (case hw => exact rfl); (case hs => exact rfl); (case' q => skip))
    | ((with_reducible refine' ws_par3 ?hN ?hi ?hj ?hl ?hij ?hil ?hjl ?hc ?nd ?hx ?hy ?hz ?hw ?hs ?q); (case hN => first | with_reducible assumption | assumption); (case hi => infer_instance); (case hj => infer_instance); (case hl => infer_instance); (case hij => decide); (case hil => decide); (case hjl => decide); (case hc => exact rfl); (case nd => first | with_reducible assumption | assumption); (case hx => exact rfl); (case hy => exact rfl); (case hz => exact rfl); (case hw => exact rfl); (case hs => exact rfl); (case' q => skip))
    | ((with_reducible refine' ws_fld ?hs ?q); (case hs => exact rfl); (case' q => skip))
    | ((with_reducible refine' ws_asg ?h1 ?h2 ?h3 ?q); (case h1 => exact rfl); (case h2 => exact rfl); (case h3 => exact rfl); (case' q => skip))
    | ((with_reducible refine' ws_expr ?h ?q); (case h => exact rfl); (case' q => skip))
    | ((with_reducible refine' ws_forr1 ?hm ?hg ?hp ?hc ?hfs ?hs1 ?q); (case hm => first | with_reducible assumption | assumption); (case hg => exact rfl); (case hp => first | exact PassesOwn.never | assumption); (case hc => exact rfl); (case hfs => intro _; exact rfl); (case hs1 => exact rfl); (case' q => skip))
    | ((with_reducible refine' ws_forr2 ?hm ?hg ?hp ?hc ?hfs ?hs1 ?hs2 ?q); (case hm => first | with_reducible assumption | assumption); (case hg => exact rfl); (case hp => first | exact PassesOwn.never | assumption); (case hc => exact rfl); (case hfs => intro _; exact rfl); (case hs1 => exact rfl); (case hs2 => exact rfl); (case' q => skip))); kct_strs)
  | ((with_reducible show QG _ _ _ _ _ _); (first
    | ((with_reducible refine' wg_name ?h ?hN ?nd ?hx ?hf ?q); (case hN => first | with_reducible assumption | assumption); (case h => infer_instance); (case nd => first | with_reducible assumption | assumption); (case hx => first | exact Or.inl rfl | exact Or.inr rfl); (case hf => first | exact Or.inl rfl | exact Or.inr rfl); (case' q => skip))
    | ((with_reducible refine' wg_tup ?hc ?ht ?hl ?hst ?q); (case hc => exact rfl); (case ht => exact Or.inl (Or.inl (by assumption))); (case hl => exact rfl); (case hst => exact rfl); (case' q => skip))
    | ((with_reducible refine' wg_sub ?ha ?q); (case ha => intro _; exact rfl); (case' q => skip))); kct_strs)
  | ((with_reducible show QGs _ _ _ _ _ _); (first
    | with_reducible refine wgs_nil ?_
    | ((with_reducible refine' wgs_cons ?h ?q); (case h => exact rfl); (case' q => skip))); kct_strs)
  | ((with_reducible show Exists _); (first
    | with_reducible refine ⟨_, rfl, ?_⟩
    | ((with_reducible refine' ⟨_, _, rfl, _, _, ?p1, ?p2, ?q⟩); (case p1 => infer_instance); (case p2 => infer_instance); (case' q => skip))
    | ((with_reducible refine' ⟨_, _, _, rfl, _, _, _, ?p1, ?p2, ?p3, ?q⟩); (case p1 => infer_instance); (case p2 => infer_instance); (case p3 => infer_instance); (case' q => skip))); kct_strs)
  | skip)
local macro_rules | `(tactic| l_ints) => `(tactic| first
  | ((with_reducible refine' ql_lcr1 ?hm ?hg ?h ?hN ?nd ?hl ?hf ?hs1 ?q); (case hm => first | with_reducible assumption | assumption); (case hg => exact rfl); (case hN => first | with_reducible assumption | assumption); (case h => infer_instance); (case nd => first | with_reducible assumption | assumption); (case hl => intro _ _ _ _ _; first | exact Or.inl rfl | exact Or.inr rfl); (case hf => intro _ _ _ _ _; first | exact Or.inl rfl | exact Or.inr rfl); (case hs1 => exact rfl); (case' q => skip))
  | ((with_reducible refine' ql_lcr2 ?hm ?hg ?h ?hN ?nd ?hl ?hf ?hs1 ?hs2 ?q); (case hm => first | with_reducible assumption | assumption); (case hg => exact rfl); (case hN => first | with_reducible assumption | assumption); (case h => infer_instance); (case nd => first | with_reducible assumption | assumption); (case hl => intro _ _ _ _ _; first | exact Or.inl rfl | exact Or.inr rfl); (case hf => intro _ _ _ _ _; first | exact Or.inl rfl | exact Or.inr rfl); (case hs1 => exact rfl); (case hs2 => exact rfl); (case' q => skip))
  | ((with_reducible refine' ql_lcr2T ?hm ?hg ?h ?hN ?nd ?hl ?hf ?hs1 ?hs2 ?q); (case hm => first | with_reducible assumption | assumption); (case hg => exact rfl); (case hN => first | with_reducible assumption | assumption); (case h => infer_instance); (case nd => first | with_reducible assumption | assumption); (case hl => intro _ _ _ _ _; first | exact Or.inl rfl | exact Or.inr rfl); (case hf => intro _ _ _ _ _; first | exact Or.inl rfl | exact Or.inr rfl); (case hs1 => exact rfl); (case hs2 => exact rfl); (case' q => skip)))
local macro_rules | `(tactic| mem_news) => `(tactic| ((with_reducible refine' ql_lct ?h ?hN ?nd ?hl ?hf ?q); (case hN => first | with_reducible assumption | assumption); (case h => infer_instance); (case nd => first | with_reducible assumption | assumption); (case hl => intro _ _ _ _ _; first | exact Or.inl rfl | exact Or.inr rfl); (case hf => intro _ _ _ _ _; first | exact Or.inl rfl | exact Or.inr rfl); (case' q => skip)))
local macro_rules | `(tactic| mod_arm) => `(tactic| ((with_reducible refine' ql_lcl ?h ?hN ?nd ?hl ?hf ?q); (case hN => first | with_reducible assumption | assumption); (case h => infer_instance); (case nd => first | with_reducible assumption | assumption); (case hl => intro _ _ _ _ _; first | exact Or.inl rfl | exact Or.inr rfl); (case hf => intro _ _ _ _ _; first | exact Or.inl rfl | exact Or.inr rfl); (case' q => skip)))
local macro_rules | `(tactic| one_item) => `(tactic| ((with_reducible refine' ws_fort ?hp ?hc ?hfs ?q); (case hp => first | exact PassesOwn.never | assumption); (case hc => exact rfl); (case hfs => intro _; exact rfl); (case' q => skip)))
local macro_rules | `(tactic| one_place) => `(tactic| ((with_reducible refine' ws_forl ?hp ?hc ?hfs ?q); (case hp => first | exact PassesOwn.never | assumption); (case hc => exact rfl); (case hfs => intro _; exact rfl); (case' q => skip)))
local macro_rules | `(tactic| one_sign) => `(tactic| ((with_reducible refine' ql2_seq ?h1 ?h ?h2 ?hij ?hN ?nd ?hl ?hf ?hl1 ?hf1 ?q); (case hN => first | with_reducible assumption | assumption); (case h1 => infer_instance); (case h => infer_instance); (case h2 => intro _; infer_instance); (case hij => decide); (case nd => first | with_reducible assumption | assumption); (case hl => intro _ _ _ _ _; first | exact Or.inl rfl | exact Or.inr rfl); (case hf => intro _ _ _ _ _; first | exact Or.inl rfl | exact Or.inr rfl); (case hl1 => intro _ _ _ _ _; first | exact Or.inl rfl | exact Or.inr rfl); (case hf1 => intro _ _ _ _ _; first | exact Or.inl rfl | exact Or.inr rfl); (case' q => skip)))
local macro_rules | `(tactic| pv_eval) => `(tactic| ((with_reducible refine' ql_st ?hm ?hg ?h ?hN ?nd ?hl ?hf ?hs1 ?q); (case hm => first | with_reducible assumption | assumption); (case hg => exact rfl); (case hN => first | with_reducible assumption | assumption); (case h => infer_instance); (case nd => first | with_reducible assumption | assumption); (case hl => intro _ _ _ _ _; first | exact Or.inl rfl | exact Or.inr rfl); (case hf => intro _ _ _ _ _; first | exact Or.inl rfl | exact Or.inr rfl); (case hs1 => exact rfl); (case' q => skip)))
local macro_rules | `(tactic| by_item) => `(tactic| ((with_reducible refine' ql_mt ?h ?hN ?nd ?hl ?hf ?q); (case hN => first | with_reducible assumption | assumption); (case h => infer_instance); (case nd => first | with_reducible assumption | assumption); (case hl => intro _ _ _ _ _; first | exact Or.inl rfl | exact Or.inr rfl); (case hf => intro _ _ _ _ _; first | exact Or.inl rfl | exact Or.inr rfl); (case' q => skip)))
local macro_rules | `(tactic| by_place) => `(tactic| ((with_reducible refine' ql_ml ?h ?hN ?nd ?hl ?hf ?q); (case hN => first | with_reducible assumption | assumption); (case h => infer_instance); (case nd => first | with_reducible assumption | assumption); (case hl => intro _ _ _ _ _; first | exact Or.inl rfl | exact Or.inr rfl); (case hf => intro _ _ _ _ _; first | exact Or.inl rfl | exact Or.inr rfl); (case' q => skip)))
local macro_rules | `(tactic| by_in) => `(tactic| ((with_reducible refine' ql_mlT ?h ?hN ?nd ?hl ?hf ?q); (case hN => first | with_reducible assumption | assumption); (case h => infer_instance); (case nd => first | with_reducible assumption | assumption); (case hl => intro _ _ _ _ _; first | exact Or.inl rfl | exact Or.inr rfl); (case hf => intro _ _ _ _ _; first | exact Or.inl rfl | exact Or.inr rfl); (case' q => skip)))
local macro_rules | `(tactic| fin_range) => `(tactic| ((with_reducible refine' ql_r1 ?hm ?hg ?h ?hN ?nd ?hl ?hf ?hs1 ?q); (case hm => first | with_reducible assumption | assumption); (case hg => exact rfl); (case hN => first | with_reducible assumption | assumption); (case h => infer_instance); (case nd => first | with_reducible assumption | assumption); (case hl => intro _ _ _ _ _; first | exact Or.inl rfl | exact Or.inr rfl); (case hf => intro _ _ _ _ _; first | exact Or.inl rfl | exact Or.inr rfl); (case hs1 => exact rfl); (case' q => skip)))
local macro_rules | `(tactic| fin_range_step) => `(tactic| ((with_reducible refine' ql_r1T ?hm ?hg ?h ?hN ?nd ?hl ?hf ?hs1 ?q); (case hm => first | with_reducible assumption | assumption); (case hg => exact rfl); (case hN => first | with_reducible assumption | assumption); (case h => infer_instance); (case nd => first | with_reducible assumption | assumption); (case hl => intro _ _ _ _ _; first | exact Or.inl rfl | exact Or.inr rfl); (case hf => intro _ _ _ _ _; first | exact Or.inl rfl | exact Or.inr rfl); (case hs1 => exact rfl); (case' q => skip)))
local macro_rules | `(tactic| fin_item) => `(tactic| ((refine' ql_zip ⟨?h1, ?h, ?h2, ?hij, ?hN, ?nd, ?hc, ?hl, ?hf, ?hl1, ?hf1⟩ ?hm ?hg ?hs ?hs2 ?hpl ?q); (case hN => first | with_reducible assumption | assumption); (case h1 => infer_instance); (case h => infer_instance); (case h2 => intro _; infer_instance); (case hij => decide); (case nd => first | with_reducible assumption | assumption); (case hc => exact rfl); (case hl => intro _ _ _ _ _; first | exact Or.inl rfl | exact Or.inr rfl); (case hf => intro _ _ _ _ _; first | exact Or.inl rfl | exact Or.inr rfl); (case hl1 => intro _ _ _ _ _; first | exact Or.inl rfl | exact Or.inr rfl); (case hf1 => intro _ _ _ _ _; first | exact Or.inl rfl | exact Or.inr rfl); (case hm => first | with_reducible assumption | assumption); (case hg => exact rfl); (case hs => exact rfl); (case hs2 => exact rfl); (case hpl => exact rfl); (case' q => skip)))
local macro_rules | `(tactic| fin_places) => `(tactic| ((refine' ql_enT ⟨?h1, ?h, ?h2, ?hij, ?hN, ?nd, ?hc, ?hl, ?hf, ?hl1, ?hf1⟩ ?hm ?hg ?hs ?q); (case hN => first | with_reducible assumption | assumption); (case h1 => infer_instance); (case h => infer_instance); (case h2 => intro _; infer_instance); (case hij => decide); (case nd => first | with_reducible assumption | assumption); (case hc => exact rfl); (case hl => intro _ _ _ _ _; first | exact Or.inl rfl | exact Or.inr rfl); (case hf => intro _ _ _ _ _; first | exact Or.inl rfl | exact Or.inr rfl); (case hl1 => intro _ _ _ _ _; first | exact Or.inl rfl | exact Or.inr rfl); (case hf1 => intro _ _ _ _ _; first | exact Or.inl rfl | exact Or.inr rfl); (case hm => first | with_reducible assumption | assumption); (case hg => exact rfl); (case hs => exact rfl); (case' q => skip)))
local macro_rules | `(tactic| fin_iter) => `(tactic| ((with_reducible refine' ws_forz ?hp ?hc ?hfs ?hm ?hg ?hs ?hs2 ?hpl ?q); (case hp => first | exact PassesOwn.never | assumption); (case hc => exact rfl); (case hfs => intro _; exact rfl); (case hm => first | with_reducible assumption | assumption); (case hg => exact rfl); (case hs => exact rfl); (case hs2 => exact rfl); (case hpl => exact rfl); (case' q => skip)))
local macro_rules | `(tactic| fin_fold) => `(tactic| ((with_reducible refine' ws_forA ?hp ?hc ?hfs ?q); (case hp => first | exact PassesOwn.never | assumption); (case hc => exact rfl); (case hfs => intro _; exact rfl); (case' q => skip)))
local macro_rules | `(tactic| fin_run) => `(tactic| ((with_reducible refine' we_append ?hbase ?hfew ?hline ?hs ?hs0 ?hpl ?q); (case hbase => exact rfl); (case hfew => exact rfl); (case hline => exact rfl); (case hs => exact rfl); (case hs0 => exact rfl); (case hpl => exact rfl); (case' q => skip)))
/-- the j-th statement of the class at top i -/
def inC (i j : Nat) : Stmt := match top i with
  | .ClassDef _ _ _ body _ _ _ _ _ _ _ => body.getD j (.Pass ⟨0, 0, 0, 0⟩)
  | _ => .Pass ⟨0, 0, 0, 0⟩
section
variable {P : Program} {w : World} {K : PySem.W.Frag} {mg : Str → Option Value} {base : Heap}
theorem scA : FnScope ["value"] ["value"] (defScope (top 7)) := ⟨rfl, rfl, rfl, by decide +kernel, rfl, by decide +kernel, by decide +kernel⟩
theorem scB : FnScope ["a", "b"] ["a", "b"] (defScope (top 8)) := ⟨rfl, rfl, rfl, by decide +kernel, rfl, by decide +kernel, by decide +kernel⟩
theorem scR : FnScope ["self", "reason"] ["self", "reason"] (defScope (inC 4 0)) := ⟨rfl, rfl, rfl, by decide +kernel, rfl, by decide +kernel, by decide +kernel⟩
theorem scI : FnScope ["self", "n", "d", "g"] ["self", "n", "d"] (defScope (inC 11 0)) := ⟨rfl, rfl, rfl, by decide +kernel, rfl, by decide +kernel, by decide +kernel⟩
theorem scC : FnScope ["value"] ["value"] (defScope (top 12)) := ⟨rfl, rfl, rfl, by decide +kernel, rfl, by decide +kernel, by decide +kernel⟩
def spWhole (K : PySem.W.Frag) : Sp := fun vs H Q _ => ∃ v d, vs = [v] ∧ Rp K H v d ∧ d.ty.isSome = true ∧ Q (.bl d.whole) H
theorem ok_is_integer {f : Addr} {fd : FuncData} (F : Fun K "is_integer" "is_integer" (top 7) f fd) (m1 : mg "isinstance" = none) (m2 : mg "int" = none) (m3 : mg "bool" = none) : FnOk P w K mg base CX0 1 f fd ["value"] (spWhole K) := by
  refine okS F scA (fun vs H Q E ⟨_, _, e, _⟩ => by rw [e]; rfl) ?_
  rintro cdv A outer s H _ Q E hr ⟨v, d, rfl, rp, hd, q⟩ hN nd
  change QB _ (_ :: _) _ [some _] _
  kct_strs
  refine ifb (fun e1 => ?_) (fun e1 => ?_)
  · kct_strs
    rw [D.whole_eq, e1] at q
    exact q
  · rw [D.whole_eq, e1] at q
    exact q
theorem gcd_mod (a b : Int) : Int.gcd b (a % b) = Int.gcd a b := by
  rw [Int.emod_def, Int.gcd_sub_mul_left_right, Int.gcd_comm]
def spCommon : Sp := fun vs H Q _ => ∃ a b : Int, vs = [.int a, .int b] ∧ Q (.int (Int.gcd a b)) H
theorem ok_common {f : Addr} {fd : FuncData} (F : Fun K "common" "common" (top 8) f fd) (m1 : mg "abs" = none) : FnOk P w K mg base CX0 1 f fd ["a", "b"] spCommon := by
  refine okS F scB (fun vs H Q E ⟨_, _, e, _⟩ => by rw [e]; rfl) ?_
  rintro cdv A outer s H _ Q E hr ⟨a, b, rfl, q⟩ hN nd
  change QB _ (_ :: _) _ [some _, some _] _
  kct_strs
  refine ws_while (fun σ1 H1 => ∃ a1 b1 : Int, σ1 = [some (.int a1), some (.int b1)] ∧ H = H1 ∧ 0 ≤ a1 ∧ 0 ≤ b1 ∧ Int.gcd a1 b1 = Int.gcd a b) (fun σ1 _ => match σ1 with | [_, some (.int b)] => b.toNat | _ => 0) PassesOwn.never ?_ ?_
  · refine ⟨_, _, rfl, rfl, by split <;> omega, by split <;> omega, ?_⟩
    split <;> split <;> simp [Int.gcd]
  · rintro _ H1 ⟨a1, b1, rfl, rfl, ha1, hb1, hg⟩
    kct_strs
    refine ifd (fun hb => ?_) (fun hb => ?_)
    · kct_strs
      refine opw_mod hb ?_
      kct_strs
      refine ⟨⟨_, _, rfl, rfl, hb1, Int.emod_nonneg _ (by omega), ?_⟩, ?_⟩
      · rw [← hg, gcd_mod]
      · have := Int.emod_lt_of_pos a1 hb
        show (a1 % b1).toNat < b1.toNat
        omega
    · have e : b1 = 0 := by omega
      subst e
      kct_strs
      rw [Int.gcd_zero_right] at hg
      have e : a1 = (Int.gcd a b : Int) := by omega
      rw [e]
      exact q
/-- what the text's classes are: F the base of the errors, M, R the errors, C the ratios -/
structure Cls4 (K : PySem.W.Frag) (mg : Str → Option Value) (Fa M R C : Addr) : Prop where
  gF : mg "Fault" = some (.ref Fa)
  sF : PySem.W.specialIn K (.ref Fa) "__getattribute__" = some (some (.builtin "type.__getattribute__"))
  tF : PySem.W.typeIn K (.ref Fa) = some (.type "type")
  rF : PySem.W.readsIn K Fa (.type "type") = true
  vF : PySem.W.findCls K (.ref Fa) (.type "type") "__init__" = some (.val (.builtin "ValueError.__init__"))
  gM : mg "Malformed" = some (.ref M)
  xM : PySem.W.excIn K M [.type "ValueError", .type "Exception", .type "BaseException", .type "object"] "ValueError.__new__" = true
  kM : PySem.W.keepIn K (.ref M) = true
  bM : PySem.W.subIn K (.ref M) (.type "BaseException") = some true
  tM : PySem.W.typeIn K (.ref M) = some (.type "type")
  gR : mg "Refused" = some (.ref R)
  oR : OexC K R
  nR : PySem.W.findIn K (.ref R) "reason" = some none
  xR : XfC K R
  eMM : PySem.W.exmOne K (.ref M) (.ref M) = some true
  eRM : PySem.W.exmOne K (.ref R) (.ref M) = some false
  eRR : PySem.W.exmOne K (.ref R) (.ref R) = some true
  gC : mg "Ratio" = some (.ref C)
  iC : C8.InsC K C
  pC : PySem.W.selfFirst K C = true
  an : NoAttr K C "n"
  ad : NoAttr K C "d"
  k0 : PySem.W.kitOne K (.type "NoneType") (.ref C) = some false
  k1 : PySem.W.kitOne K (.type "bool") (.ref C) = some false
  k2 : PySem.W.kitOne K (.type "int") (.ref C) = some false
  k3 : PySem.W.kitOne K (.type "str") (.ref C) = some false
  k4 : PySem.W.kitOne K (.type "tuple") (.ref C) = some false
  nR2 : R ≠ M
theorem ok_refused {f Fa M R C : Addr} {fd : FuncData} (F : Fun K "__init__" "Refused.__init__" (inC 4 0) f fd) (T : Cls4 K mg Fa M R C) : FnOk P w K mg base CX0 1 f fd ["self", "reason"] (spErr R "reason") := by
  refine okS F scR (fun vs H Q E ⟨_, _, e, _⟩ => by rw [e]; rfl) ?_
  rintro cdv A outer s H _ Q E hr ⟨a, v, rfl, ha, q⟩ hN nd
  change QB _ (_ :: _) _ [some _, some _] _
  refine wss_cons ?_
  refine ws_expr rfl ?_
  refine we_clsinit rfl T.gF T.sF T.tF T.rF T.vF ?_ rfl rfl rfl (by decide)
  kct_strs
  refine ⟨a, R, [v], rfl, by simp, T.oR, ha, ?_⟩
  refine wss_one ?_
  refine ws_ost rfl T.oR T.nR ?_
  kct_strs
  exact ⟨ha, q⟩
/-- the ratio of n and d in lowest terms -/
def rp (n d : Int) : Int := if 0 < d then n / (Int.gcd n d : Int) else (-n) / (Int.gcd n d : Int)
def rq (n d : Int) : Int := (if d < 0 then -d else d) / (Int.gcd n d : Int)
def spInit (M R C : Addr) : Sp := fun vs H Q E => ∃ (a dx : Addr) (x y : V) (d1 d2 : D), vs = [.ref a, x, y] ∧ H a = some (.ins C dx []) ∧ Rp K H x d1 ∧ Rp K H y d2 ∧ d1.ty.isSome = true ∧ d2.ty.isSome = true ∧ (∀ j, d2 = .int j → j.natAbs < 1073741824) ∧
  ((d1.whole && d2.whole) = false → E (.ref M) none H) ∧ (∀ n, d1 = .int n → d2 = .int 0 → ∀ d H', H d = none → Same H H' → H' d = some (.xd [("reason", .str "zero")]) → E (.ref R) (some d) H') ∧
  (∀ n m, d1 = .int n → d2 = .int m → m ≠ 0 → ∀ H', (∀ b o, b ≠ a → H b = some o → H' b = some o) → H' a = some (.ins C dx [("n", .int (rp n m)), ("d", .int (rq n m))]) → Q .non H')
theorem ok_ratio {f fR Fa M R C : Addr} {fd fdR : FuncData} (F : FunD K "__init__" "Ratio.__init__" (defArgs (inC 11 0)) (defBody (inC 11 0)) (defScope (inC 11 0)) [.int 1] [] f fd) (T : Cls4 K mg Fa M R C) (c1 : Cal P w K mg base 1 "is_integer" (spWhole K) []) (c2 : Cal P w K mg base 1 "common" spCommon [])
    (FR : FnOk P w K mg base CX0 1 fR fdR ["self", "reason"] (spErr R "reason")) (iR : PySem.W.findIn K (.ref R) "__init__" = some (some (.ref fR))) (tR : PySem.W.typeIn K (.ref fR) = some (.type "function")) (bR : Binds K fdR ["self", "reason"] []) (m1 : mg "abs" = none) :
    FnOk P w K mg base (L2.CX P w) 3 f fd ["self", "n", "d"] (spInit (K := K) M R C) := by
  refine okXD F scI (fun vs H Q E ⟨_, _, _, _, _, _, e, _⟩ => by rw [e]; rfl) ?_
  rintro cdv A outer s H _ Q E hr ⟨a, dx, x, y, d1, d2, rfl, ha, r1, r2, t1, t2, hs, qM, qR, q⟩ hN nd tk
  change QB _ (_ :: _) _ [some _, some _, some _, none] _
  kct_strs
  refine ⟨_, _, rfl, r1, t1, ?_⟩
  kct_strs
  have bad : ∀ {E1 : Ends} {σ1 : Sl}, (d1.whole && d2.whole) = false → QS (cxOf (L2.CX P w) P w K mg base ["self", "n", "d", "g"] "Ratio.__init__" (defScope (inC 11 0)) f cdv A outer s H E) (.Raise (some (.Call (.Name "Malformed" ⟨33, 18, 33, 27⟩) [.Constant (.str "a number") 0 ⟨33, 28, 33, 38⟩] [] ⟨33, 18, 33, 39⟩)) none ⟨33, 12, 33, 39⟩) E1 σ1 H :=
    fun {E1 σ1} e => ws_raise rfl tk PySem.F.excBase_ValueError T.xM T.gM T.kM (raises_own T.bM T.tM) rfl (qM e)
  refine ifnb (fun e1 => ?_) (fun e1 => ?_)
  · rw [if_pos rfl]
    kct_strs
    exact bad (by rw [e1]; rfl)
  kct_strs
  refine ⟨_, _, rfl, r2, t2, ?_⟩
  kct_strs
  refine ifnb (fun e2 => ?_) (fun e2 => ?_)
  · kct_strs
    exact bad (by rw [e2, Bool.and_false])
  obtain ⟨n, rfl⟩ : ∃ n, d1 = .int n := by
    cases d1 <;> first | exact ⟨_, rfl⟩ | cases e1
  obtain ⟨m, rfl⟩ : ∃ n, d2 = .int n := by
    cases d2 <;> first | exact ⟨_, rfl⟩ | cases e2
  cases r1
  cases r2
  have hm := hs m rfl
  kct_strs
  refine ifd (fun e3 => ?_) (fun e3 => ?_)
  · subst e3
    kct_strs
    exact ws_raiseR rfl tk T.oR iR tR FR hr (by decide) bR rfl T.gR (qR n rfl rfl) (by decide) rfl rfl
  kct_strs
  refine ⟨_, _, rfl, ?_⟩
  have hg : 0 < Int.gcd n m := Nat.pos_of_ne_zero fun e => e3 (Int.gcd_eq_zero_iff.mp e).2
  have hg2 : Int.gcd n m ≤ m.natAbs := Nat.le_of_dvd (by omega) (Nat.gcd_dvd_right _ _)
  have fin : ∀ p q' : Int, p = rp n m → q' = rq n m → Q .non (upd (upd H a (.ins C dx (putF "n" (.int p) []))) a (.ins C dx (putF "d" (.int q') (putF "n" (.int p) [])))) := by
    rintro p q' rfl rfl
    refine q n m rfl rfl e3 _ (fun b o hb e => by rw [upd_ne hb, upd_ne hb]; exact e) upd_same
  kct_strs
  refine ifd (fun e4 => ?_) (fun e4 => ?_)
  · kct_strs
    refine opw_div ⟨by omega, by omega⟩ ?_
    kct_strs
    refine ⟨a, C, dx, [], rfl, ha, T.iC.cl, T.an, by decide, ?_⟩
    kct_strs
    refine opw_div ⟨by omega, by omega⟩ ?_
    kct_strs
    refine ⟨a, C, dx, _, rfl, upd_same, T.iC.cl, T.ad, by simp [putF], ?_⟩
    exact fin _ _ (by unfold rp; rw [if_pos e4]) rfl
  · kct_strs
    refine opw_div ⟨by omega, by omega⟩ ?_
    kct_strs
    refine ⟨a, C, dx, [], rfl, ha, T.iC.cl, T.an, by decide, ?_⟩
    kct_strs
    refine opw_div ⟨by omega, by omega⟩ ?_
    kct_strs
    refine ⟨a, C, dx, _, rfl, upd_same, T.iC.cl, T.ad, by simp [putF], ?_⟩
    exact fin _ _ (by unfold rp; rw [if_neg e4]) rfl
/-- an instance that stands for p / q -/
def Rt (C : Addr) (H : Hp) (a : Addr) (p q : Int) : Prop := ∃ dx, H a = some (.ins C dx [("n", .int p), ("d", .int q)])
theorem Rt.to {C : Addr} {H H' : Hp} {a : Addr} {p q : Int} (h : Rt C H a p q) (s : Same H H') : Rt C H' a p q := by
  obtain ⟨dx, e⟩ := h
  exact ⟨dx, s _ _ e⟩
theorem init_use {C M R x dx : Addr} {H H2 : Hp} {N D : Int} {Q : VK} {E : XK} (hx0 : H x = none) (s : Same H H2) (hx : H2 x = some (.ins C dx [])) (hD : D.natAbs < 1073741824)
    (hz : D = 0 → ∀ d H', H2 d = none → Same H2 H' → H' d = some (.xd [("reason", .str "zero")]) → E (.ref R) (some d) H') (q : D ≠ 0 → ∀ H', Same H H' → Rt C H' x (rp N D) (rq N D) → Q (.ref x) H') :
    spInit (K := K) M R C [.ref x, .int N, .int D] H2 (fun v H3 => v = .non ∧ Q (.ref x) H3) E := by
  refine ⟨x, dx, .int N, .int D, .int N, .int D, rfl, hx, .int _, .int _, rfl, rfl, (fun j e => by cases e; exact hD), (fun e => by cases e), fun n _ e => ?_, fun n m e1 e2 hm H' k1 k2 => ⟨rfl, ?_⟩⟩
  · injection e with e
    exact hz e
  · cases e1
    cases e2
    exact q hm H' (fun b o hb => k1 b o (ne_of_none hb hx0) (s b o hb)) ⟨dx, k2⟩
def spChk (K : PySem.W.Frag) (M C : Addr) : Sp := fun vs H Q E => ∃ v, vs = [v] ∧ ((∃ b p q, v = .ref b ∧ Rt C H b p q ∧ Q .non H) ∨ (∃ d n, Rp K H v d ∧ d.ty = some n ∧ n ≠ "list" ∧ E (.ref M) none H))
theorem isi_data {X : Cx} {Fa M R C : Addr} {H : Hp} {Q : VK} {v : V} {d : D} {n : String} (T : Cls4 X.K mg Fa M R C) (h : Rp X.K H v d) (e : d.ty = some n) (hn : n ≠ "list") (q : Q (.bl false) H) : CallW X (.builtin "isinstance") [v, .ref C] H Q := by
  have e' := e
  cases d <;> simp only [D.ty, Option.some.injEq, reduceCtorEq] at e
  · exact isi_not h e' (e ▸ T.k0) q
  · exact isi_not h e' (e ▸ T.k1) q
  · exact isi_not h e' (e ▸ T.k2) q
  · exact isi_not h e' (e ▸ T.k3) q
  · exact isi_not h e' (e ▸ T.k4) q
  · exact absurd e.symm hn
theorem ok_check {f Fa M R C : Addr} {fd : FuncData} (F : Fun K "check_ratio" "check_ratio" (top 12) f fd) (T : Cls4 K mg Fa M R C) (m1 : mg "isinstance" = none) : FnOk P w K mg base (L2.CX P w) 1 f fd ["value"] (spChk K M C) := by
  refine okXS F scC (fun vs H Q E ⟨_, e, _⟩ => by rw [e]; rfl) ?_
  rintro cdv A outer s H _ Q E hr ⟨v, rfl, h⟩ hN nd tk
  have gC := T.gC
  change QB _ (_ :: _) _ [some _] _
  kct_strs
  rcases h with ⟨b, p, q, rfl, ⟨dx, hb⟩, z⟩ | ⟨d, n, r, e, hn, z⟩
  · refine isi_own T.iC hb ?_
    kct_strs
    rw [if_neg (by decide)]
    kct_strs
    exact z
  · refine isi_data (mg := mg) T r e hn ?_
    kct_strs
    rw [if_pos (by decide)]
    kct_strs
    exact ws_raise rfl tk PySem.F.excBase_ValueError T.xM T.gM T.kM (raises_own T.bM T.tM) rfl z
/-- an operator of two ratios, the second small; N, D: what is made; another thing is refused -/
def spOp (K : PySem.W.Frag) (M R C : Addr) (N D : Int → Int → Int → Int → Int) : Sp := fun vs H Q E => ∃ (a : Addr) (y : V) (p q : Int), vs = [.ref a, y] ∧ Rt C H a p q ∧ q.natAbs < 16384 ∧
  ((∃ b p' q', y = .ref b ∧ Rt C H b p' q' ∧ p'.natAbs < 16384 ∧ q'.natAbs < 16384 ∧ (D p q p' q' ≠ 0 → ∀ c H', Same H H' → Rt C H' c (rp (N p q p' q') (D p q p' q')) (rq (N p q p' q') (D p q p' q')) → Q (.ref c) H') ∧
      (D p q p' q' = 0 → ∀ d H', Same H H' → H' d = some (.xd [("reason", .str "zero")]) → E (.ref R) (some d) H')) ∨
   (∃ d n, Rp K H y d ∧ d.ty = some n ∧ n ≠ "list" ∧ E (.ref M) none H))
theorem small_mul {a b : Int} (h1 : a.natAbs < 16384) (h2 : b.natAbs < 16384) : (a * b).natAbs < 1073741824 := by
  rw [Int.natAbs_mul]
  have := Nat.mul_le_mul (Nat.le_of_lt h1) (Nat.le_of_lt h2)
  omega
theorem scM1 : FnScope ["self", "other"] ["self", "other"] (defScope (inC 11 1)) := ⟨rfl, rfl, rfl, by decide +kernel, rfl, by decide +kernel, by decide +kernel⟩
theorem ok_add {f Fa M R C : Addr} {fd : FuncData} (F : Fun K "__add__" "Ratio.__add__" (inC 11 1) f fd) (T : Cls4 K mg Fa M R C) (X1 : CalX P w K mg base 1 "check_ratio" (spChk K M C) []) (m1 : MakX P w K mg base (L2.CX P w) 3 "Ratio" C (spInit (K := K) M R C)) : FnOk P w K mg base (L2.CX P w) 5 f fd ["self", "other"] (spOp K M R C (fun p q p' q' => p * q' + p' * q) (fun p q p' q' => q * q')) := by
  refine okXS F scM1 (fun vs H Q E ⟨_, _, _, _, e, _⟩ => by rw [e]; rfl) ?_
  rintro cdv A outer s H _ Q E hr ⟨a, y, p, q, rfl, ⟨dx, ha⟩, hq, h⟩ hN nd tk
  change QB _ (_ :: _ :: []) _ [some _, some _] _
  kct_strs
  rcases h with ⟨b, p', q', rfl, ⟨dy, hb⟩, hp', hq', z, zz⟩ | ⟨d, n, r, e, hn, z⟩
  · refine ⟨_, rfl, .inl ⟨b, p', q', rfl, ⟨dy, hb⟩, ?_⟩⟩
    kct_strs
    refine fldw_raw T.iC.cl T.an ha rfl ?_
    kct_strs
    refine fldw_raw T.iC.cl T.ad hb rfl ?_
    kct_strs
    refine opw_mul (.inr (by omega)) ?_
    kct_strs
    refine fldw_raw T.iC.cl T.an hb rfl ?_
    kct_strs
    refine fldw_raw T.iC.cl T.ad ha rfl ?_
    kct_strs
    refine opw_mul (.inl (by omega)) ?_
    kct_strs
    refine fldw_raw T.iC.cl T.ad ha rfl ?_
    kct_strs
    refine fldw_raw T.iC.cl T.ad hb rfl ?_
    kct_strs
    refine opw_mul (.inl (by omega)) ?_
    kct_strs
    intro x dx2 H2 hx0 s2 hx hdx hne
    refine init_use hx0 s2 hx (small_mul hq hq') (fun e d H' hd sd ed σ => zz e d H' (s2.trans sd) ed) (fun e H' s' r => z e x H' s' r)
  · exact ⟨_, rfl, .inr ⟨d, n, r, e, hn, fun σ => z⟩⟩
theorem scM3 : FnScope ["self", "other"] ["self", "other"] (defScope (inC 11 3)) := ⟨rfl, rfl, rfl, by decide +kernel, rfl, by decide +kernel, by decide +kernel⟩
theorem ok_mul {f Fa M R C : Addr} {fd : FuncData} (F : Fun K "__mul__" "Ratio.__mul__" (inC 11 3) f fd) (T : Cls4 K mg Fa M R C) (X1 : CalX P w K mg base 1 "check_ratio" (spChk K M C) []) (m1 : MakX P w K mg base (L2.CX P w) 3 "Ratio" C (spInit (K := K) M R C)) : FnOk P w K mg base (L2.CX P w) 5 f fd ["self", "other"] (spOp K M R C (fun p q p' q' => p * p') (fun p q p' q' => q * q')) := by
  refine okXS F scM3 (fun vs H Q E ⟨_, _, _, _, e, _⟩ => by rw [e]; rfl) ?_
  rintro cdv A outer s H _ Q E hr ⟨a, y, p, q, rfl, ⟨dx, ha⟩, hq, h⟩ hN nd tk
  change QB _ (_ :: _ :: []) _ [some _, some _] _
  kct_strs
  rcases h with ⟨b, p', q', rfl, ⟨dy, hb⟩, hp', hq', z, zz⟩ | ⟨d, n, r, e, hn, z⟩
  · refine ⟨_, rfl, .inl ⟨b, p', q', rfl, ⟨dy, hb⟩, ?_⟩⟩
    kct_strs
    refine fldw_raw T.iC.cl T.an ha rfl ?_
    kct_strs
    refine fldw_raw T.iC.cl T.an hb rfl ?_
    kct_strs
    refine opw_mul (.inr (by omega)) ?_
    kct_strs
    refine fldw_raw T.iC.cl T.ad ha rfl ?_
    kct_strs
    refine fldw_raw T.iC.cl T.ad hb rfl ?_
    kct_strs
    refine opw_mul (.inl (by omega)) ?_
    kct_strs
    intro x dx2 H2 hx0 s2 hx hdx hne
    refine init_use hx0 s2 hx (small_mul hq hq') (fun e d H' hd sd ed σ => zz e d H' (s2.trans sd) ed) (fun e H' s' r => z e x H' s' r)
  · exact ⟨_, rfl, .inr ⟨d, n, r, e, hn, fun σ => z⟩⟩
/-- a ratio made of one: N what its number becomes -/
def spUn (C : Addr) (N : Int → Int) : Sp := fun vs H Q _ => ∃ (a : Addr) (p q : Int), vs = [.ref a] ∧ Rt C H a p q ∧ q.natAbs < 16384 ∧ q ≠ 0 ∧ ∀ c H', Same H H' → Rt C H' c (rp (N p) q) (rq (N p) q) → Q (.ref c) H'
theorem scM4 : FnScope ["self"] ["self"] (defScope (inC 11 4)) := ⟨rfl, rfl, rfl, by decide +kernel, rfl, by decide +kernel, by decide +kernel⟩
theorem ok_neg {f Fa M R C : Addr} {fd : FuncData} (F : Fun K "__neg__" "Ratio.__neg__" (inC 11 4) f fd) (T : Cls4 K mg Fa M R C) (m1 : MakX P w K mg base (L2.CX P w) 3 "Ratio" C (spInit (K := K) M R C))  : FnOk P w K mg base (L2.CX P w) 5 f fd ["self"] (spUn C fun p => -p) := by
  refine okXS F scM4 (fun vs H Q E ⟨_, _, _, e, _⟩ => by rw [e]; rfl) ?_
  rintro cdv A outer s H _ Q E hr ⟨a, p, q, rfl, ⟨dx, ha⟩, hq, hq0, z⟩ hN nd tk
  change QB _ (_ :: []) _ [some _] _
  kct_strs
  refine fldw_raw T.iC.cl T.an ha rfl ?_
  kct_strs
  refine fldw_raw T.iC.cl T.ad ha rfl ?_
  kct_strs
  intro x dx2 H2 hx0 s2 hx hdx hne
  exact init_use hx0 s2 hx (by omega) (fun e => absurd e hq0) (fun e H' s' r => z x H' s' r)
theorem scM5 : FnScope ["self", "other"] ["self", "other"] (defScope (inC 11 5)) := ⟨rfl, rfl, rfl, by decide +kernel, rfl, by decide +kernel, by decide +kernel⟩
def spEqR (K : PySem.W.Frag) (C : Addr) : Sp := fun vs H Q _ => ∃ (a : Addr) (y : V) (p q : Int), vs = [.ref a, y] ∧ Rt C H a p q ∧ ((∃ b p' q', y = .ref b ∧ Rt C H b p' q' ∧ ∀ c : Bool, (c = true ↔ p = p' ∧ q = q') → Q (.bl c) H) ∨ (∃ d n, Rp K H y d ∧ d.ty = some n ∧ n ≠ "list" ∧ Q (.bl false) H))
theorem ok_eq {f Fa M R C : Addr} {fd : FuncData} (F : Fun K "__eq__" "Ratio.__eq__" (inC 11 5) f fd) (T : Cls4 K mg Fa M R C) (m1 : mg "isinstance" = none) : FnOk P w K mg base CX0 1 f fd ["self", "other"] (spEqR K C) := by
  refine okS F scM5 (fun vs H Q E ⟨_, _, _, _, e, _⟩ => by rw [e]; rfl) ?_
  rintro cdv A outer s H _ Q E hr ⟨a, y, p, q, rfl, ⟨dx, ha⟩, h⟩ hN nd
  have gC := T.gC
  change QB _ (_ :: []) _ [some _, some _] _
  kct_strs
  rcases h with ⟨b, p', q', rfl, ⟨dy, hb⟩, z⟩ | ⟨d, n, r, e, hn, z⟩
  · refine isi_own T.iC hb ?_
    kct_strs
    rw [if_pos rfl]
    kct_strs
    refine fldw_raw T.iC.cl T.an ha rfl ?_
    kct_strs
    refine fldw_raw T.iC.cl T.an hb rfl ?_
    kct_strs
    refine ifd (fun e1 => ?_) (fun e1 => ?_)
    · kct_strs
      refine fldw_raw T.iC.cl T.ad ha rfl ?_
      kct_strs
      refine fldw_raw T.iC.cl T.ad hb rfl ?_
      kct_strs
      exact z _ (by simp [e1])
    · exact z _ (by simp [e1])
  · refine isi_data (mg := mg) T r e hn ?_
    kct_strs
    rw [if_neg (by decide)]
    exact z
/-- what a ratio answers of itself -/
def spAns (C : Addr) (f : Int → Int → V) : Sp := fun vs H Q _ => ∃ (a : Addr) (p q : Int), vs = [.ref a] ∧ Rt C H a p q ∧ (0 < q ∧ q < 16384 ∧ p.natAbs.log2 < 1900) ∧ Q (f p q) H
/-- how a ratio is written -/
def told (p q : Int) : Str := if q = 1 then toString p else (toString p : Str) ++ ("/" ++ (toString q : Str))
theorem sc19 : FnScope ["script", "seed", "total", "cell"] ["script"] (defScope (top 22)) := ⟨rfl, rfl, rfl, by decide +kernel, rfl, by decide +kernel, by decide +kernel⟩
theorem sc20 : FnScope ["state", "m", "value"] ["state", "m"] (defScope (top 23)) := ⟨rfl, rfl, rfl, by decide +kernel, rfl, by decide +kernel, by decide +kernel⟩
theorem sc21 : FnScope ["value", "due"] ["value", "due"] (defScope (top 24)) := ⟨rfl, rfl, rfl, by decide +kernel, rfl, by decide +kernel, by decide +kernel⟩
theorem sc22 : FnScope ["value"] ["value"] (defScope (top 25)) := ⟨rfl, rfl, rfl, by decide +kernel, rfl, by decide +kernel, by decide +kernel⟩
theorem sc24 : FnScope ["a", "b"] ["a", "b"] (defScope (top 27)) := ⟨rfl, rfl, rfl, by decide +kernel, rfl, by decide +kernel, by decide +kernel⟩
theorem fmod_lt (a b : Int) (h : b ≠ 0) : (a.fmod b).natAbs < b.natAbs := by
  rw [Int.fmod_eq_emod]
  have h1 := Int.emod_nonneg a h
  have h2 := Int.emod_lt a h

  by_cases hc : 0 ≤ b ∨ b ∣ a
  · rw [if_pos hc]
    omega
  · rw [if_neg hc]
    have h3 : a % b ≠ 0 := fun e => hc (.inr (Int.dvd_of_emod_eq_zero e))
    have : b < 0 := by
      apply Int.not_le.mp
      intro e
      exact hc (.inl e)
    omega
def spState (K : PySem.W.Frag) : Sp := fun vs H Q _ => ∃ (v : V) (ns : List Int), vs = [v] ∧ Rp K H v (.lst (ns.map .int)) ∧ ns.length ≤ 63 ∧ ∀ (s t : Int) (p : Addr) (H' : Hp), Same H H' → H' p = some (.lst [.int s, .int t]) → Q (.ref p) H'
theorem ok_law_state {f : Addr} {fd : FuncData} (F : Fun K "_law_state" "_law_state" (top 22) f fd) (m1 : mg "abs" = none) (m2 : mg "int" = none) : FnOk P w K mg base CX0 1 f fd ["script"] (spState K) := by
  refine okS F sc19 (fun vs H Q E ⟨_, _, e, _⟩ => by rw [e]; rfl) ?_
  rintro cdv A outer s H _ Q E hr ⟨v, ns, rfl, rp, hl, q⟩ hN nd
  change QB _ (_ :: _) _ [some _, none, none, none] _
  kct_strs
  one_place
  refine we_sliceHi ?_
  kct_strs
  obtain ⟨a, xs, rfl, h1, h2⟩ := rp.lst_inv
  have hx : xs.length ≤ 63 := by rw [h2.len, List.length_map]; exact hl
  refine ⟨_, _, _, rfl, rfl, h1, fun p H1 hp s1 e1 => ?_⟩
  rw [show (63 : Int) = ((63 : Nat) : Int) from rfl, cut_all hx] at e1
  refine ⟨ns.map .int, .lstOf e1 (h2.to s1), fun k σ H' => ∃ (x y : Int) (z : Option V), Same H1 H' ∧ σ = [some (.ref a), some (.int x), some (.int y), z], ⟨_, _, _, Same.refl _, rfl⟩, fun k σ H' ⟨_, _, _, s, _⟩ => s, ?_, ?_⟩
  · rintro k d u σ1 H2 hd ⟨x, y, z, s2, rfl⟩ r
    rw [List.getElem?_map] at hd
    cases hk : ns[k]? with
    | none => rw [hk] at hd; cases hd
    | some n =>
      rw [hk] at hd
      cases hd
      cases r
      show QG _ _ _ _ _ _
      kct_strs
      refine opw_mul (.inr (by omega)) ?_
      kct_strs
      refine opw_mul (.inr (by omega)) ?_
      kct_strs
      refine opw_mod (by omega) ?_
      kct_strs
      exact ⟨_, _, _, s2, rfl⟩
  · rintro σ1 H2 ⟨x, y, z, s2, rfl⟩
    kct_strs
    refine ifn (fun _ => ?_) (fun _ => ?_)
    · kct_strs
      refine ⟨Nat.le_of_ble_eq_true rfl, fun p3 H3 hp3 s3 e3 => ?_⟩
      exact q _ _ p3 H3 ((s1.trans s2).trans s3) e3
    · kct_strs
      refine ⟨Nat.le_of_ble_eq_true rfl, fun p3 H3 hp3 s3 e3 => ?_⟩
      exact q _ _ p3 H3 ((s1.trans s2).trans s3) e3
theorem ok_law_take {f : Addr} {fd : FuncData} (F : Fun K "_law_take" "_law_take" (top 23) f fd) (m2 : mg "int" = none) : FnOk P w K mg base CX0 1 f fd ["state", "m"] spTake := by
  refine okS F sc20 (fun vs H Q E ⟨_, _, e, _⟩ => by rw [e]; rfl) ?_
  rintro cdv A outer s H _ Q E hr ⟨a, m, rfl, hm, ⟨s0, t0, e0⟩, q⟩ hN nd
  change QB _ (_ :: _) _ [some _, some _, none] _
  have u1 : ∀ x : Int, (upd H a (.lst [.int x, .int t0])) a = some (.lst [.int x, .int t0]) := fun x => upd_same
  kct_strs
  refine ixw_sl (.inl (.inl e0)) rfl ?_
  kct_strs
  refine ifd (fun h0 => ?_) (fun h0 => ?_)
  · kct_strs
    refine ixw_sl (.inl (.inl e0)) rfl ?_
    kct_strs
    refine opw_mod (by omega) ?_
    kct_strs
    refine ixw_sl (.inl (.inl e0)) rfl ?_
    kct_strs
    refine opw_div (by exact hm) ?_
    kct_strs
    refine setw_lst e0 rfl ?_
    kct_strs
    refine q _ _ (Int.emod_nonneg _ (by omega)) (Int.emod_lt_of_pos _ (by omega)) ⟨fun b o n e => by rw [upd_ne n]; exact e, _, _, upd_same⟩
  · kct_strs
    refine ixw_sl (.inl (.inl e0)) rfl ?_
    kct_strs
    refine opw_mul (.inr (by omega)) ?_
    kct_strs
    refine opw_mod (by omega) ?_
    kct_strs
    refine setw_lst e0 rfl ?_
    kct_strs
    refine ixw_sl (.inl (.inl upd_same)) rfl ?_
    kct_strs
    refine opw_div ⟨by omega, by omega⟩ ?_
    kct_strs
    refine opw_mod (by omega) ?_
    kct_strs
    refine q _ _ (Int.emod_nonneg _ (by omega)) (Int.emod_lt_of_pos _ (by omega)) ⟨fun b o n e => by rw [upd_ne n]; exact e, _, _, upd_same⟩
def spSays : Sp := fun vs H Q _ => ∃ b c : Bool, vs = [.bl b, .bl c] ∧ Q (.bl (decide (b = c))) H
theorem ok_law_says {f : Addr} {fd : FuncData} (F : Fun K "_law_says" "_law_says" (top 24) f fd) (m1 : mg "isinstance" = none) (m2 : mg "bool" = none) : FnOk P w K mg base CX0 1 f fd ["value", "due"] spSays := by
  refine okS F sc21 (fun vs H Q E ⟨_, _, e, _⟩ => by rw [e]; rfl) ?_
  rintro cdv A outer s H _ Q E hr ⟨b, c, rfl, q⟩ hN nd
  change QB _ (_ :: _) _ [some _, some _] _
  have rp : Rp K H (.bl b) (.bl b) := .bl b
  kct_strs
  refine ifb (fun _ => ?_) (fun e => by cases e)
  kct_strs
  exact q
theorem ok_law_is_whole {f : Addr} {fd : FuncData} (F : Fun K "_law_is_whole" "_law_is_whole" (top 25) f fd) (m1 : mg "isinstance" = none) (m2 : mg "int" = none) (m3 : mg "bool" = none) : FnOk P w K mg base CX0 1 f fd ["value"] (spWhole K) := by
  refine okS F sc22 (fun vs H Q E ⟨_, _, e, _⟩ => by rw [e]; rfl) ?_
  rintro cdv A outer s H _ Q E hr ⟨v, d, rfl, rp, hd, q⟩ hN nd
  change QB _ (_ :: _) _ [some _] _
  kct_strs
  refine ifb (fun e1 => ?_) (fun e1 => ?_)
  · kct_strs
    rw [D.whole_eq, e1] at q
    exact q
  · rw [D.whole_eq, e1] at q
    exact q
theorem ok_law_common {f : Addr} {fd : FuncData} (F : Fun K "_law_common" "_law_common" (top 27) f fd) (m1 : mg "abs" = none) (m2 : mg "int" = none) : FnOk P w K mg base CX0 1 f fd ["a", "b"] spCommon := by
  refine okS F sc24 (fun vs H Q E ⟨_, _, e, _⟩ => by rw [e]; rfl) ?_
  rintro cdv A outer s H _ Q E hr ⟨a, b, rfl, q⟩ hN nd
  change QB _ (_ :: _) _ [some _, some _] _
  kct_strs
  refine ws_while (fun σ1 H1 => ∃ a1 b1 : Int, σ1 = [some (.int a1), some (.int b1)] ∧ H = H1 ∧ Int.gcd a1 b1 = Int.gcd a b) (fun σ1 _ => match σ1 with | [_, some (.int b)] => b.natAbs | _ => 0) PassesOwn.never ?_ ?_
  · exact ⟨_, _, rfl, rfl, rfl⟩
  · rintro _ H1 ⟨a1, b1, rfl, rfl, hg⟩
    kct_strs
    refine ifn (fun hb => ?_) (fun hb => ?_)
    · kct_strs
      refine opw_modN hb ?_
      kct_strs
      refine ⟨⟨_, _, rfl, rfl, ?_⟩, ?_⟩
      · rw [← hg, Int.fmod_def, Int.gcd_sub_mul_left_right, Int.gcd_comm]
      · exact fmod_lt a1 b1 hb
    · subst hb
      kct_strs
      rw [Int.gcd_zero_right] at hg
      rw [← hg] at q
      rw [show (if a1 < 0 then -a1 else a1) = (a1.natAbs : Int) by split <;> omega]
      exact q
theorem scT : FnScope ["self"] ["self"] (defScope (inC 11 7)) := ⟨rfl, rfl, rfl, by decide +kernel, rfl, by decide +kernel, by decide +kernel⟩
theorem int_len {i : Int} {k : Nat} (hk : 0 < k) (h : i.natAbs.log2 < k) : (toString i : Str).length ≤ k + 1 := by
  have := PySem.int_text_length_le hk h
  show (PySem.Str.ofString (toString i)).length ≤ k + 1
  rw [PySem.ofString_length]
  exact this
theorem ok_str {f Fa M R C : Addr} {fd : FuncData} (F : Fun K "__str__" "Ratio.__str__" (inC 11 7) f fd) (T : Cls4 K mg Fa M R C) (m1 : mg "str" = none) : FnOk P w K mg base CX0 1 f fd ["self"] (spAns C fun p q => .str (told p q)) := by
  refine okS F scT (fun vs H Q E ⟨_, _, _, e, _⟩ => by rw [e]; rfl) ?_
  rintro cdv A outer s H _ Q E hr ⟨a, p, q, rfl, ⟨dx, ha⟩, hq, z⟩ hN nd
  change QB _ (_ :: _) _ [some _] _
  dsimp only [told] at z
  have h1 := int_len (i := p) (k := 1900) (by omega) hq.2.2
  have hl : q.natAbs.log2 < 14 := (Nat.log2_lt (by omega)).mpr (show q.natAbs < 2 ^ 14 by omega)
  have h2 := int_len (i := q) (k := 14) (by omega) hl
  kct_strs
  refine fldw_raw T.iC.cl T.ad ha rfl ?_
  kct_strs
  refine ifd (fun e => ?_) (fun e => ?_)
  · kct_strs
    refine fldw_raw T.iC.cl T.an ha rfl ?_
    kct_strs
    refine callw_strI (by omega) ?_
    rw [if_pos e] at z
    exact z
  · kct_strs
    refine we_joined3 ?_
    refine we_fmt ?_
    have hz : (4000 : Nat) < sizeLine := by decide
    kct_strs
    refine fldw_raw T.iC.cl T.an ha rfl ?_
    kct_strs
    refine ⟨by omega, _, rfl, by omega, ?_⟩
    kct_strs
    refine ⟨by rw [show (("/" : Str)).length = 1 from rfl]; omega, ?_⟩
    refine we_fmt ?_
    kct_strs
    refine fldw_raw T.iC.cl T.ad ha rfl ?_
    kct_strs
    refine ⟨by omega, _, rfl, by rw [show (("/" : Str)).length = 1 from rfl]; omega, ?_⟩
    rw [if_neg e] at z
    exact z
end
/-- a ratio is in lowest terms, and stands for n / d -/
theorem rat_facts (n d : Int) (hd : d ≠ 0) : 0 < rq n d ∧ Int.gcd (rp n d) (rq n d) = 1 ∧ rp n d * d = n * rq n d ∧ (rq n d).natAbs ≤ d.natAbs := by
  have hg : 0 < Int.gcd n d := Nat.pos_of_ne_zero fun e => hd (Int.gcd_eq_zero_iff.mp e).2
  obtain ⟨n', hn⟩ := Int.gcd_dvd_left n d
  obtain ⟨d', hd'⟩ := Int.gcd_dvd_right n d
  generalize hG : Int.gcd n d = g at *
  have hg' : (g : Int) ≠ 0 := by omega
  have h1 : Int.gcd n' d' = 1 := by
    have : Int.gcd ((g : Int) * n') ((g : Int) * d') = g := by rw [← hn, ← hd']; exact hG
    rw [Int.gcd_mul_left, Int.natAbs_natCast] at this
    exact Nat.eq_of_mul_eq_mul_left hg (by omega)
  have q1 : n / (g : Int) = n' := by rw [hn]; exact Int.mul_ediv_cancel_left _ hg'
  have q2 : d / (g : Int) = d' := by rw [hd']; exact Int.mul_ediv_cancel_left _ hg'
  have q3 : (-n) / (g : Int) = -n' := by rw [hn, ← Int.mul_neg]; exact Int.mul_ediv_cancel_left _ hg'
  have q4 : (-d) / (g : Int) = -d' := by rw [hd', ← Int.mul_neg]; exact Int.mul_ediv_cancel_left _ hg'
  have le : d'.natAbs ≤ d.natAbs := by
    rw [hd', Int.natAbs_mul, Int.natAbs_natCast]
    exact Nat.le_mul_of_pos_left _ hg
  unfold rp rq
  rw [hG]
  by_cases h : 0 < d
  · have hp : 0 < d' := by
      apply Int.not_le.mp
      intro hle
      have := Int.mul_le_mul_of_nonneg_left hle (show (0 : Int) ≤ g by omega)
      rw [← hd', Int.mul_zero] at this
      omega
    rw [if_pos h, if_neg (by omega), q1, q2]
    refine ⟨hp, h1, ?_, le⟩
    conv => lhs; rw [hd']
    conv => rhs; rw [hn]
    rw [Int.mul_left_comm, Int.mul_assoc]
  · have hp : d' < 0 := by
      apply Int.not_le.mp
      intro hle
      have := Int.mul_le_mul_of_nonneg_left hle (show (0 : Int) ≤ g by omega)
      rw [← hd', Int.mul_zero] at this
      omega
    rw [if_neg h, if_pos (by omega), q3, q4]
    refine ⟨by omega, by rw [Int.gcd_neg, Int.neg_gcd]; exact h1, ?_, by rw [Int.natAbs_neg]; exact le⟩
    conv => lhs; rw [hd']
    conv => rhs; rw [hn]
    rw [Int.neg_mul, Int.mul_neg, Int.mul_left_comm, Int.mul_assoc]
theorem cross {p q n d : Int} (h : p * d = n * q) {p' q' n' d' : Int} (h' : p' * d' = n' * q') : p * p' * (d * d') = n * n' * (q * q') := by
  have : (p * d) * (p' * d') = (n * q) * (n' * q') := by rw [h, h']
  calc p * p' * (d * d') = (p * d) * (p' * d') := by simp only [Int.mul_assoc, Int.mul_left_comm, Int.mul_comm]
    _ = (n * q) * (n' * q') := this
    _ = n * n' * (q * q') := by simp only [Int.mul_assoc, Int.mul_left_comm, Int.mul_comm]
theorem dvd_cop {a b c : Int} (h : a ∣ b * c) (g : Int.gcd a b = 1) : a ∣ c := by
  rw [← Int.natAbs_dvd_natAbs] at h ⊢
  rw [Int.natAbs_mul] at h
  exact Nat.Coprime.dvd_of_dvd_mul_left g h
/-- lowest terms are told by the cross -/
theorem lowest {p q p' q' : Int} (hq : 0 < q) (hq' : 0 < q') (h : Int.gcd p q = 1) (h' : Int.gcd p' q' = 1) : (p = p' ∧ q = q') ↔ p * q' = p' * q := by
  constructor
  · rintro ⟨rfl, rfl⟩
    rfl
  · intro e
    have d1 : q ∣ p * q' := ⟨p', by rw [e, Int.mul_comm]⟩
    have d2 : q' ∣ p' * q := ⟨p, by rw [← e, Int.mul_comm]⟩
    have c1 : q ∣ q' := dvd_cop d1 (by rw [Int.gcd_comm]; exact h)
    have c2 : q' ∣ q := dvd_cop d2 (by rw [Int.gcd_comm]; exact h')
    have eq : q = q' := Int.dvd_antisymm (by omega) (by omega) c1 c2
    subst eq
    exact ⟨Int.eq_of_mul_eq_mul_right (by omega) e, rfl⟩
theorem rp_le (n d : Int) : (rp n d).natAbs ≤ n.natAbs := by
  unfold rp
  split
  · exact Int.natAbs_ediv_le_natAbs _ _
  · have := Int.natAbs_ediv_le_natAbs (-n) (Int.gcd n d : Int)
    rwa [Int.natAbs_neg] at this
/-- what stands for N / D stands for n / m -/
theorem stand {p q N D n m : Int} (h : p * D = N * q) (h2 : N * m = n * D) (hD : D ≠ 0) : p * m = n * q := by
  apply Int.eq_of_mul_eq_mul_right hD
  calc p * m * D = (p * D) * m := by simp only [Int.mul_assoc, Int.mul_left_comm, Int.mul_comm]
    _ = (N * m) * q := by rw [h]; simp only [Int.mul_assoc, Int.mul_left_comm, Int.mul_comm]
    _ = n * q * D := by rw [h2]; simp only [Int.mul_assoc, Int.mul_left_comm, Int.mul_comm]
section
variable {X : Cx}
theorem eq_rat {Fa M R C : Addr} {mg : Str → Option Value} {H : Hp} {Q : VK} {a b : Addr} {p q p' q' : Int} {k j : Nat} (T : Cls4 X.K mg Fa M R C) (mt : MetX X.prog X.w X.K X.mg X.base CX0 k C "__eq__" (spEqR X.K C)) (hr : Room j X.A) (hk : k ≤ j) (ha : Rt C H a p q) (hb : Rt C H b p' q') (z : ∀ c : Bool, (c = true ↔ p = p' ∧ q = q') → Q (.bl c) H) : OpW X (compareOp .Eq) (.ref a) (.ref b) H Q := by
  obtain ⟨dx, ea⟩ := ha
  obtain ⟨dy, eb⟩ := hb
  refine opw_eqO (tb := .ref C) mt hr hk (by simp [PySem.W.notFirst]) (fun pins σ s u I r => ?_) ea ⟨a, .ref b, p, q, rfl, ⟨dx, ea⟩, .inl ⟨b, p', q', rfl, ⟨dy, eb⟩, z⟩⟩
  cases (show u = Value.ref b from r)
  obtain ⟨ox, od, J⟩ := inst_at I eb
  exact J.type
theorem eq_data {Fa M R C : Addr} {mg : Str → Option Value} {H : Hp} {Q : VK} {a : Addr} {y : V} {d : D} {n : String} {p q : Int} {k j : Nat} (T : Cls4 X.K mg Fa M R C) (mt : MetX X.prog X.w X.K X.mg X.base CX0 k C "__eq__" (spEqR X.K C)) (hr : Room j X.A) (hk : k ≤ j) (ha : Rt C H a p q) (r : Rp X.K H y d) (e : d.ty = some n) (hn : n ≠ "list") (z : Q (.bl false) H) : OpW X (compareOp .Eq) (.ref a) y H Q := by
  obtain ⟨dx, ea⟩ := ha
  refine opw_eqO (tb := .type n) mt hr hk ?_ (fun pins σ s u I ru => looks_ty r e I ru) ea ⟨a, y, p, q, rfl, ⟨dx, ea⟩, .inr ⟨d, n, r, e, hn, z⟩⟩
  cases d <;> simp only [D.ty, Option.some.injEq, reduceCtorEq] at e <;> subst e <;> first | rfl | exact absurd rfl hn
end
theorem rat_eq {a b c d : Int} (hb : b ≠ 0) (hd : d ≠ 0) : (rp a b = rp c d ∧ rq a b = rq c d) ↔ a * d = b * c := by
  obtain ⟨x1, x2, x3, _⟩ := rat_facts a b hb
  obtain ⟨y1, y2, y3, _⟩ := rat_facts c d hd
  rw [lowest x1 y1 x2 y2]
  generalize rp a b = p at *
  generalize rq a b = q at *
  generalize rp c d = p' at *
  generalize rq c d = q' at *
  constructor
  · intro e
    have : (a * d - b * c) * (q * q') = 0 := by grind
    rcases Int.mul_eq_zero.mp this with h | h
    · omega
    · rcases Int.mul_eq_zero.mp h with h | h <;> omega
  · intro e
    have : (p * q' - p' * q) * (b * d) = 0 := by grind
    rcases Int.mul_eq_zero.mp this with h | h
    · omega
    · rcases Int.mul_eq_zero.mp h with h | h
      · exact absurd h hb
      · exact absurd h hd
theorem says_true {c : Bool} {p : Prop} [Decidable p] (h : c = true ↔ p) : decide (c = decide p) = true := by
  by_cases hp : p
  · simp [hp, h.mpr hp]
  · have : c = false := by
      cases c with
      | false => rfl
      | true => exact absurd (h.mp rfl) hp
    simp [hp, this]
theorem log_le {n : Int} (h : n.natAbs < 2 ^ 800) : n.natAbs.log2 < 1900 := by
  by_cases e : n.natAbs = 0
  · rw [e]; decide
  · have := (Nat.log2_lt e).mpr h
    omega
theorem str_nil (a : Str) : a ++ ("" : Str) = a := by
  obtain ⟨a⟩ := a
  show Str.mk (a ++ #[]) = Str.mk a
  rw [Array.append_empty]
/-- an instance that stands for p / q, as data -/
def ob (C : Addr) (p q : Int) : D := .obj C ["n", "d"] [.int p, .int q]
theorem Rt.dat {K : PySem.W.Frag} {C : Addr} {H : Hp} {a : Addr} {p q : Int} (h : Rt C H a p q) : Rp K H (.ref a) (ob C p q) := by
  obtain ⟨dx, e⟩ := h
  exact .obj e rfl (.cons (.int _) (.cons (.int _) .nil))
theorem Rp.rat {K : PySem.W.Frag} {C : Addr} {H : Hp} {v : V} {p q : Int} (h : Rp K H v (ob C p q)) : ∃ a, v = .ref a ∧ Rt C H a p q := by
  unfold ob at h
  cases h with
  | @obj a _ dx fs _ _ h1 h2 h3 =>
    refine ⟨a, rfl, dx, ?_⟩
    match fs, h2, h3, h1 with
    | [(n, v), (m, u)], h2, h3, h1 =>
      simp only [List.map_cons, List.map_nil, List.cons.injEq, and_true] at h2
      obtain ⟨rfl, rfl⟩ := h2
      simp only [List.map_cons, List.map_nil] at h3
      cases h3 with
      | cons r1 r2 =>
        cases r2 with
        | cons r3 r4 =>
          rw [r1.int_inv, r3.int_inv] at h1
          exact h1
/-- the ratio of z and m -/
def rtd (C : Addr) (m z : Int) : D := ob C (rp z m) (rq z m)
/-- the error that tells a place in a text -/
structure ClsT (K : PySem.W.Frag) (mg : Str → Option Value) (M R Nt : Addr) : Prop where
  gN : mg "NoText" = some (.ref Nt)
  oN : OexC K Nt
  nN : PySem.W.findIn K (.ref Nt) "at" = some none
  xN : XfC K Nt
  eNM : PySem.W.exmOne K (.ref Nt) (.ref M) = some false
  eNR : PySem.W.exmOne K (.ref Nt) (.ref R) = some false
  eNN : PySem.W.exmOne K (.ref Nt) (.ref Nt) = some true
/-- what is asked whether it is a ratio -/
def okI (C : Addr) : D → Prop
  | .obj c _ _ => c = C
  | .lst _ => False
  | _ => True
def isRat : D → Bool
  | .obj _ _ _ => true
  | _ => false
def isRR : D → Bool
  | .tup ds => ds.all isRat
  | _ => false
section
variable {P : Program} {w : World} {K : PySem.W.Frag} {mg : Str → Option Value} {base : Heap}
theorem scNt : FnScope ["self", "at"] ["self", "at"] (defScope (inC 5 0)) := ⟨rfl, rfl, rfl, by decide +kernel, rfl, by decide +kernel, by decide +kernel⟩
theorem ok_notext {f Fa M R C Nt : Addr} {fd : FuncData} (F : Fun K "__init__" "NoText.__init__" (inC 5 0) f fd) (T : Cls4 K mg Fa M R C) (TN : ClsT K mg M R Nt) : FnOk P w K mg base CX0 1 f fd ["self", "at"] (spErr Nt "at") := by
  refine okS F scNt (fun vs H Q E ⟨_, _, e, _⟩ => by rw [e]; rfl) ?_
  rintro cdv A outer s H _ Q E hr ⟨a, v, rfl, ha, q⟩ hN nd
  change QB _ (_ :: _) _ [some _, some _] _
  refine wss_cons ?_
  refine ws_expr rfl ?_
  refine we_clsinit rfl T.gF T.sF T.tF T.rF T.vF ?_ rfl rfl rfl (by decide)
  kct_strs
  refine ⟨a, Nt, [.str "no text"], rfl, by simp, TN.oN, ha, ?_⟩
  refine wss_one ?_
  refine ws_ost rfl TN.oN TN.nN ?_
  kct_strs
  exact ⟨ha, q⟩
theorem isi_rt {X : Cx} {Fa M R C : Addr} {H : Hp} {Q : VK} {v : V} {d : D} (T : Cls4 X.K mg Fa M R C) (h : Rp X.K H v d) (o : okI C d) (q : Q (.bl (isRat d)) H) : CallW X (.builtin "isinstance") [v, .ref C] H Q := by
  cases d with
  | non => exact isi_data T h rfl (by decide) q
  | bl b => exact isi_data T h rfl (by decide) q
  | int i => exact isi_data T h rfl (by decide) q
  | str z => exact isi_data T h rfl (by decide) q
  | tup ds => exact isi_data T h rfl (by decide) q
  | lst ds => exact o.elim
  | obj c ns ds =>
    cases (show c = C from o)
    cases h with
    | obj h1 h2 h3 => exact isi_own T.iC h1 q
theorem scRR : FnScope ["value", "x"] ["value"] (defScope (top 13)) := ⟨rfl, rfl, rfl, by decide +kernel, rfl, by decide +kernel, by decide +kernel⟩
def spRR (K : PySem.W.Frag) (C : Addr) : Sp := fun vs H Q _ => ∃ v d, vs = [v] ∧ Rp K H v d ∧ d.ty.isSome = true ∧ (∀ ds, d = .tup ds → (∀ e ∈ ds, okI C e) ∧ ds.length < 1000) ∧ ∀ H', Same H H' → Q (.bl (isRR d)) H'
theorem ok_is_ratio_row {f Fa M R C : Addr} {fd : FuncData} (F : Fun K "is_ratio_row" "is_ratio_row" (top 13) f fd) (T : Cls4 K mg Fa M R C) (m1 : mg "isinstance" = none) (m2 : mg "tuple" = none) (m3 : mg "all" = none) : FnOk P w K mg base CX0 2 f fd ["value"] (spRR K C) := by
  refine okS F scRR (fun vs H Q E ⟨_, _, e, _⟩ => by rw [e]; rfl) ?_
  rintro cdv A outer s H _ Q E hr ⟨v, d, rfl, rpv, hd, ht, q⟩ hN nd
  have gC := T.gC
  change QB _ (_ :: _) _ [some _, none] _
  kct_strs
  refine ifb (fun e1 => ?_) (fun e1 => ?_)
  · cases d <;> cases e1
    rename_i ds
    kct_strs
    mem_news
    kct_strs
    obtain ⟨ht, hlen⟩ := ht ds rfl
    have hz : (1000 : Nat) < sizeLine := by decide
    refine ⟨ds, rpv, by omega, fun e => .bl (isRat e), ⟨fun _ _ => rfl, fun d u H2 hd s2 r => ?_⟩, fun p H2 ys s2 hp hp2 r => ?_⟩
    · intro s H0 C cl fp
      kct_strs
      exact isi_rt (mg := mg) T r (ht d hd) ⟨Same.refl _, .bl _⟩
    · kct_strs
      rw [show ds.map (fun e => D.bl (isRat e)) = (ds.map isRat).map D.bl by simp] at r
      refine callw_all rfl hp2 r ?_
      have e2 : ((ds.map isRat).all id) = isRR (.tup ds) := by simp [isRR, List.all_map]
      rw [e2]
      exact q _ s2
  · cases d <;> first | exact q _ (Same.refl _) | cases e1
/-- a number or a ratio, made a ratio -/
def toR (C : Addr) : D → D
  | .int i => ob C (rp i 1) (rq i 1)
  | d => d
def isNum : D → Bool
  | .int _ => true
  | .obj _ _ _ => true
  | _ => false
theorem scRs : FnScope ["row", "x"] ["row"] (defScope (top 14)) := ⟨rfl, rfl, rfl, by decide +kernel, rfl, by decide +kernel, by decide +kernel⟩
def spRs (K : PySem.W.Frag) (M C : Addr) : Sp := fun vs H Q E => ∃ v, vs = [v] ∧ ((∃ (b : Bool) (ds : List D), RpB K b H v ds ∧ (∀ d ∈ ds, okI C d ∧ d.im = true ∧ (isRat d = true ∨ d.ty.isSome = true)) ∧ ds.length < 1000 ∧ (ds.all isNum = true → ∀ u H', Same H H' → Rp K H' u (.tup (ds.map (toR C))) → Q u H') ∧ (ds.all isNum = false → ∀ H', Same H H' → E (.ref M) none H')) ∨
  (∃ n : String, (TyX K H v (.type n)) ∧ PySem.W.kitAny K (.type n) [.type "list", .type "tuple"] = some false ∧ ∀ H', Same H H' → E (.ref M) none H'))
theorem callw_isiV {X : Cx} {H : Hp} {Q : VK} {v : V} {n : String} {b : Bool} {tp : Addr} (h : TyX X.K H v (.type n)) (ht : H tp = some (.tup [.ty "list", .ty "tuple"])) (k : PySem.W.kitAny X.K (.type n) [.type "list", .type "tuple"] = some b) (q : Q (.bl b) H) : CallW X (.builtin "isinstance") [v, .ref tp] H Q :=
  callw_of call_isiT ⟨v, tp, _, _, _, b, rfl, ht, .cons (.ty _) (.cons (.ty _) .nil), h, k, q⟩
theorem ok_ratios {f Fa M R C : Addr} {fd : FuncData} (F : Fun K "ratios" "ratios" (top 14) f fd) (T : Cls4 K mg Fa M R C) (mk : MakD P w K mg base (L2.CX P w) 3 "Ratio" C (spInit (K := K) M R C) [.int 1]) (m1 : mg "isinstance" = none) (m2 : mg "tuple" = none) (m3 : mg "list" = none) : FnOk P w K mg base (L2.CX P w) 5 f fd ["row"] (spRs K M C) := by
  refine okXS F scRs (fun vs H Q E ⟨_, e, _⟩ => by rw [e]; rfl) ?_
  rintro cdv A outer s H _ Q E hr ⟨v, rfl, h⟩ hN nd tk
  have gC := T.gC
  obtain ⟨t1, t2, t3, t4⟩ := kit_lt (K := K)
  have hz : (1000 : Nat) < sizeLine := by decide
  change QB _ (_ :: (defBody (top 14)).drop 1) _ [some _, none] _
  kct_strs
  refine ⟨Nat.le_of_ble_eq_true rfl, fun tp H1 htp s1 e1 => ?_⟩
  kct_strs
  rcases h with ⟨b, ds, rb, hd, hl, qg, qb⟩ | ⟨n, ty, kt, qb⟩
  · have kb : CallW (cxOf (L2.CX P w) P w K mg base ["row", "x"] "ratios" (defScope (top 14)) f cdv A outer s H E) (.builtin "isinstance") [v, .ref tp] H1 (fun z H' => z = .bl true ∧ H' = H1) := by
      cases b with
      | true => exact callw_isiT (show Rp K H1 v (.tup ds) from Rp.to rb s1) rfl e1 t4 ⟨rfl, rfl⟩
      | false => exact callw_isiT (show Rp K H1 v (.lst ds) from Rp.to rb s1) rfl e1 t3 ⟨rfl, rfl⟩
    refine fun pins s σ us I r => thn (kb pins s σ us I r) fun u s2 ⟨z, H2, I2, r2, e2, e3⟩ => ⟨z, H2, I2, r2, ?_⟩
    subst e2 e3
    refine ⟨_, rfl, ?_⟩
    rw [if_neg (by decide)]
    kct_strs
    change QB _ (_ :: []) _ _ _
    refine wss_one (ws_ret (we_type m2 rfl inferInstance (wa_cons rfl ?_)))
    refine' we_mX (N := ["row", "x"]) (i := 1) (own := [("x", 1)]) (W := fun c d _ H' => E c d H') (Wb := fun c d H' => c = .ref M ∧ d = none ∧ Same H H' ∧ ds.all isNum = false) b rfl rfl nd ⟨rfl, of_decide_eq_true (by kernel_rfl), of_decide_eq_true (by kernel_rfl), of_decide_eq_true (by kernel_rfl), of_decide_eq_true (by kernel_rfl)⟩ (fun _ => rfl) rfl rfl tk ?hW (by infer_instance) hN (fun _ _ _ _ _ => by first | exact Or.inl rfl | exact Or.inr rfl) (fun _ _ _ _ _ => by first | exact Or.inl rfl | exact Or.inr rfl) ?q
    case hW =>
      rintro c d H' ⟨rfl, rfl, s3, e3⟩ _
      exact qb e3 H' s3
    case q =>
      kct_strs
      refine ⟨D, ds, fun d => d, toR C, fun d => isNum d = true, ?_, by omega, fun d hm => ?_, fun d hm u H3 s3 ru => ?_, fun p H3 ys s3 hp hp3 r3 hall => ?_⟩
      · rw [List.map_id']
        exact rb.to s1
      · have := (hd d hm).2.1
        cases d <;> first | rfl | exact this
      · intro s0 H00 C0 cl fp
        have mk2 := mk
        kct_strs
        refine isi_rt (mg := mg) T ru (hd d hm).1 ?_
        kct_strs
        cases ei : isRat d with
        | true =>
          rw [if_pos rfl]
          kct_strs
          have : toR C d = d := by cases d <;> first | rfl | cases ei
          rw [this]
          exact ⟨Same.refl _, (by cases d <;> first | rfl | (cases ei)), ru⟩
        | false =>
          rw [if_neg (by decide)]
          refine we_makeDP (E := fun c d H' => c = .ref M ∧ d = none ∧ Same H H' ∧ ds.all isNum = false) mk2 pass_xb hr (by decide) rfl ?_ (by decide) rfl rfl
          kct_strs
          intro a dx H4 ha s4 h4 h5 hne
          have dty : d.ty.isSome = true := by
            rcases (hd d hm).2.2 with z | z
            · rw [ei] at z; cases z
            · exact z
          refine ⟨a, dx, u, .int 1, d, .int 1, rfl, h4, ru.to s4, .int 1, dty, rfl, fun j e => by cases e; decide, fun e => ⟨rfl, rfl, s1.trans (s3.trans s4), ?_⟩, (fun n _ e => by cases e), fun n m e1 e2 _ H5 k5 k6 => ⟨rfl, ?_⟩⟩
          · have e : isNum d = false := by
              cases d <;> first | rfl | (cases ei; done) | (cases e; done)
            rw [List.all_eq_false]
            exact ⟨d, hm, by rw [e]; decide⟩
          · cases e1
            cases e2
            refine ⟨fun b0 o e => k5 b0 o (ne_of_none e ha) (s4 _ _ e), rfl, Rt.dat ⟨dx, k6⟩⟩
      · kct_strs
        refine callw_tuple_l (.lstOf hp3 r3) fun u H4 s4 r4 => ?_
        refine qg (List.all_eq_true.mpr hall) u H4 (s1.trans (s3.trans s4)) r4
  · have ty1 : TyX K H1 v (.type n) := by
      cases ty with
      | base hb =>
        cases hb with
        | non => exact .base .non
        | bl x => exact .base (.bl x)
        | int x => exact .base (.int x)
        | str x => exact .base (.str x)
        | flt x => exact .base (.flt x)
        | lst e => exact .base (.lst (s1 _ _ e))
        | frz e => exact .base (.frz (s1 _ _ e))
        | tup e => exact .base (.tup (s1 _ _ e))
        | dK e => exact .base (.dK (s1 _ _ e))
        | dT e => exact .base (.dT (s1 _ _ e))
      | byt x => exact .byt x
      | set e => exact .set (s1 _ _ e)
      | kList e c => exact .kList e c
      | kTuple e c => exact .kTuple e c
      | kDict e c => exact .kDict e c
      | fTuple e => exact .fTuple (s1 _ _ e)
      | fDict e => exact .fDict (s1 _ _ e)
    refine callw_isiV ty1 e1 kt ?_
    kct_strs
    rw [if_pos (by decide)]
    kct_strs
    exact ws_raise rfl tk PySem.F.excBase_ValueError T.xM T.gM T.kM (raises_own T.bM T.tM) rfl (qb H1 s1)
end
theorem addm {m : Int} (hm : m ≠ 0) (a b : Int) : rp (rp a m * rq b m + rp b m * rq a m) (rq a m * rq b m) = rp (a + b) m ∧ rq (rp a m * rq b m + rp b m * rq a m) (rq a m * rq b m) = rq (a + b) m := by
  obtain ⟨h1, _, h3, _⟩ := rat_facts a m hm
  obtain ⟨k1, _, k3, _⟩ := rat_facts b m hm
  refine (rat_eq (Int.ne_of_gt (Int.mul_pos h1 k1)) hm).mpr ?_
  generalize rp a m = p at *
  generalize rq a m = q at *
  generalize rp b m = p' at *
  generalize rq b m = q' at *
  grind
theorem mulm {m n : Int} (hm : m ≠ 0) (hn : n ≠ 0) (a b : Int) : rp (rp a m * rp b n) (rq a m * rq b n) = rp (a * b) (m * n) ∧ rq (rp a m * rp b n) (rq a m * rq b n) = rq (a * b) (m * n) := by
  obtain ⟨h1, _, h3, _⟩ := rat_facts a m hm
  obtain ⟨k1, _, k3, _⟩ := rat_facts b n hn
  refine (rat_eq (Int.ne_of_gt (Int.mul_pos h1 k1)) (Int.mul_ne_zero hm hn)).mpr ?_
  generalize rp a m = p at *
  generalize rq a m = q at *
  generalize rp b n = p' at *
  generalize rq b n = q' at *
  grind
theorem upm {m n a b : Int} (hm : m ≠ 0) (hn : n ≠ 0) (h : a * n = b * m) : rp a m = rp b n ∧ rq a m = rq b n := (rat_eq hm hn).mpr (by rw [h, Int.mul_comm])
theorem bm {m z : Int} (hm : 0 < m ∧ m < 16384) (hz : z.natAbs < 16384) : (rp z m).natAbs < 16384 ∧ (rq z m).natAbs < 16384 ∧ rq z m ≠ 0 := by
  obtain ⟨h1, _, _, h4⟩ := rat_facts z m (by omega)
  have := rp_le z m
  omega
theorem bq {m z : Int} (hm : 0 < m ∧ m < 16384) : (rq z m).natAbs < 16384 ∧ rq z m ≠ 0 := by
  obtain ⟨h1, _, _, h4⟩ := rat_facts z m (by omega)
  omega
section
variable {X : Cx} {mg : Str → Option Value} {σ : Sl} {H : Hp} {Q : VK} {x y : V} {Fa M R C : Addr} {W : WX} {j : Nat} {m n a b : Int}
theorem opw_addR (a1 : MetX X.prog X.w X.K X.mg X.base (L2.CX X.prog X.w) 5 C "__add__" (spOp X.K M R C (fun p q p' q' => p * q' + p' * q) (fun p q p' q' => q * q'))) (T : Cls4 X.K mg Fa M R C) (tk : Takes X W) (hr : Room j X.A) (hk : 5 ≤ j)
    (rx : Rp X.K H x (rtd C m a)) (ry : Rp X.K H y (rtd C m b)) (hm : 0 < m ∧ m < 16384) (hb : b.natAbs < 16384) (q : ∀ u H', Same H H' → Rp X.K H' u (rtd C m (a + b)) → Q u H') : OpW X (binaryOp .Add) x y H Q := by
  obtain ⟨xa, rfl, dx, hx⟩ := Rp.rat rx
  obtain ⟨ya, rfl, dy, hy⟩ := Rp.rat ry
  obtain ⟨f1, f2, f3⟩ := bm hm hb
  obtain ⟨g2, g3⟩ := bq (z := a) hm
  refine opw_own a1 T.pC tk hr hk hx hy ⟨xa, _, _, _, rfl, ⟨dx, hx⟩, g2, .inl ⟨ya, _, _, rfl, ⟨dy, hy⟩, f1, f2, fun _ c H' s r => ?_, fun e => ((Int.mul_eq_zero.mp e).elim g3 f3).elim⟩⟩
  rw [(addm (by omega) _ _).1, (addm (by omega) _ _).2] at r
  exact q _ _ s (Rt.dat r)
theorem opw_mulR (a1 : MetX X.prog X.w X.K X.mg X.base (L2.CX X.prog X.w) 5 C "__mul__" (spOp X.K M R C (fun p q p' q' => p * p') (fun p q p' q' => q * q'))) (T : Cls4 X.K mg Fa M R C) (tk : Takes X W) (hr : Room j X.A) (hk : 5 ≤ j)
    (rx : Rp X.K H x (rtd C m a)) (ry : Rp X.K H y (rtd C n b)) (hm : 0 < m ∧ m < 16384) (hn : 0 < n ∧ n < 16384) (hb : b.natAbs < 16384) (q : ∀ u H', Same H H' → Rp X.K H' u (rtd C (m * n) (a * b)) → Q u H') : OpW X (binaryOp .Mult) x y H Q := by
  obtain ⟨xa, rfl, dx, hx⟩ := Rp.rat rx
  obtain ⟨ya, rfl, dy, hy⟩ := Rp.rat ry
  obtain ⟨f1, f2, f3⟩ := bm hn hb
  obtain ⟨g2, g3⟩ := bq (z := a) hm
  refine opw_own a1 T.pC tk hr hk hx hy ⟨xa, _, _, _, rfl, ⟨dx, hx⟩, g2, .inl ⟨ya, _, _, rfl, ⟨dy, hy⟩, f1, f2, fun _ c H' s r => ?_, fun e => ((Int.mul_eq_zero.mp e).elim g3 f3).elim⟩⟩
  rw [(mulm (by omega) (by omega) _ _).1, (mulm (by omega) (by omega) _ _).2] at r
  exact q _ _ s (Rt.dat r)
/-- Ratio(i) -/
theorem we_mk1 {e : Expr} {p pos : Pos} (mk : MakD X.prog X.w X.K X.mg X.base (L2.CX X.prog X.w) 3 "Ratio" C (spInit (K := X.K) M R C) [.int 1]) (tk : Takes X W) (hr : Room j X.A) (hk : 4 ≤ j) (hg : Gl X "Ratio")
    (q : QE X e σ H fun v H1 => ∃ i : Int, v = .int i ∧ ∀ u H', Same H1 H' → Rp X.K H' u (rtd C 1 i) → Q u H') (hs : starEach [e] X.env = (false, eval e X.env) :: starEach [] X.env) (hpl : (backTo pos (starEach [] X.env)).any (·.1) = false) : QE X (.Call (.Name "Ratio" p) [e] [] pos) σ H Q := by
  refine we_makeD mk tk hr hk hg (wa_cons hs (q.imp fun v H1 ⟨i, ev, q⟩ => wa_nil ?_)) (by decide) hs hpl
  subst ev
  intro xa dx H2 hx0 s2 hx hd hne
  exact init_use hx0 s2 hx (by decide) (fun e => absurd e (by decide)) (fun e H' s' r => q _ _ s' (Rt.dat r))
end
/-- the product of a row -/
def prodI (l : List Int) : Int := l.foldl (fun a b => a * b) 1
theorem prod_snoc (l : List Int) (z : Int) : prodI (l ++ [z]) = prodI l * z := by unfold prodI; rw [List.foldl_append]; rfl
theorem sum_snoc (l : List Int) (z : Int) : (l ++ [z]).sum = l.sum + z := by simp
theorem take_succ' {α : Type} {l : List α} {k : Nat} {z : α} (h : l[k]? = some z) : l.take (k + 1) = l.take k ++ [z] := by rw [List.take_succ, h]; rfl
theorem map_at {α : Type} {l : List α} {g : α → D} {k : Nat} {d : D} (h : (l.map g)[k]? = some d) : ∃ a, l[k]? = some a ∧ d = g a := by
  rw [List.getElem?_map] at h
  cases e : l[k]? with
  | none => rw [e] at h; cases h
  | some a => rw [e] at h; cases h; exact ⟨a, rfl, rfl⟩
section
variable {P : Program} {w : World} {K : PySem.W.Frag} {mg : Str → Option Value} {base : Heap}
theorem scSu : FnScope ["row", "found", "x"] ["row"] (defScope (top 15)) := ⟨rfl, rfl, rfl, by decide +kernel, rfl, by decide +kernel, by decide +kernel⟩
theorem scPr : FnScope ["row", "found", "x"] ["row"] (defScope (top 16)) := ⟨rfl, rfl, rfl, by decide +kernel, rfl, by decide +kernel, by decide +kernel⟩
theorem scDo : FnScope ["one", "two", "x", "y"] ["one", "two"] (defScope (top 17)) := ⟨rfl, rfl, rfl, by decide +kernel, rfl, by decide +kernel, by decide +kernel⟩
def spSum (K : PySem.W.Frag) (C : Addr) : Sp := fun vs H Q _ => ∃ (v : V) (b : Bool) (m : Int) (zs : List Int), vs = [v] ∧ RpB K b H v (zs.map (rtd C m)) ∧ (0 < m ∧ m < 16384) ∧ (∀ z ∈ zs, z.natAbs < 16384) ∧ ∀ u H', Same H H' → Rp K H' u (rtd C m zs.sum) → Q u H'
theorem ok_ratio_sum {f Fa M R C : Addr} {fd : FuncData} (F : Fun K "ratio_sum" "ratio_sum" (top 15) f fd) (T : Cls4 K mg Fa M R C) (mk : MakD P w K mg base (L2.CX P w) 3 "Ratio" C (spInit (K := K) M R C) [.int 1])
    (a1 : MetX P w K mg base (L2.CX P w) 5 C "__add__" (spOp K M R C (fun p q p' q' => p * q' + p' * q) (fun p q p' q' => q * q'))) : FnOk P w K mg base (L2.CX P w) 6 f fd ["row"] (spSum K C) := by
  refine okXS F scSu (fun vs H Q E ⟨_, _, _, _, e, _⟩ => by rw [e]; rfl) ?_
  rintro cdv A outer s H _ Q E hr ⟨v, b, m, zs, rfl, rb, hm, hz, q⟩ hN nd tk
  have pp := passes_of (X := cxOf (L2.CX P w) P w K mg base ["row", "found", "x"] "ratio_sum" (defScope (top 15)) f cdv A outer s H E) rfl
  change QB _ (_ :: (Stmt.For _ _ _ [] _) :: (defBody (top 15)).drop 2) _ [some _, none, none] _
  kct_strs
  refine we_mk1 mk tk hr (by decide) rfl ?_ rfl rfl
  kct_strs
  intro u1 H1 s1 r1
  kct_strs
  refine ws_forB b pp rfl (fun _ => rfl) ?_
  kct_strs
  have e0 : Rp K H1 u1 (rtd C m (zs.take 0).sum) := by
    have := upm (m := 1) (n := m) (a := 0) (b := 0) (by decide) (by omega) (by simp)
    rw [show rtd C m (zs.take 0).sum = rtd C 1 0 by show rtd C m 0 = _; unfold rtd; rw [this.1, this.2]]
    exact r1
  refine ⟨_, rb.to s1, fun k σ H' => Same H1 H' ∧ ∃ (u : V) (o : Option V), Rp K H' u (rtd C m (zs.take k).sum) ∧ σ = [some v, some u, o], ⟨Same.refl _, _, _, e0, rfl⟩, fun k σ H' h => h.1, ?_, ?_⟩
  · rintro k d w1 σ1 H2 hk ⟨s2, u, o, ru, rfl⟩ rw1
    obtain ⟨z, ez, rfl⟩ := map_at hk
    show QG _ _ _ _ _ _
    kct_strs
    refine opw_addR (mg := mg) a1 T tk hr (by decide) ru rw1 hm (hz z (List.mem_of_getElem? ez)) fun u3 H3 s3 r3 => ?_
    kct_strs
    exact ⟨s2.trans s3, u3, _, by rw [take_succ' ez, sum_snoc]; exact r3, rfl⟩
  · rintro σ1 H2 ⟨s2, u, o, ru, rfl⟩
    rw [List.length_map, List.take_length] at ru
    change QB _ (_ :: []) _ _ _
    kct_strs
    exact q _ _ (s1.trans s2) ru
def spProd (K : PySem.W.Frag) (C : Addr) : Sp := fun vs H Q _ => ∃ (v : V) (b : Bool) (zs : List Int), vs = [v] ∧ RpB K b H v (zs.map (rtd C 6)) ∧ zs.length ≤ 5 ∧ (∀ z ∈ zs, z.natAbs < 16384) ∧ ∀ u H', Same H H' → Rp K H' u (rtd C (6 ^ zs.length) (prodI zs)) → Q u H'
theorem pow6 {k : Nat} (h : k ≤ 4) : (0 : Int) < 6 ^ k ∧ (6 : Int) ^ k < 16384 := by
  match k, h with
  | 0, _ | 1, _ | 2, _ | 3, _ | 4, _ => decide
theorem ok_ratio_product {f Fa M R C : Addr} {fd : FuncData} (F : Fun K "ratio_product" "ratio_product" (top 16) f fd) (T : Cls4 K mg Fa M R C) (mk : MakD P w K mg base (L2.CX P w) 3 "Ratio" C (spInit (K := K) M R C) [.int 1])
    (a1 : MetX P w K mg base (L2.CX P w) 5 C "__mul__" (spOp K M R C (fun p q p' q' => p * p') (fun p q p' q' => q * q'))) : FnOk P w K mg base (L2.CX P w) 6 f fd ["row"] (spProd K C) := by
  refine okXS F scPr (fun vs H Q E ⟨_, _, _, e, _⟩ => by rw [e]; rfl) ?_
  rintro cdv A outer s H _ Q E hr ⟨v, b, zs, rfl, rb, hl, hz, q⟩ hN nd tk
  have pp := passes_of (X := cxOf (L2.CX P w) P w K mg base ["row", "found", "x"] "ratio_product" (defScope (top 16)) f cdv A outer s H E) rfl
  change QB _ (_ :: (Stmt.For _ _ _ [] _) :: (defBody (top 16)).drop 2) _ [some _, none, none] _
  kct_strs
  refine we_mk1 mk tk hr (by decide) rfl ?_ rfl rfl
  kct_strs
  intro u1 H1 s1 r1
  kct_strs
  refine ws_forB b pp rfl (fun _ => rfl) ?_
  kct_strs
  refine ⟨_, rb.to s1, fun k σ H' => Same H1 H' ∧ ∃ (u : V) (o : Option V), Rp K H' u (rtd C (6 ^ k) (prodI (zs.take k))) ∧ σ = [some v, some u, o], ⟨Same.refl _, _, _, (by rw [Int.pow_zero]; exact r1), rfl⟩, fun k σ H' h => h.1, ?_, ?_⟩
  · rintro k d w1 σ1 H2 hk ⟨s2, u, o, ru, rfl⟩ rw1
    obtain ⟨z, ez, rfl⟩ := map_at hk
    have hk4 : k ≤ 4 := by
      have := (List.getElem?_eq_some_iff.mp ez).1
      omega
    show QG _ _ _ _ _ _
    kct_strs
    refine opw_mulR (mg := mg) a1 T tk hr (by decide) ru rw1 (pow6 hk4) (by decide) (hz z (List.mem_of_getElem? ez)) fun u3 H3 s3 r3 => ?_
    kct_strs
    exact ⟨s2.trans s3, u3, _, by rw [take_succ' ez, prod_snoc, Int.pow_succ]; exact r3, rfl⟩
  · rintro σ1 H2 ⟨s2, u, o, ru, rfl⟩
    rw [List.length_map, List.take_length] at ru
    change QB _ (_ :: []) _ _ _
    kct_strs
    exact q _ _ (s1.trans s2) ru
def spDot (K : PySem.W.Frag) (C : Addr) : Sp := fun vs H Q _ => ∃ (v u : V) (xs ys : List Int), vs = [v, u] ∧ Rp K H v (.tup (xs.map (rtd C 6))) ∧ Rp K H u (.tup (ys.map (rtd C 6))) ∧ xs.length ≤ 5 ∧ (∀ z ∈ xs, z.natAbs ≤ 36) ∧ (∀ z ∈ ys, z.natAbs ≤ 36) ∧ ∀ u H', Same H H' → Rp K H' u (rtd C 36 (List.zipWith (fun a b => a * b) xs ys).sum) → Q u H'
theorem ok_dot {f Fa M R C : Addr} {fd : FuncData} (F : Fun K "dot" "dot" (top 17) f fd) (T : Cls4 K mg Fa M R C) (m1 : mg "zip" = none) (c1 : CalX P w K mg base 6 "ratio_sum" (spSum K C) [])
    (a1 : MetX P w K mg base (L2.CX P w) 5 C "__mul__" (spOp K M R C (fun p q p' q' => p * p') (fun p q p' q' => q * q'))) : FnOk P w K mg base (L2.CX P w) 7 f fd ["one", "two"] (spDot K C) := by
  refine okXS F scDo (fun vs H Q E ⟨_, _, _, _, e, _⟩ => by rw [e]; rfl) ?_
  rintro cdv A outer s H _ Q E hr ⟨v, u, xs, ys, rfl, r1, r2, hl, hx, hy, q⟩ hN nd tk
  have hz : (1000 : Nat) < sizeLine := by decide
  change QB _ (_ :: []) _ [some _, some _, none, none] _
  refine wss_one (ws_ret (we_callX c1 tk hr (by decide) rfl (wa_cons rfl ?_) (by decide) rfl rfl))
  refine we_lc (own := [("x", 2), ("y", 3)]) rfl rfl nd ⟨rfl, of_decide_eq_true (by kernel_rfl), of_decide_eq_true (by kernel_rfl), of_decide_eq_true (by kernel_rfl), of_decide_eq_true (by kernel_rfl)⟩ (fun _ => rfl) ?_
  fin_item
  kct_strs
  have sm : ∀ {a b : Int}, a.natAbs ≤ 36 → b.natAbs ≤ 36 → (a * b).natAbs < 16384 := fun {a b} h1 h2 => by
    rw [Int.natAbs_mul]
    exact Nat.lt_of_le_of_lt (Nat.mul_le_mul h1 h2) (by decide)
  refine ⟨Int, Int, true, true, xs, ys, rtd C 6, rtd C 6, fun a b => rtd C 36 (a * b), r1, r2, by omega, fun _ _ _ _ => rfl, fun a ha b hb w1 w2 H4 s4 r5 r6 => ?_, fun p H4 zs s4 hp hp2 rr4 => ?_⟩
  · intro s0 H00 C0 cl fp
    kct_strs
    have := hy b hb
    refine opw_mulR (mg := mg) a1 T takes0 hr (by decide) r5 r6 (by decide) (by decide) (by omega) fun u3 H3 s3 r3 => ?_
    exact ⟨s3, r3⟩
  · kct_strs
    refine ⟨.ref p, false, 36, List.zipWith (fun a b => a * b) xs ys, rfl, ?_, by decide, fun z hz => ?_, fun u H5 s5 r5 => q _ _ (s4.trans s5) r5⟩
    · refine .lstOf hp2 ?_
      rw [List.map_zipWith]
      exact rr4
    · obtain ⟨k, hk⟩ := List.getElem?_of_mem hz
      rw [List.getElem?_zipWith] at hk
      cases e1 : xs[k]? with
      | none => rw [e1] at hk; cases hk
      | some a =>
        cases e2 : ys[k]? with
        | none => rw [e1, e2] at hk; cases hk
        | some b =>
          rw [e1, e2] at hk
          cases hk
          exact sm (hx a (List.mem_of_getElem? e1)) (hy b (List.mem_of_getElem? e2))
end
/-- a text of digits -/
def okP (s : Str) : Bool := !(decide (s = "")) && s.cps.toList.all (fun c => decide (48 ≤ c) && decide (c ≤ 57))
def num (s : Str) : Nat := NumText.digitsVal s.cps.toList
/-- what read_ratio reads -/
def rd (t : Str) : Option (Int × Int) :=
  let P := Txt.partition (Txt.removeprefix t "-") "/"
  let sl := decide (P.2.1 = ("/" : Str))
  if 400 < t.length then none else
  if okP P.1 = false then none else
  if okP (if sl then P.2.2 else "1") = false then none else
  if (sl && decide ((num P.2.2 : Int) = 0)) = true then none else
  let d : Int := if sl then num P.2.2 else 1
  let p := rp (num P.1) d
  let q := rq (num P.1) d
  let p' := if Txt.startswith t "-" then rp (-p) q else p
  let q' := if Txt.startswith t "-" then rq (-p) q else q
  if told p' q' = t then some (p', q') else none
def okD (s : Str) : Bool := s.cps.toList.all fun c => decide (c ∈ ("0123456789" : Str).cps.toList)
def lead0 (s : Str) : Bool := decide (1 < s.length) && decide (s.cps.toList.head? = some 48)
/-- what _law_is_text says -/
def isT (t : Str) : Bool :=
  let own := if cutS t none (some 1) = "-" then cutS t (some 1) none else t
  let parts := Txt.split own "/"
  if 400 < t.length then false else
  if 2 < parts.length then false else
  if (parts.any fun p => decide (p = "") || !okD p) = true then false else
  if (parts.any lead0) = true then false else
  if cutS t none (some 2) = "-0" then false else
  if parts.length = 1 then true else
  decide (1 < num (parts.getD 1 "")) && decide (Nat.gcd (num (parts.getD 0 "")) (num (parts.getD 1 "")) = 1)
/-- the texts that the law makes of a number's text -/
def bentsA (own : Str) : List Str := [own, "0" ++ own, own ++ "/1", "-" ++ own, "2/4", "1/0", "", "-", "0/5"]
def bentB (own : Str) (at_ : Nat) : Str := cutS own none (some (at_ : Int)) ++ cutS own (some ((at_ : Int) + 1)) none
def bentC (own : Str) (at_ : Nat) (c : Nat) : Str := cutS own none (some (at_ : Int)) ++ ⟨#[c]⟩ ++ cutS own (some (at_ : Int)) none
/-- no number in it is large -/
def fit (t : Str) : Bool :=
  let P := Txt.partition (Txt.removeprefix t "-") "/"
  decide (t.length ≤ 400) && decide ((Txt.removeprefix t "-").length ≤ 400) && decide (P.1.length ≤ 640) && decide (P.2.2.length ≤ 640) && decide (num P.2.2 < 16384) && decide (num P.1 < 1073741824) &&
    (Txt.split (if cutS t none (some 1) = "-" then cutS t (some 1) none else t) "/").all (fun p => decide (p.length ≤ 640))
def good1 (b : Str) : Bool := decide (b.length ≤ 6) && fit b && decide (isT b = (rd b).isSome)
def good (b : Str) : Bool := good1 b && (Txt.split b ",").all good1
def ownOf (n d : Int) : Str := told (rp n d) (rq n d)
def dens : List Int := [1, 2, 3]
def numsL : List Int := (List.range 13).map fun k : Nat => (k : Int) - 6
theorem fin_A : (numsL.all fun n => dens.all fun d => (bentsA (ownOf n d)).all good) = true := by decide +kernel
theorem fin_B : (numsL.all fun n => dens.all fun d => (List.range ((ownOf n d).length + 1)).all fun k => good (bentB (ownOf n d) k)) = true := by decide +kernel
theorem fin_C : (numsL.all fun n => dens.all fun d => (List.range ((ownOf n d).length + 1)).all fun k => ("019-/,. x" : Str).cps.toList.all fun c => good (bentC (ownOf n d) k c)) = true := by decide +kernel
theorem fin_D : (numsL.all fun n => dens.all fun d => decide (rd (ownOf n d) = some (rp n d, rq n d)) && decide (ownOf n d ≠ "") && decide (ownOf n d ≠ "-") && decide ((44 : Nat) ∉ (ownOf n d).cps.toList) && decide ((ownOf n d).length ≤ 4)) = true := by decide +kernel
theorem lt1 {a b : Nat} : (!decide (([a] : List Nat) < [b])) = decide (b ≤ a) := by
  have : ([a] : List Nat) < [b] ↔ a < b := by rw [List.cons_lt_cons_iff]; simp
  rw [decide_eq_decide.mpr this]
  by_cases h : a < b
  · rw [decide_eq_true h, decide_eq_false (by omega)]; rfl
  · rw [decide_eq_false h, decide_eq_true (by omega)]; rfl
theorem int_ok {s : Str} (h : okP s = true) (hl : s.length ≤ 640) : intText? s = some ((num s : Nat) : Int) := by
  unfold okP at h
  obtain ⟨h1, h2⟩ := Bool.and_eq_true_iff.mp h
  refine PySem.intText_digits (fun c hc => ?_) (fun e => ?_) (by omega)
  · have := List.all_eq_true.mp h2 c hc
    simpa using this
  · have e2 : s = "" := by
      obtain ⟨a⟩ := s
      have e : a.toList = [] := e
      have : a = #[] := Array.toList_eq_nil_iff.mp e
      subst this
      rfl
    rw [e2] at h1
    exact absurd h1 (by decide)
section
variable {K : PySem.W.Frag}
theorem init_use2 {C M R x dx : Addr} {H H2 : Hp} {N D : Int} {Q : Hp → Prop} {E : XK} (hx0 : H x = none) (s : Same H H2) (hx : H2 x = some (.ins C dx [])) (hD : D.natAbs < 1073741824)
    (hz : D ≠ 0) (q : ∀ H', Same H H' → Rt C H' x (rp N D) (rq N D) → Q H') : spInit (K := K) M R C [.ref x, .int N, .int D] H2 (fun v H3 => v = .non ∧ Q H3) E :=
  init_use (Q := fun _ H3 => Q H3) hx0 s hx hD (fun e => absurd e hz) fun _ => q
end
section
variable {P : Program} {w : World} {K : PySem.W.Frag} {mg : Str → Option Value} {base : Heap}
theorem scRd : FnScope ["text", "top", "slash", "low", "piece", "found", "c"] ["text"] (defScope (top 19)) := ⟨rfl, rfl, rfl, by decide +kernel, rfl, by decide +kernel, by decide +kernel⟩
def NoAt (Nt : Addr) (H : Hp) (E : XK) : Prop := ∀ dd H', Same H H' → H' dd = some (.xd [("at", .int 0)]) → E (.ref Nt) (some dd) H'
theorem NoAt.to {Nt : Addr} {H H' : Hp} {E : XK} (h : NoAt Nt H E) (s : Same H H') : NoAt Nt H' E := fun dd H2 s2 e => h dd H2 (s.trans s2) e
def spRead (K : PySem.W.Frag) (Nt C : Addr) : Sp := fun vs H Q E => ∃ v, vs = [v] ∧ ((∃ t : Str, v = .str t ∧ (fit t = true ∨ 400 < t.length) ∧ t.length ≤ 2000 ∧ (∀ p q, rd t = some (p, q) → ∀ u H', Same H H' → Rp K H' u (ob C p q) → Q u H') ∧ (rd t = none → NoAt Nt H E)) ∨ (∃ d, Rp K H v d ∧ d.ty.isSome = true ∧ d.isS = false ∧ NoAt Nt H E))
theorem rd_long {t : Str} (h : 400 < t.length) : rd t = none := by unfold rd; dsimp only; rw [if_pos h]
/-- the facts that read_ratio leans on -/
structure RdF (P : Program) (w : World) (K : PySem.W.Frag) (mg : Str → Option Value) (base : Heap) (Fa M R C Nt fN : Addr) : Prop where
  T : Cls4 K mg Fa M R C
  TN : ClsT K mg M R Nt
  iN : PySem.W.findIn K (.ref Nt) "__init__" = some (some (.ref fN))
  tN : PySem.W.typeIn K (.ref fN) = some (.type "function")
  oN : ∃ fdN, FnOk P w K mg base CX0 1 fN fdN ["self", "at"] (spErr Nt "at") ∧ Binds K fdN ["self", "at"] []
  mkR : MakX P w K mg base (L2.CX P w) 3 "Ratio" C (spInit (K := K) M R C)
  neg : MetX P w K mg base (L2.CX P w) 5 C "__neg__" (spUn C fun p => -p)
  st : MetX P w K mg base CX0 1 C "__str__" (spAns C fun p q => .str (told p q))
theorem log_small {n : Nat} (h : n < 1073741824) : n.log2 < 1900 := by
  by_cases e : n = 0
  · rw [e]; decide
  · have := (Nat.log2_lt e).mpr (show n < 2 ^ 30 from h)
    omega
theorem ok_read_ratio {f Fa M R C Nt fN : Addr} {fd : FuncData} (F : Fun K "read_ratio" "read_ratio" (top 19) f fd) (Z : RdF P w K mg base Fa M R C Nt fN) (gS : ∃ t, mg "MOST_SIGNS" = some (.int 400 t)) (m1 : mg "isinstance" = none) (m2 : mg "str" = none) (m3 : mg "len" = none) (m4 : mg "all" = none) (m5 : mg "int" = none) : FnOk P w K mg base (L2.CX P w) 6 f fd ["text"] (spRead K Nt C) := by
  refine okXS F scRd (fun vs H Q E ⟨_, e, _⟩ => by rw [e]; rfl) ?_
  rintro cdv A outer s H _ Q E hr ⟨v, rfl, h⟩ hN nd tk
  obtain ⟨T, TN, iN, tN, ⟨fdN, oN, bN⟩, mk, neg, st⟩ := Z
  obtain ⟨tS, gS⟩ := gS
  have pp := passes_of (X := cxOf (L2.CX P w) P w K mg base ["text", "top", "slash", "low", "piece", "found", "c"] "read_ratio" (defScope (top 19)) f cdv A outer s H E) rfl
  have bad : ∀ {H1 : Hp} {E1 : Ends} {σ1 : Sl} {p1 p2 p3 p4 : Pos} {jj : Nat}, Same H H1 → NoAt Nt H E → QS (cxOf (L2.CX P w) P w K mg base ["text", "top", "slash", "low", "piece", "found", "c"] "read_ratio" (defScope (top 19)) f cdv A outer s H E) (.Raise (some (.Call (.Name "NoText" p1) [.Constant (.int 0) jj p2] [] p3)) none p4) E1 σ1 H1 :=
    fun {H1 E1 σ1 p1 p2 p3 p4 jj} s1 n => ws_raiseT rfl tk TN.oN iN tN oN hr (by decide) bN rfl TN.gN (fun dd H' s2 e => n dd H' (s1.trans s2) e) (by decide) rfl rfl
  change QB _ (_ :: (defBody (top 19)).drop 1) _ [some _, none, none, none, none, none, none] _
  rcases h with ⟨t, rfl, hf, hl, qg, qb⟩ | ⟨d, r, td, sd, qb⟩
  · have rt : Rp K H (.str t) (.str t) := .str t
    have hz : (100000 : Nat) < sizeLine := by decide
    kct_strs
    refine ifnb (fun e => by cases e) (fun _ => ?_)
    kct_strs
    refine callw_lenS (by omega) ?_
    kct_strs
    refine ifd (fun hlong => ?_) (fun hshort => ?_)
    · kct_strs
      exact bad (Same.refl _) (qb (rd_long (by omega)))
    have hshort : ¬ 400 < t.length := by omega
    have hf : fit t = true := hf.resolve_right hshort
    kct_strs
    change QB _ (_ :: (defBody (top 19)).drop 2) _ _ _
    kct_strs
    refine we_partS ?_ rfl rfl rfl
    refine we_rmpre ?_ rfl rfl rfl
    kct_strs
    unfold fit at hf
    dsimp only at hf
    simp only [Bool.and_eq_true, decide_eq_true_eq] at hf
    obtain ⟨⟨⟨⟨⟨⟨_, hl0⟩, hl1⟩, hl2⟩, hn2⟩, hn1⟩, _⟩ := hf
    have rdv : rd t = rd t := rfl
    conv at rdv => rhs; unfold rd
    dsimp only at rdv
    rw [if_neg hshort] at rdv
    refine ⟨by omega, ?_⟩
    kct_strs
    refine ⟨rfl, by omega, fun p H1 hp s1 e1 => ?_⟩
    generalize (Txt.partition (Txt.removeprefix t "-") "/").1 = top' at *
    generalize (Txt.partition (Txt.removeprefix t "-") "/").2.1 = sl at *
    generalize (Txt.partition (Txt.removeprefix t "-") "/").2.2 = low at *
    kct_strs
    have none_of : (okP top' = false ∨ okP (if decide (sl = ("/" : Str)) then low else "1") = false) → rd t = none := fun h => by
      rw [rdv]
      rcases h with h | h
      · rw [if_pos h]
      · rw [if_pos h]
        split <;> rfl
    -- the end
    have fin : ∀ (p q : Int) (u : V) (o1 : Option V) (H3 : Hp), Same H H3 → Rp K H3 u (ob C p q) → (0 < q ∧ q < 16384 ∧ p.natAbs < 1073741824) → (rd t = if told p q = t then some (p, q) else none) →
        QB (cxOf (L2.CX P w) P w K mg base ["text", "top", "slash", "low", "piece", "found", "c"] "read_ratio" (defScope (top 19)) f cdv A outer s H E) ((defBody (top 19)).drop 6) { nx := fun x H' => Q V.non H', rt := Q } [some (.str t), some (.str top'), some (.str sl), some (.str low), o1, some u, none] H3 := by
      intro p q u o1 H3 s3 r3 hb hrd
      obtain ⟨a, rfl, dx, ha⟩ := Rp.rat r3
      change QB _ (_ :: _ :: []) _ _ _
      kct_strs
      refine callw_strOwn st hr (by decide) ha ?_
      refine ⟨a, p, q, rfl, ⟨dx, ha⟩, ⟨hb.1, hb.2.1, log_small hb.2.2⟩, _, rfl, ?_⟩
      kct_strs
      refine ifn (fun e => ?_) (fun e => ?_)
      · kct_strs
        exact bad s3 (qb (by rw [hrd, if_neg e]))
      · kct_strs
        exact qg p q (by rw [hrd, if_pos e]) _ H3 s3 r3
    have tail : ∀ (d : Int) (u : V) (o1 : Option V) (H3 : Hp), Same H H3 → (0 < d ∧ d < 16384) → Rp K H3 u (ob C (rp (num top') d) (rq (num top') d)) →
        (rd t = if told (if Txt.startswith t "-" then rp (-rp (num top') d) (rq (num top') d) else rp (num top') d) (if Txt.startswith t "-" then rq (-rp (num top') d) (rq (num top') d) else rq (num top') d) = t then some (if Txt.startswith t "-" then rp (-rp (num top') d) (rq (num top') d) else rp (num top') d, if Txt.startswith t "-" then rq (-rp (num top') d) (rq (num top') d) else rq (num top') d) else none) →
        QB (cxOf (L2.CX P w) P w K mg base ["text", "top", "slash", "low", "piece", "found", "c"] "read_ratio" (defScope (top 19)) f cdv A outer s H E) ((defBody (top 19)).drop 5) { nx := fun x H' => Q V.non H', rt := Q } [some (.str t), some (.str top'), some (.str sl), some (.str low), o1, some u, none] H3 := by
      intro d u o1 H3 s3 hd r3 hrd
      obtain ⟨f1, _, _, f4⟩ := rat_facts (num top') d (by omega)
      have f5 := rp_le (num top') d
      obtain ⟨a, rfl, dx, ha⟩ := Rp.rat r3
      change QB _ (_ :: (defBody (top 19)).drop 6) _ _ _
      kct_strs
      refine we_starts ?_ rfl rfl rfl
      kct_strs
      cases hst : Txt.startswith t "-" with
      | true =>
        rw [if_pos rfl]
        kct_strs
        refine unw_own neg tk hr (by decide) ha ?_
        refine ⟨a, _, _, rfl, ⟨dx, ha⟩, by omega, by omega, fun c H4 s4 r4 => ?_⟩
        rw [hst] at hrd
        obtain ⟨g1, _, _, g4⟩ := rat_facts (-rp (num top') d) (rq (num top') d) (by omega)
        have g5 := rp_le (-rp (num top') d) (rq (num top') d)
        kct_strs
        exact fin (rp (-rp (num top') d) (rq (num top') d)) (rq (-rp (num top') d) (rq (num top') d)) _ _ _ (s3.trans s4) (Rt.dat r4) ⟨g1, by omega, by omega⟩ hrd
      | false =>
        rw [if_neg (by decide)]
        rw [hst] at hrd
        kct_strs
        exact fin _ _ _ _ _ s3 r3 ⟨f1, by omega, by omega⟩ hrd
    change QB _ (Stmt.For _ _ _ [] _ :: (defBody (top 19)).drop 3) _ _ _
    refine wss_cons ?_
    refine ws_forB true pp rfl (fun _ => rfl) ?_
    refine QE.imp (Q := fun v H2 => ∃ p2, v = .ref p2 ∧ Same H1 H2 ∧ H2 p2 = some (.tup [.str top', .str (if decide (sl = ("/" : Str)) then low else "1")])) ?_ ?_
    · kct_strs
      refine ifd (fun e => ?_) (fun e => ?_)
      · kct_strs
        rw [decide_eq_true e]
        exact ⟨Nat.le_of_ble_eq_true rfl, fun p2 H2 hp2 s2 e2 => ⟨p2, rfl, s2, e2⟩⟩
      · kct_strs
        rw [decide_eq_false e]
        exact ⟨Nat.le_of_ble_eq_true rfl, fun p2 H2 hp2 s2 e2 => ⟨p2, rfl, s2, e2⟩⟩
    rintro _ H2 ⟨p2, rfl, s2, e2⟩
    have hlp : (if decide (sl = ("/" : Str)) then low else "1").length ≤ 640 := by
      split
      · exact hl2
      · decide
    generalize hpl : (if decide (sl = ("/" : Str)) then low else "1") = pl at *
    have S2 := s1.trans s2
    refine ⟨[.str top', .str pl], .tupOf e2 (.cons (.str _) (.cons (.str _) .nil)), fun k σ' H' => Same H2 H' ∧ (1 ≤ k → okP top' = true) ∧ (2 ≤ k → okP pl = true) ∧ ∃ o1, σ' = [some (.str t), some (.str top'), some (.str sl), some (.str low), o1, none, none], ⟨Same.refl _, fun h => absurd h (by omega), fun h => absurd h (by omega), _, rfl⟩, fun k σ' H' h => h.1, ?_, ?_⟩
    · rintro k d w1 σ1 H3 hk ⟨s3, h1, h2, o1, rfl⟩ rw1
      obtain ⟨z, rfl, hz1, hz2, hz3, hk1⟩ : ∃ z, d = .str z ∧ z.length ≤ 640 ∧ (okP z = false → rd t = none) ∧ (okP z = true → (1 ≤ k + 1 → okP top' = true) ∧ (2 ≤ k + 1 → okP pl = true)) ∧ k < 2 := by
        match k, hk with
        | 0, hk => cases hk; exact ⟨_, rfl, hl1, fun e => none_of (.inl e), fun e => ⟨fun _ => e, fun h => absurd h (by omega)⟩, by omega⟩
        | 1, hk => cases hk; exact ⟨_, rfl, hlp, fun e => none_of (.inr e), fun e => ⟨fun _ => h1 (by omega), fun _ => e⟩, by omega⟩
      obtain rfl := rw1.str_inv
      show QG _ _ _ _ _ _
      kct_strs
      refine ifd (fun e => ?_) (fun e => ?_)
      · rw [if_pos rfl]
        kct_strs
        exact bad (S2.trans s3) (qb (hz2 (by rw [e]; rfl)))
      · kct_strs
        (with_reducible refine' ql_ch ?h ?hN ?nd ?hl ?hf ?q); (case hN => first | with_reducible assumption | assumption); (case h => infer_instance); (case nd => first | with_reducible assumption | assumption); (case hl => (intro _ _ _ _ _; first | exact Or.inl rfl | exact Or.inr rfl)); (case hf => (intro _ _ _ _ _; first | exact Or.inl rfl | exact Or.inr rfl)); (case' q => skip)
        kct_strs
        refine ⟨z, fun c => .bl (decide (48 ≤ c) && decide (c ≤ 57)), rfl, by omega, fun _ => rfl, fun c H4 hc s4 => ?_, fun p4 H4 ys s4 hp4 hp5 r4 => ?_⟩
        · intro s0 H00 C0 cl fp
          kct_strs
          refine opw_leS ?_
          show ∃ k, V.bl (!decide (([c] : List Nat) < [48])) = .bl k ∧ _
          rw [lt1]
          kct_strs
          refine ifd (fun e1 => ?_) (fun e1 => ?_)
          · kct_strs
            refine opw_leS ?_
            show _ ∧ Rp K _ (V.bl (!decide (([57] : List Nat) < [c]))) _
            dsimp only
            rw [lt1, decide_eq_true e1]
            exact ⟨Same.refl _, .bl _⟩
          · dsimp only
            rw [decide_eq_false e1]
            exact ⟨Same.refl _, .bl _⟩
        · kct_strs
          rw [show z.cps.toList.map (fun c => D.bl (decide (48 ≤ c) && decide (c ≤ 57))) = (z.cps.toList.map fun c => decide (48 ≤ c) && decide (c ≤ 57)).map D.bl by rw [List.map_map]; rfl] at r4
          refine callw_all rfl hp5 r4 ?_
          kct_strs
          have ea : okP z = (z.cps.toList.map fun c => decide (48 ≤ c) && decide (c ≤ 57)).all id := by
            unfold okP
            rw [decide_eq_false e, List.all_map]
            rfl
          cases eb : (z.cps.toList.map fun c => decide (48 ≤ c) && decide (c ≤ 57)).all id with
          | true =>
            rw [if_neg (by decide)]
            kct_strs
            obtain ⟨k1, k2⟩ := hz3 (by rw [ea, eb])
            exact ⟨s3.trans s4, k1, k2, _, rfl⟩
          | false =>
            rw [if_pos (by decide)]
            kct_strs
            exact bad ((S2.trans s3).trans s4) (qb (hz2 (by rw [ea, eb])))
    · rintro σ1 H3 ⟨s3, h1, h2, o1, rfl⟩
      have ot := h1 (by show 1 ≤ 2; omega)
      have op := h2 (by show 2 ≤ 2; omega)
      rw [if_neg (by rw [ot]; decide), if_neg (by rw [op]; decide)] at rdv
      have S3 := S2.trans s3
      change QB _ (_ :: _ :: (defBody (top 19)).drop 5) _ _ _
      kct_strs
      refine ifd (fun e => ?_) (fun e => ?_)
      · rw [decide_eq_true e, if_pos rfl] at hpl
        subst hpl
        rw [decide_eq_true e] at rdv
        kct_strs
        refine callw_intS (int_ok op hl2) (by omega) ?_
        kct_strs
        refine ifd (fun e0 => ?_) (fun e0 => ?_)
        · kct_strs
          exact bad S3 (qb (by rw [rdv, decide_eq_true e0]; rfl))
        · rw [decide_eq_false e0] at rdv
          have nz : ((num low : Nat) : Int) ≠ 0 := e0
          kct_strs
          refine callw_intS (int_ok ot hl1) (by omega) ?_
          kct_strs
          refine ifd (fun _ => ?_) (fun e9 => absurd e e9)
          kct_strs
          refine callw_intS (int_ok op hl2) (by omega) ?_
          kct_strs
          intro x dx2 H4 hx0 s4 hx hdx hne
          refine init_use2 (N := (num top' : Int)) (D := (num low : Int)) hx0 s4 hx (by omega) nz fun H5 s5 r5 => ?_
          kct_strs
          exact tail _ _ _ _ (S3.trans s5) (by omega) (Rt.dat r5) rdv
      · rw [decide_eq_false e] at hpl rdv
        rw [if_neg (by decide)]
        kct_strs
        refine callw_intS (int_ok ot hl1) (by omega) ?_
        kct_strs
        refine ifd (fun e9 => absurd e9 e) (fun _ => ?_)
        kct_strs
        intro x dx2 H4 hx0 s4 hx hdx hne
        refine init_use2 (N := (num top' : Int)) (D := 1) hx0 s4 hx (by decide) (by decide) fun H5 s5 r5 => ?_
        kct_strs
        exact tail _ _ _ _ (S3.trans s5) (by decide) (Rt.dat r5) rdv
  · kct_strs
    refine ifnb (fun e => ?_) (fun e => by rw [sd] at e; cases e)
    rw [if_pos rfl]
    kct_strs
    exact bad (Same.refl _) qb
end
/-- what a text's reading brings -/
def obO (C : Addr) : Option (Int × Int) → D
  | some (p, q) => ob C p q
  | none => .non
theorem obO_im (C : Addr) (o : Option (Int × Int)) : (obO C o).im = true := by
  cases o with
  | none => rfl
  | some z => obtain ⟨p, q⟩ := z; rfl
/-- how a ratio of z and 6 is written -/
def tz (z : Int) : Str := told (rp z 6) (rq z 6)
/-- what the law draws: z / 6 -/
def zok (z : Int) : Prop := ∃ n ∈ numsL, ∃ d ∈ dens, z * d = 6 * n
theorem nums_iff {n : Int} : n ∈ numsL ↔ -6 ≤ n ∧ n ≤ 6 := by
  unfold numsL
  rw [List.mem_map]
  constructor
  · rintro ⟨k, hk, rfl⟩
    have := List.mem_range.mp hk
    omega
  · rintro ⟨h1, h2⟩
    exact ⟨(n + 6).toNat, List.mem_range.mpr (by omega), by omega⟩
theorem dens_iff {d : Int} : d ∈ dens ↔ d = 1 ∨ d = 2 ∨ d = 3 := by simp [dens]
theorem zok.le {z : Int} (h : zok z) : z.natAbs ≤ 36 := by
  obtain ⟨n, hn, d, hd, e⟩ := h
  have := nums_iff.mp hn
  rcases dens_iff.mp hd with rfl | rfl | rfl <;> omega
theorem zok.own {z : Int} (h : zok z) : ∃ n ∈ numsL, ∃ d ∈ dens, tz z = ownOf n d ∧ rp z 6 = rp n d ∧ rq z 6 = rq n d := by
  obtain ⟨n, hn, d, hd, e⟩ := h
  have d0 : d ≠ 0 := by rcases dens_iff.mp hd with rfl | rfl | rfl <;> decide
  obtain ⟨e1, e2⟩ := upm (m := 6) (n := d) (a := z) (b := n) (by decide) d0 (by rw [e, Int.mul_comm])
  exact ⟨n, hn, d, hd, by unfold tz ownOf; rw [e1, e2], e1, e2⟩
theorem zok.own4 {z : Int} (h : zok z) : rd (tz z) = some (rp z 6, rq z 6) ∧ tz z ≠ "" ∧ tz z ≠ "-" ∧ (44 : Nat) ∉ (tz z).cps.toList ∧ (tz z).length ≤ 4 := by
  obtain ⟨n, hn, d, hd, e, e1, e2⟩ := h.own
  have f := List.all_eq_true.mp (List.all_eq_true.mp fin_D n hn) d hd
  simp only [Bool.and_eq_true, decide_eq_true_eq] at f
  obtain ⟨⟨⟨⟨f1, f2⟩, f3⟩, f4⟩, f5⟩ := f
  rw [e, e1, e2]
  exact ⟨f1, f2, f3, f4, f5⟩
section
variable {P : Program} {w : World} {K : PySem.W.Frag} {mg : Str → Option Value} {base : Heap}
theorem scRds : FnScope ["text", "piece"] ["text"] (defScope (top 20)) := ⟨rfl, rfl, rfl, by decide +kernel, rfl, by decide +kernel, by decide +kernel⟩
def tok (t : Str) : Prop := (fit t = true ∨ 400 < t.length) ∧ t.length ≤ 2000
def allR (t : Str) : Bool := (Txt.split t ",").all fun p => (rd p).isSome
def spReads (K : PySem.W.Frag) (Nt C : Addr) : Sp := fun vs H Q E => ∃ v, vs = [v] ∧ ((∃ t : Str, v = .str t ∧ t.length ≤ 9000 ∧ (t = "-" → ∀ u H', Same H H' → Rp K H' u (.tup []) → Q u H') ∧
  (t ≠ "-" → (∀ p ∈ Txt.split t ",", tok p) ∧ (Txt.split t ",").length < 1000 ∧ (allR t = true → ∀ u H', Same H H' → Rp K H' u (.tup ((Txt.split t ",").map fun p => obO C (rd p))) → Q u H') ∧ (allR t = false → NoAt Nt H E))) ∨ (∃ d, Rp K H v d ∧ d.ty.isSome = true ∧ d.isS = false ∧ NoAt Nt H E))
theorem strs_all : ∀ {H : Hp} (l : List Str), RpAll K H (l.map V.str) (l.map D.str)
  | _, [] => .nil
  | _, z :: r => .cons (.str z) (strs_all r)
theorem ok_read_ratios {f Fa M R C Nt fN : Addr} {fd : FuncData} (F : Fun K "read_ratios" "read_ratios" (top 20) f fd) (Z : RdF P w K mg base Fa M R C Nt fN) (cr : CalX P w K mg base 6 "read_ratio" (spRead K Nt C) []) (m1 : mg "isinstance" = none) (m2 : mg "str" = none) (m3 : mg "tuple" = none) : FnOk P w K mg base (L2.CX P w) 7 f fd ["text"] (spReads K Nt C) := by
  refine okXS F scRds (fun vs H Q E ⟨_, e, _⟩ => by rw [e]; rfl) ?_
  rintro cdv A outer s H _ Q E hr ⟨v, rfl, h⟩ hN nd tk
  obtain ⟨T, TN, iN, tN, ⟨fdN, oN, bN⟩, mk, neg, st⟩ := Z
  have hz : (100000 : Nat) < sizeLine := by decide
  have bad : ∀ {H1 : Hp} {E1 : Ends} {σ1 : Sl} {p1 p2 p3 p4 : Pos} {jj : Nat}, Same H H1 → NoAt Nt H E → QS (cxOf (L2.CX P w) P w K mg base ["text", "piece"] "read_ratios" (defScope (top 20)) f cdv A outer s H E) (.Raise (some (.Call (.Name "NoText" p1) [.Constant (.int 0) jj p2] [] p3)) none p4) E1 σ1 H1 :=
    fun {H1 E1 σ1 p1 p2 p3 p4 jj} s1 n => ws_raiseT rfl tk TN.oN iN tN oN hr (by decide) bN rfl TN.gN (fun dd H' s2 e => n dd H' (s1.trans s2) e) (by decide) rfl rfl
  change QB _ (_ :: (defBody (top 20)).drop 1) _ [some _, none] _
  rcases h with ⟨t, rfl, hl, q0, q1⟩ | ⟨d, r, td, sd, qb⟩
  · have rt : Rp K H (.str t) (.str t) := .str t
    kct_strs
    refine ifnb (fun e => by cases e) (fun _ => ?_)
    kct_strs
    change QB _ (_ :: (defBody (top 20)).drop 2) _ _ _
    kct_strs
    refine ifd (fun e => ?_) (fun e => ?_)
    · kct_strs
      exact ⟨Nat.le_of_ble_eq_true rfl, fun p H1 hp s1 e1 => q0 e _ H1 s1 (.tupOf e1 .nil)⟩
    · obtain ⟨hp, hlen, qg, qb⟩ := q1 e
      kct_strs
      change QB _ (_ :: []) _ _ _
      refine wss_one (ws_ret (we_type m3 rfl inferInstance (wa_cons rfl ?_)))
      refine' we_mX (N := ["text", "piece"]) (i := 1) (own := [("piece", 1)]) (W := fun c d _ H' => E c d H') (Wb := fun c d H' => c = .ref Nt ∧ allR t = false ∧ ∃ dd, d = some dd ∧ Same H H' ∧ H' dd = some (.xd [("at", .int 0)])) false rfl rfl nd ⟨rfl, of_decide_eq_true (by kernel_rfl), of_decide_eq_true (by kernel_rfl), of_decide_eq_true (by kernel_rfl), of_decide_eq_true (by kernel_rfl)⟩ (fun _ => rfl) rfl rfl tk ?hW (by infer_instance) hN (fun _ _ _ _ _ => by first | exact Or.inl rfl | exact Or.inr rfl) (fun _ _ _ _ _ => by first | exact Or.inl rfl | exact Or.inr rfl) ?q
      case hW =>
        rintro c d H' ⟨rfl, ea, dd, rfl, s3, e3⟩ _
        exact qb ea dd H' s3 e3
      case q =>
        refine we_splitS ?_ rfl rfl rfl
        kct_strs
        refine ⟨rfl, by omega, fun p H1 hp1 s1 e1 => ?_⟩
        refine ⟨Str, Txt.split t ",", D.str, fun p => obO C (rd p), fun p => (rd p).isSome = true, .lstOf e1 (strs_all _), by omega, fun a _ => obO_im C _, fun a ha u H3 s3 ru => ?_, fun p H3 ys s3 hp3 e3 r3 hall => ?_⟩
        · obtain rfl := ru.str_inv
          intro s0 H00 C0 cl fp
          have cr2 := cr
          refine we_callP (E := fun c d H' => c = .ref Nt ∧ allR t = false ∧ ∃ dd, d = some dd ∧ Same H H' ∧ H' dd = some (.xd [("at", .int 0)])) cr2 pass_xb hr (by decide) rfl ?_ (by decide) rfl rfl
          kct_strs
          refine ⟨.str a, rfl, .inl ⟨a, rfl, (hp a ha).1, (hp a ha).2, fun p q e u H4 s4 r4 => ⟨s4, by dsimp only; rw [e]; rfl, by dsimp only; rw [e]; exact r4⟩, fun e dd H4 s4 e4 => ⟨rfl, ?_, dd, rfl, s1.trans (s3.trans s4), e4⟩⟩⟩
          unfold allR
          rw [List.all_eq_false]
          exact ⟨a, ha, by rw [e]; decide⟩
        · kct_strs
          refine callw_tuple_l (.lstOf e3 r3) fun u H4 s4 r4 => ?_
          refine qg ?_ u H4 (s1.trans (s3.trans s4)) r4
          unfold allR
          exact List.all_eq_true.mpr hall
  · kct_strs
    refine ifnb (fun e => ?_) (fun e => by rw [sd] at e; cases e)
    kct_strs
    exact bad (Same.refl _) qb
theorem scTx : FnScope ["row", "x"] ["row"] (defScope (top 18)) := ⟨rfl, rfl, rfl, by decide +kernel, rfl, by decide +kernel, by decide +kernel⟩
def rowT (zs : List Int) : Str := Txt.join "," (zs.map tz)
def spTx (K : PySem.W.Frag) (C : Addr) : Sp := fun vs H Q _ => ∃ (v : V) (zs : List Int), vs = [v] ∧ Rp K H v (.tup (zs.map (rtd C 6))) ∧ zs.length ≤ 5 ∧ (∀ z ∈ zs, zok z) ∧ ∀ H', Same H H' → Q (.str (if zs.length = 0 then "-" else rowT zs)) H'
theorem sum_le (l : List Str) (B : Nat) (h : ∀ x ∈ l, x.length ≤ B) : (l.map (·.length)).sum ≤ l.length * B := by
  induction l with
  | nil => simp
  | cons a r ih =>
    have h1 := h a (by simp)
    have h2 := ih fun x hx => h x (by simp [hx])
    simp only [List.map_cons, List.sum_cons, List.length_cons, Nat.succ_mul]
    omega
theorem b6 {z : Int} (h : zok z) : 0 < rq z 6 ∧ rq z 6 < 16384 ∧ (rp z 6).natAbs.log2 < 1900 := by
  have hl := h.le
  obtain ⟨h1, _, _, h4⟩ := rat_facts z 6 (by decide)
  have := rp_le z 6
  refine ⟨h1, by omega, log_small (by omega)⟩
theorem ok_ratios_text {f C : Addr} {fd : FuncData} (F : Fun K "ratios_text" "ratios_text" (top 18) f fd) (st : MetX P w K mg base CX0 1 C "__str__" (spAns C fun p q => .str (told p q))) (m1 : mg "len" = none) (m2 : mg "str" = none) : FnOk P w K mg base CX0 4 f fd ["row"] (spTx K C) := by
  refine okS F scTx (fun vs H Q E ⟨_, _, e, _⟩ => by rw [e]; rfl) ?_
  rintro cdv A outer s H _ Q E hr ⟨v, zs, rfl, r, hl, hz, q⟩ hN nd
  have hs : (1000 : Nat) < sizeLine := by decide
  change QB _ (_ :: _) _ [some _, none] _
  kct_strs
  refine callw_len_t r ?_
  kct_strs
  rw [List.length_map]
  refine ifd (fun e => ?_) (fun e => ?_)
  · kct_strs
    refine ⟨rfl, ?_⟩
    kct_strs
    by_item
    kct_strs
    refine ⟨Int, zs, rtd C 6, fun z => .str (tz z), r, by omega, fun _ _ => rfl, fun z hzm u H2 s2 ru => ?_, fun p H2 ys s2 hp hp2 r2 => ?_⟩
    · obtain ⟨a, rfl, dx, ha⟩ := Rp.rat ru
      intro s0 H00 C0 cl fp
      have st2 := st
      kct_strs
      refine callw_strOwn st2 hr (by decide) ha ?_
      exact ⟨a, _, _, rfl, ⟨dx, ha⟩, b6 (hz z hzm), _, rfl, Same.refl _, .str _⟩
    · refine ⟨zs.map tz, .inl (by rw [List.map_map]; exact .lstOf hp2 r2), ?_, ?_⟩
      · have := sum_le (zs.map tz) 4 (fun x hx => by
          obtain ⟨z, hzm, rfl⟩ := List.mem_map.mp hx
          exact (hz z hzm).own4.2.2.2.2)
        rw [List.length_map] at this ⊢
        have h5 : (("," : Str)).length = 1 := rfl
        rw [h5]
        omega
      · have : zs.length ≠ 0 := by omega
        rw [if_neg this] at q
        exact q _ s2
  · kct_strs
    have : zs.length = 0 := by omega
    rw [if_pos this] at q
    exact q _ (Same.refl _)
end
section
variable {P : Program} {w : World} {K : PySem.W.Frag} {mg : Str → Option Value} {base : Heap}
theorem sc23 : FnScope ["one", "two", "k"] ["one", "two"] (defScope (top 26)) := ⟨rfl, rfl, rfl, by decide +kernel, rfl, by decide +kernel, by decide +kernel⟩
def spSameZ : Sp := fun vs H Q _ => (∃ i j : Int, vs = [.int i, .int j] ∧ Q (.bl (decide (i = j))) H) ∨ (∃ x y : Str, vs = [.str x, .str y] ∧ Q (.bl (decide (x = y))) H)
theorem ok_law_same {f : Addr} {fd : FuncData} (F : Fun K "_law_same" "_law_same" (top 26) f fd) (m1 : mg "isinstance" = none) (m2 : mg "tuple" = none) (m3 : mg "str" = none) (c1 : Cal P w K mg base 1 "_law_is_whole" (spWhole K) []) : FnOk P w K mg base CX0 2 f fd ["one", "two"] spSameZ := by
  refine okS F sc23 (fun vs H Q E h => by rcases h with ⟨_, _, e, _⟩ | ⟨_, _, e, _⟩ <;> rw [e] <;> rfl) ?_
  rintro cdv A outer s H _ Q E hr (⟨i, j, rfl, q⟩ | ⟨x, y, rfl, q⟩) hN nd
  · change QB _ (_ :: _) _ [some _, some _, none] _
    have r1 : Rp K H (.int i) (.int i) := .int i
    have r2 : Rp K H (.int j) (.int j) := .int j
    kct_strs
    refine ifb (fun e => by cases e) (fun _ => ?_)
    kct_strs
    refine ifb (fun e => by cases e) (fun _ => ?_)
    kct_strs
    refine ifb (fun e => by cases e) (fun _ => ?_)
    kct_strs
    refine ⟨_, _, rfl, r1, rfl, ?_⟩
    kct_strs
    refine ifb (fun _ => ?_) (fun e => by cases e)
    kct_strs
    exact q
  · change QB _ (_ :: _) _ [some _, some _, none] _
    have r1 : Rp K H (.str x) (.str x) := .str x
    have r2 : Rp K H (.str y) (.str y) := .str y
    kct_strs
    refine ifb (fun e => by cases e) (fun _ => ?_)
    kct_strs
    refine ifb (fun _ => ?_) (fun e => by cases e)
    kct_strs
    refine ifb (fun _ => ?_) (fun e => by cases e)
    kct_strs
    exact q
theorem scNu : FnScope ["state"] ["state"] (defScope (top 29)) := ⟨rfl, rfl, rfl, by decide +kernel, rfl, by decide +kernel, by decide +kernel⟩
theorem scNr : FnScope ["state", "many", "k"] ["state", "many"] (defScope (top 30)) := ⟨rfl, rfl, rfl, by decide +kernel, rfl, by decide +kernel, by decide +kernel⟩
def spNum (K : PySem.W.Frag) (C : Addr) : Sp := fun vs H Q _ => ∃ a : Addr, vs = [.ref a] ∧ St a H ∧ ∀ z u H', zok z → Ke a H H' → Rp K H' u (rtd C 6 z) → Q u H'
theorem ok_law_num {f M R C : Addr} {fd : FuncData} (F : Fun K "_law_num" "_law_num" (top 29) f fd) (mk : MakX P w K mg base (L2.CX P w) 3 "Ratio" C (spInit (K := K) M R C)) (c1 : Cal P w K mg base 1 "_law_take" spTake []) : FnOk P w K mg base (L2.CX P w) 5 f fd ["state"] (spNum K C) := by
  refine okXS F scNu (fun vs H Q E ⟨_, e, _⟩ => by rw [e]; rfl) ?_
  rintro cdv A outer s H _ Q E hr ⟨a, rfl, hs, q⟩ hN nd tk
  change QB _ (_ :: []) _ [some _] _
  kct_strs
  refine ⟨a, 13, rfl, by decide, hs, fun t1 H1 l1 u1 k1 => ?_⟩
  kct_strs
  refine ⟨a, 3, rfl, by decide, k1.t, fun t2 H2 l2 u2 k2 => ?_⟩
  kct_strs
  intro x dx H3 hx0 s3 hx hdx hne
  refine init_use (N := t1 - 6) (D := 1 + t2) hx0 s3 hx (by omega) (fun e => absurd e (by omega)) (fun e H4 s4 r4 => ?_)
  have k4 := (k1.trans k2).trans (Ke.of_same k2.t s4)
  have key : ∀ z : Int, z * (1 + t2) = (t1 - 6) * 6 → Rp K H4 (.ref x) (rtd C 6 z) := fun z hz => by
    obtain ⟨e1, e2⟩ := upm (m := 6) (n := 1 + t2) (a := z) (b := t1 - 6) (by decide) e hz
    unfold rtd
    rw [e1, e2]
    exact Rt.dat r4
  have mem : (t1 - 6) ∈ numsL ∧ (1 + t2) ∈ dens := ⟨nums_iff.mpr (by omega), dens_iff.mpr (by omega)⟩
  have h3 : t2 = 0 ∨ t2 = 1 ∨ t2 = 2 := by omega
  rcases h3 with rfl | rfl | rfl
  · exact q ((t1 - 6) * 6) _ H4 ⟨_, mem.1, _, mem.2, by omega⟩ k4 (key _ (by omega))
  · exact q ((t1 - 6) * 3) _ H4 ⟨_, mem.1, _, mem.2, by omega⟩ k4 (key _ (by omega))
  · exact q ((t1 - 6) * 2) _ H4 ⟨_, mem.1, _, mem.2, by omega⟩ k4 (key _ (by omega))
def spNr (K : PySem.W.Frag) (C : Addr) : Sp := fun vs H Q _ => ∃ (a : Addr) (n : Int), vs = [.ref a, .int n] ∧ (0 ≤ n ∧ n ≤ 5) ∧ St a H ∧ ∀ (zs : List Int) u H', zs.length = n.toNat → (∀ z ∈ zs, zok z) → Ke a H H' → Rp K H' u (.tup (zs.map (rtd C 6))) → Q u H'
theorem zs_of {C : Addr} : ∀ {ds : List D}, (∀ d ∈ ds, ∃ z, zok z ∧ d = rtd C 6 z) → ∃ zs : List Int, ds = zs.map (rtd C 6) ∧ ∀ z ∈ zs, zok z
  | [], _ => ⟨[], rfl, by simp⟩
  | d :: ds, h => by
    obtain ⟨z, hz, rfl⟩ := h d (by simp)
    obtain ⟨zs, rfl, hzs⟩ := zs_of (ds := ds) fun d hd => h d (by simp [hd])
    refine ⟨z :: zs, rfl, fun y hy => ?_⟩
    rcases List.mem_cons.mp hy with rfl | hy
    · exact hz
    · exact hzs y hy
theorem ok_law_num_row {f C : Addr} {fd : FuncData} (F : Fun K "_law_num_row" "_law_num_row" (top 30) f fd) (c1 : CalX P w K mg base 5 "_law_num" (spNum K C) []) (m1 : mg "tuple" = none) (m2 : mg "range" = none) : FnOk P w K mg base (L2.CX P w) 6 f fd ["state", "many"] (spNr K C) := by
  refine okXS F scNr (fun vs H Q E ⟨_, _, e, _⟩ => by rw [e]; rfl) ?_
  rintro cdv A outer s H _ Q E hr ⟨a, n, rfl, hn, hs, q⟩ hN nd tk
  have hz : (100000 : Nat) < sizeLine := by decide
  change QB _ (_ :: []) _ [some _, some _, none] _
  kct_strs
  pv_eval
  kct_strs
  refine ⟨by omega, a, fun d => ∃ z, zok z ∧ d = rtd C 6 z, hs, ?_, fun k H2 hk k2 => ?_, fun p H2 ys ds k2 hp hp2 r2 hl hall => ?_⟩
  · rintro d ⟨z, _, rfl⟩
    rfl
  · intro s0 H00 C0 cl fp
    have c2 := c1
    refine we_callX c2 takes0 hr (by decide) rfl ?_ (by decide) rfl rfl
    kct_strs
    exact ⟨a, rfl, k2.t, fun z u H3 hz k3 r3 => ⟨k3, _, ⟨z, hz, rfl⟩, r3⟩⟩
  · kct_strs
    refine callw_tuple_l (.lstOf hp2 r2) fun u H3 s3 r3 => ?_
    obtain ⟨zs, rfl, hzs⟩ := zs_of hall
    exact q zs u H3 (by rw [← hl, List.length_map]) hzs (k2.trans (Ke.of_same k2.t s3)) r3
theorem scRt : FnScope ["act", "given", "refused"] ["act", "given"] (defScope (top 28)) := ⟨rfl, rfl, rfl, by decide +kernel, rfl, by decide +kernel, by decide +kernel⟩
theorem scRx : FnScope ["act", "text", "error"] ["act", "text"] (defScope (top 31)) := ⟨rfl, rfl, rfl, by decide +kernel, rfl, by decide +kernel, by decide +kernel⟩
/-- what the def at fA brings for v: G, or Malformed (bM), or no text (bN) -/
structure Act (P : Program) (w : World) (K : PySem.W.Frag) (mg : Str → Option Value) (base : Heap) (M Nt fA : Addr) (v : V) (H : Hp) (G : V → Hp → Prop) (bM bN : Prop) : Prop where
  ex : ∃ (fd : FuncData) (ps : List Str) (sp : Sp), FnOk P w K mg base (L2.CX P w) 8 fA fd ps sp ∧ PySem.W.keepIn K (.ref fA) = true ∧ Binds K fd ps [] ∧
    ∀ H1, Same H H1 → ∀ (Q : VK) (E : XK), (∀ u H2, Same H1 H2 → G u H2 → Q u H2) → (bM → ∀ H2, Same H1 H2 → E (.ref M) none H2) → (bN → NoAt Nt H1 E) → sp [v] H1 Q E
def spResT (P : Program) (w : World) (K : PySem.W.Frag) (mg : Str → Option Value) (base : Heap) (M Nt : Addr) : Sp := fun vs H Q E => ∃ (fA g : Addr) (v : V) (G : V → Hp → Prop) (bM bN : Prop), vs = [.ref fA, .ref g] ∧ SqT K H g [v] ∧ Act P w K mg base M Nt fA v H G bM bN ∧
  (∀ u H1 p H', Same H H1 → G u H1 → Same H1 H' → H' p = some (.tup [.str "told", u]) → Q (.ref p) H') ∧ (bM → ∀ p H', Same H H' → H' p = some (.tup [.str "malformed", .non]) → Q (.ref p) H') ∧ (bN → NoAt Nt H E)
theorem ok_law_resultT {f Fa M R C Nt : Addr} {fd : FuncData} (F : Fun K "_law_result" "_law_result" (top 28) f fd) (T : Cls4 K mg Fa M R C) (TN : ClsT K mg M R Nt) (m1 : mg "len" = none) : FnOk P w K mg base (L2.CX P w) 9 f fd ["act", "given"] (spResT P w K mg base M Nt) := by
  refine okXS F scRt (fun vs H Q E ⟨_, _, _, _, _, _, e, _⟩ => by rw [e]; rfl) ?_
  rintro cdv A outer s H _ Q E hr ⟨fA, g, v, G, bM, bN, rfl, hg, ⟨fdA, psA, spA, FA, kA, bA, act⟩, qG, qM, qN⟩ hN nd tk0
  change QB _ (_ :: _) _ [some _, some _, none] _
  kct_strs
  refine ws_try (W := fun c d _ H' => E c d H') rfl rfl tk0 (.bare ⟨rfl, by decide, .inl T.gM⟩ su_sem (.as (i := 2) ⟨rfl, by decide, .inl T.gR⟩ nd rfl rfl su_sem .nil)) ?_
  intro pn xe tk hp
  kct_strs
  refine callw_len_st hg ?_
  kct_strs
  refine ifd (fun e => ?_) (fun e => absurd rfl e)
  kct_strs
  refine we_callLS (i := 0) FA kA bA tk hr (by decide) (by infer_instance) hN (.inl rfl) ?_ (by decide) (by decide) rfl rfl
  kct_strs
  refine ixw_st hg (v := v) rfl ?_
  kct_strs
  refine act H (Same.refl _) _ _ (fun u H1 s1 hG => ?_) (fun hM H1 s1 => ?_) (fun hN0 dd H1 s1 e1 => ?_)
  · kct_strs
    exact ⟨Nat.le_of_ble_eq_true rfl, fun p H2 hp s2 e2 => qG u H1 p H2 s1 hG s2 e2⟩
  · refine ⟨true, T.eMM, fun _ a ha => ?_, fun e => by cases e⟩
    intro o pn hz hf
    change QB _ (_ :: []) _ [some _, some _, none] _
    kct_strs
    exact ⟨Nat.le_of_ble_eq_true rfl, fun p H2 hp s2 e2 => qM hM p H2 (s1.trans s2) e2⟩
  · exact ⟨false, TN.eNM, (fun e => by cases e), fun _ => ⟨false, TN.eNR, (fun e => by cases e), fun _ => qN hN0 dd H1 s1 e1⟩⟩
def spLR (P : Program) (w : World) (K : PySem.W.Frag) (mg : Str → Option Value) (base : Heap) (M Nt : Addr) : Sp := fun vs H Q _ => ∃ (fA : Addr) (v : V) (G : V → Hp → Prop) (bN : Prop), vs = [.ref fA, v] ∧ Act P w K mg base M Nt fA v H G False bN ∧
  (∀ u H1 p H', Same H H1 → G u H1 → Same H1 H' → H' p = some (.tup [.str "told", u]) → Q (.ref p) H') ∧ (bN → ∀ p H', Same H H' → H' p = some (.tup [.str "text", .int 0]) → Q (.ref p) H')
theorem ok_law_read {f Fa M R C Nt : Addr} {fd : FuncData} (F : Fun K "_law_read" "_law_read" (top 31) f fd) (T : Cls4 K mg Fa M R C) (TN : ClsT K mg M R Nt) (c1 : CalX P w K mg base 9 "_law_result" (spResT P w K mg base M Nt) []) : FnOk P w K mg base CX0 10 f fd ["act", "text"] (spLR P w K mg base M Nt) := by
  refine okS F scRx (fun vs H Q E ⟨_, _, _, _, e, _⟩ => by rw [e]; rfl) ?_
  rintro cdv A outer s H _ Q E hr ⟨fA, v, G, bN, rfl, act, qG, qN⟩ hN nd
  change QB _ (_ :: _) _ [some _, some _, none] _
  kct_strs
  refine ws_try (W := fun _ _ _ _ => False) rfl rfl takes0 (.as (i := 2) ⟨rfl, by decide, .inl TN.gN⟩ nd rfl rfl su_sem .nil) ?_
  intro pn xe tk hp
  refine wss_one (ws_ret ?_)
  refine we_callS c1 tk hr (by decide) rfl ?_ (by decide) rfl rfl
  kct_strs
  refine ⟨Nat.le_of_ble_eq_true rfl, fun g H1 hg s1 e1 => ?_⟩
  kct_strs
  obtain ⟨fdA, psA, spA, FA, kA, bA, act⟩ := act
  refine ⟨fA, g, v, fun u H2 => Same H1 H2 ∧ G u H2, False, bN, rfl, .inl (.inl e1), ⟨fdA, psA, spA, FA, kA, bA, fun H2 s2 Q' E' h1 h2 h3 => act H2 (s1.trans s2) Q' E' (fun u H3 s3 hG => ?_) (fun h => h.elim) h3⟩, fun u H2 p H3 s2 hG s3 e3 => ?_, fun h => h.elim, fun hN0 dd H2 s2 e2 => ?_⟩
  · exact h1 u H3 s3 ⟨s2.trans s3, hG⟩
  · exact qG u H2 p H3 (s1.trans s2) hG.2 s3 e3
  · refine ⟨true, TN.eNN, fun _ a ha => ?_, fun e => by cases e⟩
    intro o pn hz hf
    change QB _ (_ :: []) _ [some _, some _, some _] _
    refine wss_one (ws_ret (we_tup (wa_cons rfl (we_str (wa_cons rfl (we_xf TN.xN TN.nN hz hf rfl ?_))))))
    kct_strs
    refine ⟨rfl, dd, _, .int 0, rfl, e2, rfl, ?_⟩
    kct_strs
    exact ⟨Nat.le_of_ble_eq_true rfl, fun p H3 hp s3 e3 => qN hN0 p H3 ((s1.trans s2).trans s3) e3⟩
end
theorem okD_int {s : Str} (h : okD s = true) (hne : s ≠ "") (hl : s.length ≤ 640) : intText? s = some ((num s : Nat) : Int) := by
  refine PySem.intText_digits (fun c hc => ?_) (fun e => ?_) (by omega)
  · have h1 := of_decide_eq_true (List.all_eq_true.mp h c hc)
    have h2 : ∀ c ∈ ("0123456789" : Str).cps.toList, 48 ≤ c ∧ c ≤ 57 := by decide
    exact h2 c h1
  · apply hne
    obtain ⟨a⟩ := s
    have e : a.toList = [] := e
    have : a = #[] := Array.toList_eq_nil_iff.mp e
    subst this
    rfl
section
variable {P : Program} {w : World} {K : PySem.W.Frag} {mg : Str → Option Value} {base : Heap}
theorem scIs : FnScope ["text", "own", "parts", "part", "c"] ["text"] (defScope (top 32)) := ⟨rfl, rfl, rfl, by decide +kernel, rfl, by decide +kernel, by decide +kernel⟩
def spIsT : Sp := fun vs H Q _ => ∃ t : Str, vs = [.str t] ∧ tok t ∧ ∀ H', Same H H' → Q (.bl (isT t)) H'
theorem ok_law_is_text {f : Addr} {fd : FuncData} (F : Fun K "_law_is_text" "_law_is_text" (top 32) f fd) (c1 : Cal P w K mg base 1 "_law_common" spCommon []) (m1 : mg "len" = none) (m2 : mg "any" = none) (m3 : mg "all" = none) (m4 : mg "int" = none) : FnOk P w K mg base CX0 2 f fd ["text"] spIsT := by
  refine okS F scIs (fun vs H Q E ⟨_, e, _⟩ => by rw [e]; rfl) ?_
  rintro cdv A outer s H _ Q E hr ⟨t, rfl, ht, q⟩ hN nd
  have hz : (100000 : Nat) < sizeLine := by decide
  have hl2 := ht.2
  change QB _ (_ :: (defBody (top 32)).drop 1) _ [some _, none, none, none, none] _
  have isv : isT t = isT t := rfl
  conv at isv => rhs; unfold isT
  dsimp only at isv
  have lo : (if cutS t none (some 1) = "-" then cutS t (some 1) none else t).length ≤ t.length := by
    split
    · exact cutS_length _ _ _
    · exact Nat.le_refl _
  have pl : 400 < t.length ∨ ∀ p ∈ Txt.split (if cutS t none (some 1) = "-" then cutS t (some 1) none else t) "/", p.length ≤ 640 := by
    rcases ht.1 with hf | hf
    · right
      unfold fit at hf
      simp only [Bool.and_eq_true] at hf
      intro p hp
      exact of_decide_eq_true (List.all_eq_true.mp hf.2 p hp)
    · exact .inl hf
  generalize how : (if cutS t none (some 1) = "-" then cutS t (some 1) none else t) = own at *
  have s1 : ∀ (W0 : VK), W0 (.str own) H → QE (cxOf CX0 P w K mg base ["text", "own", "parts", "part", "c"] "_law_is_text" (defScope (top 32)) f cdv A outer s H E).nox (match (defBody (top 32)).getD 0 (.Pass ⟨0, 0, 0, 0⟩) with | .Assign _ e _ => e | _ => .Name "" ⟨0, 0, 0, 0⟩) [some (.str t), none, none, none, none] H W0 := by
    intro W0 h
    show QE _ (.IfExp _ _ _ _) _ _ _
    kct_strs
    refine we_slHiS ?_
    kct_strs
    refine ⟨t, 1, rfl, rfl, by omega, ?_⟩
    kct_strs
    refine ifd (fun e => ?_) (fun e => ?_)
    · rw [if_pos e] at how
      refine we_slLoS ?_
      kct_strs
      refine ⟨t, 1, rfl, rfl, by omega, ?_⟩
      rw [how]
      exact h
    · rw [if_neg e] at how
      kct_strs
      rw [how]
      exact h
  refine wss_cons (ws_asg rfl rfl rfl (s1 _ ?_))
  kct_strs
  change QB _ (_ :: (defBody (top 32)).drop 2) _ _ _
  kct_strs
  refine we_splitS ?_ rfl rfl rfl
  kct_strs
  refine ⟨rfl, by omega, fun ps H1 hps s2 e2 => ?_⟩
  generalize hparts : Txt.split own "/" = parts at *
  have rp1 : Rp K H1 (.ref ps) (.lst (parts.map D.str)) := .lstOf e2 (strs_all _)
  kct_strs
  change QB _ (_ :: (defBody (top 32)).drop 3) _ _ _
  kct_strs
  refine callw_lenS (by omega) ?_
  kct_strs
  refine ifd (fun e => ?_) (fun e => ?_)
  · rw [if_pos rfl]
    kct_strs
    rw [if_pos (by omega)] at isv
    rw [isv] at q
    exact q _ s2
  have e400 : ¬ 400 < t.length := by omega
  rw [if_neg e400] at isv
  have pl := pl.resolve_left e400
  kct_strs
  refine callw_len_l rp1 ?_
  kct_strs
  rw [List.length_map]
  refine ifd (fun e => ?_) (fun e => ?_)
  · rw [if_pos rfl]
    kct_strs
    rw [if_pos (by omega)] at isv
    rw [isv] at q
    exact q _ s2
  rw [if_neg (by omega)] at isv
  kct_strs
  by_place
  kct_strs
  refine ⟨Str, parts, D.str, fun p => .bl (decide (p = "") || !okD p), rp1, by omega, fun _ _ => rfl, fun p hp u H2 s3 ru => ?_, fun pa H2 ys s3 hp hp2 r2 => ?_⟩
  · obtain rfl := ru.str_inv
    have hpl := pl p hp
    intro s0 H00 C0 cl fp
    kct_strs
    refine ifd (fun e => ?_) (fun e => ?_)
    · dsimp only
      rw [decide_eq_true e]
      exact ⟨Same.refl _, .bl _⟩
    · kct_strs
      (with_reducible refine' ql_ch ?h ?hN ?nd ?hl ?hf ?q); (case hN => first | with_reducible assumption | assumption); (case h => infer_instance); (case nd => first | with_reducible assumption | assumption); (case hl => (intro _ _ _ _ _; first | exact Or.inl rfl | exact Or.inr rfl)); (case hf => (intro _ _ _ _ _; first | exact Or.inl rfl | exact Or.inr rfl)); (case' q => skip)
      kct_strs
      refine ⟨p, fun c => .bl (decide (c ∈ ("0123456789" : Str).cps.toList)), rfl, by omega, fun _ => rfl, fun c H3 hc s4 => ?_, fun pb H3 ys s4 hp3 hp4 r4 => ?_⟩
      · intro s0 H00 C0 cl fp
        refine we_cmp rfl ?_
        kct_strs
        refine opw_inS ?_
        exact ⟨Same.refl _, .bl _⟩
      · kct_strs
        rw [show p.cps.toList.map (fun c => D.bl (decide (c ∈ ("0123456789" : Str).cps.toList))) = (p.cps.toList.map fun c => decide (c ∈ ("0123456789" : Str).cps.toList)).map D.bl by rw [List.map_map]; rfl] at r4
        refine callw_all rfl hp4 r4 ?_
        kct_strs
        have ea : okD p = (p.cps.toList.map fun c => decide (c ∈ ("0123456789" : Str).cps.toList)).all id := by
          unfold okD
          rw [List.all_map]
          rfl
        rw [← ea]
        dsimp only
        rw [decide_eq_false e]
        exact ⟨s4, .bl _⟩
  kct_strs
  rw [show parts.map (fun p : Str => D.bl (decide (p = "") || !okD p)) = (parts.map fun p : Str => decide (p = "") || !okD p).map D.bl by rw [List.map_map]; rfl] at r2
  refine callw_any rfl hp2 r2 ?_
  have ea : (parts.any fun p : Str => decide (p = "") || !okD p) = (parts.map fun p : Str => decide (p = "") || !okD p).any id := by rw [List.any_map]; rfl
  rw [← ea]
  kct_strs
  have S3 := s2.trans s3
  have rp3 := rp1.to s3
  cases e3 : (parts.any fun p : Str => decide (p = "") || !okD p) with
  | true =>
    rw [if_pos rfl]
    kct_strs
    rw [if_pos e3] at isv
    rw [isv] at q
    exact q _ S3
  | false =>
    rw [if_neg (by decide)]
    rw [if_neg (by rw [e3]; decide)] at isv
    have okp : ∀ p ∈ parts, p ≠ "" ∧ okD p = true := fun p hp => by
      have := List.any_eq_false.mp e3 p hp
      simp only [Bool.not_eq_true, Bool.or_eq_false_iff, decide_eq_false_iff_not, Bool.not_eq_false'] at this
      exact this
    kct_strs
    change QB _ (_ :: (defBody (top 32)).drop 4) _ _ _
    kct_strs
    by_place
    kct_strs
    refine ⟨Str, parts, D.str, fun p => .bl (lead0 p), rp3, by omega, fun _ _ => rfl, fun p hp u H3 s4 ru => ?_, fun pb H3 ys s4 hp3 hp4 r4 => ?_⟩
    · obtain rfl := ru.str_inv
      have hpl := pl p hp
      intro s0 H00 C0 cl fp
      kct_strs
      refine callw_lenS (by omega) ?_
      kct_strs
      refine ifd (fun e => ?_) (fun e => ?_)
      · kct_strs
        obtain ⟨c, rest, hc⟩ : ∃ c rest, p.cps.toList = c :: rest := by
          cases h : p.cps.toList with
          | nil =>
            have : p.length = 0 := by show p.cps.size = 0; rw [← Array.length_toList, h]; rfl
            omega
          | cons c rest => exact ⟨c, rest, rfl⟩
        refine ixw_s (by omega) (c := c) (by rw [hc]; exact atI_nat (k := 0) (by simp)) ?_
        kct_strs
        have e5 : lead0 p = decide ((⟨#[c]⟩ : Str) = "0") := by
          unfold lead0
          rw [decide_eq_true (show 1 < p.length by omega), hc, Bool.true_and]
          refine decide_eq_decide.mpr ?_
          constructor
          · intro h
            injection h with h
            rw [h]
            rfl
          · intro h
            have : (⟨#[c]⟩ : Str).cps.toList = ("0" : Str).cps.toList := by rw [h]
            exact congrArg List.head? this
        dsimp only
        rw [e5]
        exact ⟨Same.refl _, .bl _⟩
      · have e5 : lead0 p = false := by
          unfold lead0
          rw [decide_eq_false (show ¬ 1 < p.length by omega)]
          rfl
        dsimp only
        rw [e5]
        exact ⟨Same.refl _, .bl _⟩
    kct_strs
    rw [show parts.map (fun p => D.bl (lead0 p)) = (parts.map lead0).map D.bl by rw [List.map_map]; rfl] at r4
    refine callw_any rfl hp4 r4 ?_
    rw [show (parts.map lead0).any id = parts.any lead0 by rw [List.any_map]; rfl]
    kct_strs
    have S4 := S3.trans s4
    have rp4 := rp3.to s4
    cases e6 : parts.any lead0 with
    | true =>
      rw [if_pos rfl]
      kct_strs
      rw [if_pos rfl]
      kct_strs
      rw [if_pos e6] at isv
      rw [isv] at q
      exact q _ S4
    | false =>
      rw [if_neg (by decide)]
      rw [if_neg (by rw [e6]; decide)] at isv
      kct_strs
      refine we_slHiS ?_
      kct_strs
      refine ⟨t, 2, rfl, rfl, by omega, ?_⟩
      kct_strs
      refine ifd (fun e => ?_) (fun e => ?_)
      · kct_strs
        rw [if_pos e] at isv
        rw [isv] at q
        exact q _ S4
      · rw [if_neg e] at isv
        kct_strs
        change QB _ (_ :: (defBody (top 32)).drop 5) _ _ _
        kct_strs
        refine callw_len_l rp4 ?_
        kct_strs
        rw [List.length_map]
        refine ifd (fun e7 => ?_) (fun e7 => ?_)
        · kct_strs
          rw [if_pos (by omega)] at isv
          rw [isv] at q
          exact q _ S4
        · rw [if_neg (by omega)] at isv
          have hne : parts ≠ [] := by
            intro h
            have hsp := TL.split_spl own "/" (by decide) (TL.kind_ok (by decide +kernel))
            rw [hparts, h] at hsp
            have : ∀ (l : List Nat) (k : Nat) (acc : List Nat), TL.spl (TL.tl "/") k acc l ≠ [] := by
              intro l
              induction l with
              | nil => intro k acc; rw [TL.spl_nil]; simp
              | cons c r ih =>
                intro k acc
                cases k with
                | succ k => exact ih k acc
                | zero =>
                  cases hpr : TL.pre (TL.tl "/") (c :: r) with
                  | true => rw [TL.spl_hit hpr]; simp
                  | false => rw [TL.spl_miss hpr]; exact ih 0 _
            exact this _ _ _ hsp.symm
          obtain ⟨a, b, rfl⟩ : ∃ a b, parts = [a, b] := by
            match parts, hne, e, e7 with
            | [a], _, _, e7 => exact absurd rfl e7
            | [a, b], _, _, _ => exact ⟨a, b, rfl⟩
            | a :: b :: c :: r, _, _, _ => simp at *; omega
          obtain ⟨na, da⟩ := okp a (by simp)
          obtain ⟨nb, db⟩ := okp b (by simp)
          have la := pl a (by simp)
          have lb := pl b (by simp)
          kct_strs
          change QB _ (_ :: []) _ _ _
          kct_strs
          refine ixw_lst rp4 (d := .str b) rfl fun w1 r1 => ?_
          obtain rfl := r1.str_inv
          kct_strs
          refine callw_intS (okD_int db nb lb) lb ?_
          kct_strs
          have isv' : isT t = (decide (1 < num b) && decide (Nat.gcd (num a) (num b) = 1)) := isv
          refine ifd (fun e8 => ?_) (fun e8 => ?_)
          · kct_strs
            refine ixw_lst rp4 (d := .str a) rfl fun w2 r2 => ?_
            obtain rfl := r2.str_inv
            kct_strs
            refine callw_intS (okD_int da na la) la ?_
            kct_strs
            refine ixw_lst rp4 (d := .str b) rfl fun w3 r3 => ?_
            obtain rfl := r3.str_inv
            kct_strs
            refine callw_intS (okD_int db nb lb) lb ?_
            kct_strs
            refine ⟨_, _, rfl, ?_⟩
            kct_strs
            have : isT t = decide (((Int.gcd (num a : Int) (num b : Int) : Nat) : Int) = 1) := by
              rw [isv', decide_eq_true (show 1 < num b by omega), Bool.true_and]
              refine decide_eq_decide.mpr ?_
              rw [show Int.gcd (num a : Int) (num b : Int) = Nat.gcd (num a) (num b) from rfl]
              omega
            rw [← this]
            exact q _ S4
          · have : isT t = false := by rw [isv', decide_eq_false (show ¬ 1 < num b by omega)]; rfl
            rw [← this]
            exact q _ S4
end
theorem scL : FnScope ("script" :: "state" :: "extent" :: "row" :: "other" :: "whole" :: "product" :: "across" :: "x" :: "y" :: "value" :: "good" :: "mixed" :: "text" :: "own" :: "at" :: "mark" :: "bent" :: "told" :: "line" :: "bad" :: "part" :: "act" :: []) ["script"] (defScope (top 33)) := ⟨rfl, rfl, rfl, by decide +kernel, rfl, by decide +kernel, by decide +kernel⟩
def LX (P : Program) (w : World) (K : PySem.W.Frag) (mg : Str → Option Value) (base : Heap) (f : Addr) (cdv : Value) (A : Around) (outer : List Env) (s : Shared) (H : Hp) (E : XK) : Cx := (cxOf CX0 P w K mg base ("script" :: "state" :: "extent" :: "row" :: "other" :: "whole" :: "product" :: "across" :: "x" :: "y" :: "value" :: "good" :: "mixed" :: "text" :: "own" :: "at" :: "mark" :: "bent" :: "told" :: "line" :: "bad" :: "part" :: "act" :: []) "law" (defScope (top 33)) f cdv A outer s H E).nox
structure Fx (X : Cx) (fR fA fB Fa M R C Nt : Addr) : Prop where
  hN : X.N = (("script" :: "state" :: "extent" :: "row" :: "other" :: "whole" :: "product" :: "across" :: "x" :: "y" :: "value" :: "good" :: "mixed" :: "text" :: "own" :: "at" :: "mark" :: "bent" :: "told" :: "line" :: "bad" :: "part" :: "act" :: []) : List Str)
  nd : X.N.Nodup
  hr : Room 11 X.A
  tk : Takes X (fun _ _ _ _ => False)
  n_tuple : X.mg "tuple" = none
  n_zip : X.mg "zip" = none
  n_isinstance : X.mg "isinstance" = none
  n_all : X.mg "all" = none
  n_list : X.mg "list" = none
  n_len : X.mg "len" = none
  n_str : X.mg "str" = none
  g_ratios : X.mg "ratios" = some (.ref fR)
  o_ratios : ∃ fd ps, FnOk X.prog X.w X.K X.mg X.base (L2.CX X.prog X.w) 8 fR fd ps (spRs X.K M C) ∧ PySem.W.keepIn X.K (.ref fR) = true ∧ Binds X.K fd ps []
  g_read_ratio : X.mg "read_ratio" = some (.ref fA)
  o_read_ratio : ∃ fd ps, FnOk X.prog X.w X.K X.mg X.base (L2.CX X.prog X.w) 8 fA fd ps (spRead X.K Nt C) ∧ PySem.W.keepIn X.K (.ref fA) = true ∧ Binds X.K fd ps []
  g_read_ratios : X.mg "read_ratios" = some (.ref fB)
  o_read_ratios : ∃ fd ps, FnOk X.prog X.w X.K X.mg X.base (L2.CX X.prog X.w) 8 fB fd ps (spReads X.K Nt C) ∧ PySem.W.keepIn X.K (.ref fB) = true ∧ Binds X.K fd ps []
  g_ratio : X.mg "Ratio" = some (.ref C)
  c_law_state : Cal X.prog X.w X.K X.mg X.base 1 "_law_state" (spState X.K) []
  c_law_take : Cal X.prog X.w X.K X.mg X.base 1 "_law_take" (spTake) []
  c_law_says : Cal X.prog X.w X.K X.mg X.base 1 "_law_says" (spSays) []
  c_is_ratio_row : Cal X.prog X.w X.K X.mg X.base 2 "is_ratio_row" (spRR X.K C) []
  c_ratios_text : Cal X.prog X.w X.K X.mg X.base 4 "ratios_text" (spTx X.K C) []
  c_law_same : Cal X.prog X.w X.K X.mg X.base 2 "_law_same" (spSameZ) []
  c_law_read : Cal X.prog X.w X.K X.mg X.base 10 "_law_read" (spLR X.prog X.w X.K X.mg X.base M Nt) []
  c_law_is_text : Cal X.prog X.w X.K X.mg X.base 2 "_law_is_text" (spIsT) []
  x_law_num_row : CalX X.prog X.w X.K X.mg X.base 6 "_law_num_row" (spNr X.K C) []
  x_ratio_sum : CalX X.prog X.w X.K X.mg X.base 6 "ratio_sum" (spSum X.K C) []
  x_ratio_product : CalX X.prog X.w X.K X.mg X.base 6 "ratio_product" (spProd X.K C) []
  x_dot : CalX X.prog X.w X.K X.mg X.base 7 "dot" (spDot X.K C) []
  x_ratios : CalX X.prog X.w X.K X.mg X.base 5 "ratios" (spRs X.K M C) []
  x_law_result : CalX X.prog X.w X.K X.mg X.base 9 "_law_result" (spResT X.prog X.w X.K X.mg X.base M Nt) []
  m_eq : MetX X.prog X.w X.K X.mg X.base CX0 1 C "__eq__" (spEqR X.K C)
  m_str : MetX X.prog X.w X.K X.mg X.base CX0 1 C "__str__" (spAns C fun p q => .str (told p q))
  m_add : MetX X.prog X.w X.K X.mg X.base (L2.CX X.prog X.w) 5 C "__add__" (spOp X.K M R C (fun p q p' q' => p * q' + p' * q) (fun p q p' q' => q * q'))
  m_mul : MetX X.prog X.w X.K X.mg X.base (L2.CX X.prog X.w) 5 C "__mul__" (spOp X.K M R C (fun p q p' q' => p * p') (fun p q p' q' => q * q'))
  mkD : MakD X.prog X.w X.K X.mg X.base (L2.CX X.prog X.w) 3 "Ratio" C (spInit (K := X.K) M R C) [.int 1]
  T : Cls4 X.K X.mg Fa M R C
/-- what the law has drawn -/
structure Dr (n : Nat) (zs ws : List Int) : Prop where
  n15 : 1 ≤ n ∧ n ≤ 5
  lz : zs.length = n
  lw : ws.length = n
  oz : ∀ z ∈ zs, zok z
  ow : ∀ z ∈ ws, zok z
theorem zok.sm {z : Int} (h : zok z) : z.natAbs < 16384 := by have := h.le; omega
theorem rtd_im (C : Addr) (m z : Int) : (rtd C m z).im = true := rfl
theorem imT {C : Addr} {m : Int} {zs : List Int} : (D.tup (zs.map (rtd C m))).im = true := imAll_map fun _ => rfl
/-- the sums and the product that the law makes -/
structure Su (K : PySem.W.Frag) (C : Addr) (H : Hp) (n : Nat) (zs ws : List Int) (vr vo vw vp va : V) : Prop where
  r : Rp K H vr (.tup (zs.map (rtd C 6)))
  o : Rp K H vo (.tup (ws.map (rtd C 6)))
  w : Rp K H vw (rtd C 6 zs.sum)
  p : Rp K H vp (rtd C (6 ^ n) (prodI zs))
  a : Rp K H va (rtd C 36 (List.zipWith (fun a b => a * b) zs ws).sum)
/-- the body of the first for -/
def lb4 : List Stmt := match (defBody (top 33)).getD 4 (.Pass ⟨0, 0, 0, 0⟩) with
  | .For _ _ b _ _ => b
  | _ => []
section
variable {P : Program} {w : World} {K : PySem.W.Frag} {mg : Str → Option Value} {base : Heap} {f fR fA fB Fa M R C Nt : Addr} {cdv : Value} {A : Around} {outer : List Env} {s : Shared} {H0 : Hp} {E0 : XK}
theorem law_1 {v : V} {ns : List Int} {H : Hp} (T0 : Fx (LX P w K mg base f cdv A outer s H0 E0) fR fA fB Fa M R C Nt) (rp0 : Rp K H v (.lst (ns.map .int))) (hl : ns.length ≤ 63) {D0 : Ends}
    (q : ∀ (vs : Addr) (n : Nat) (zs ws : List Int) (vr vo vw vp va : V) (ox oy : Option V) H', St vs H' → Dr n zs ws → Su K C H' n zs ws vr vo vw vp va → QB (LX P w K mg base f cdv A outer s H0 E0) ((defBody (top 33)).drop 5) D0 (some (v) :: some (.ref vs) :: some (.int n) :: some (vr) :: some (vo) :: some (vw) :: some (vp) :: some (va) :: ox :: oy :: none :: none :: none :: none :: none :: none :: none :: none :: none :: none :: none :: none :: none :: []) H') :
    QB (LX P w K mg base f cdv A outer s H0 E0) (defBody (top 33)) D0 (some (v) :: none :: none :: none :: none :: none :: none :: none :: none :: none :: none :: none :: none :: none :: none :: none :: none :: none :: none :: none :: none :: none :: none :: []) H := by
  obtain ⟨hN, nd, hr, tk, n_tuple, n_zip, n_isinstance, n_all, n_list, n_len, n_str, g_ratios, o_ratios, g_read_ratio, o_read_ratio, g_read_ratios, o_read_ratios, g_ratio, c_law_state, c_law_take, c_law_says, c_is_ratio_row, c_ratios_text, c_law_same, c_law_read, c_law_is_text, x_law_num_row, x_ratio_sum, x_ratio_product, x_dot, x_ratios, x_law_result, m_eq, m_str, m_add, m_mul, mkD, T⟩ := T0
  have hz : (1000 : Nat) < sizeLine := by decide
  change QB _ (_ :: _ :: _ :: _ :: (defBody (top 33)).drop 4) _ _ _
  kct_strs
  refine ⟨v, ns, rfl, rp0, hl, fun s0 t0 vs H1 s1 e1 => ?_⟩
  have hs1 : St vs H1 := ⟨_, _, e1⟩
  kct_strs
  refine ⟨vs, 5, rfl, by decide, hs1, fun t1 H2 l1 u1 k2 => ?_⟩
  obtain ⟨n, hn⟩ : ∃ n : Nat, 1 + t1 = n := ⟨(1 + t1).toNat, by omega⟩
  have n15 : 1 ≤ n ∧ n ≤ 5 := by omega
  kct_strs
  rw [hn]
  kct_strs
  refine ⟨vs, n, rfl, by omega, k2.t, fun zs vr H3 lz oz k3 r3 => ?_⟩
  kct_strs
  refine ⟨vs, n, rfl, by omega, k3.t, fun ws vo H4 lw ow k4 r4 => ?_⟩
  kct_strs
  have r3' := k4.rp k3.t r3 imT
  have Dn : Dr n zs ws := ⟨n15, by rw [lz]; omega, by rw [lw]; omega, oz, ow⟩
  (with_reducible refine' we_mk1 mkD tk hr ?hk ?hg ?q1 ?hs ?hp); (case hk => decide); (case hg => exact rfl); (case hs => exact rfl); (case hp => exact rfl); (case' q1 => skip)
  kct_strs
  intro vw H5 s5 r5
  kct_strs
  (with_reducible refine' we_mk1 mkD tk hr ?hk ?hg ?q2 ?hs ?hp); (case hk => decide); (case hg => exact rfl); (case hs => exact rfl); (case hp => exact rfl); (case' q2 => skip)
  kct_strs
  intro vp H6 s6 r6
  kct_strs
  (with_reducible refine' we_mk1 mkD tk hr ?hk ?hg ?q3 ?hs ?hp); (case hk => decide); (case hg => exact rfl); (case hs => exact rfl); (case hp => exact rfl); (case' q3 => skip)
  kct_strs
  intro va H7 s7 r7
  have S7 := s5.trans (s6.trans s7)
  kct_strs
  change QB _ (Stmt.For _ _ lb4 [] _ :: (defBody (top 33)).drop 5) _ _ _
  refine wss_cons ?_
  fin_iter
  kct_strs
  have e0 : ∀ {u : V} {H1 H2 : Hp} {m : Int}, 0 < m → Same H1 H2 → Rp K H1 u (rtd C 1 0) → Rp K H2 u (rtd C m 0) := fun {u H1 H2 m} hm s r => by
    obtain ⟨e1, e2⟩ := upm (m := 1) (n := m) (a := 0) (b := 0) (by decide) (by omega) (by simp)
    have := r.to s
    unfold rtd at this ⊢
    rw [← e1, ← e2]
    exact this
  refine ⟨true, true, _, _, r3'.to S7, r4.to S7, fun k σ' H' => Same H7 H' ∧ ∃ (u1 u2 u3 : V) (o1 o2 : Option V), Rp K H' u1 (rtd C 6 (zs.take k).sum) ∧ Rp K H' u2 (rtd C (6 ^ k) (prodI (zs.take k))) ∧ Rp K H' u3 (rtd C 36 ((List.zipWith (fun a b => a * b) zs ws).take k).sum) ∧ σ' = (some (v) :: some (.ref vs) :: some (.int n) :: some (vr) :: some (vo) :: some (u1) :: some (u2) :: some (u3) :: o1 :: o2 :: none :: none :: none :: none :: none :: none :: none :: none :: none :: none :: none :: none :: none :: []),
    ⟨Same.refl _, vw, vp, va, _, _, e0 (by decide) (s6.trans s7) r5, (by rw [Int.pow_zero]; exact r6.to s7), e0 (by decide) (Same.refl _) r7, rfl⟩, fun k σ' H' h => h.1, ?_, ?_⟩
  · rintro k d1 d2 w1 w2 p σ3 H8 H9 hd1 hd2 ⟨s8, u1, u2, u3, o1, o2, q1, q2, q3, rfl⟩ s9 hp rw1 rw2
    obtain ⟨z, ez, rfl⟩ := map_at hd1
    obtain ⟨y, ey, rfl⟩ := map_at hd2
    have hk4 : k ≤ 4 := by
      have := (List.getElem?_eq_some_iff.mp ez).1
      rw [Dn.lz] at this
      omega
    have oz1 := oz z (List.mem_of_getElem? ez)
    have oy1 := ow y (List.mem_of_getElem? ey)
    have q1 := q1.to s9
    have q2 := q2.to s9
    have q3 := q3.to s9
    have l1 := oz1.le
    have l2 := oy1.le
    have zy : (z * y).natAbs < 16384 := by
      rw [Int.natAbs_mul]
      exact Nat.lt_of_le_of_lt (Nat.mul_le_mul l1 l2) (by decide)
    kct_strs
    change QB _ (_ :: []) _ _ _
    kct_strs
    refine opw_addR (mg := mg) m_add T tk hr (by decide) q1 rw1 (by decide) oz1.sm fun u4 H10 s10 r10 => ?_
    kct_strs
    refine opw_mulR (mg := mg) m_mul T tk hr (by decide) (q2.to s10) (rw1.to s10) (pow6 hk4) (by decide) oz1.sm fun u5 H11 s11 r11 => ?_
    kct_strs
    have s1011 := s10.trans s11
    refine opw_mulR (mg := mg) m_mul T tk hr (by decide) (rw1.to s1011) (rw2.to s1011) (by decide) (by decide) oy1.sm fun u6 H12 s12 r12 => ?_
    kct_strs
    refine opw_addR (mg := mg) (m := 36) m_add T tk hr (by decide) (q3.to (s1011.trans s12)) r12 (by decide) zy fun u7 H13 s13 r13 => ?_
    kct_strs
    have ezy : (List.zipWith (fun a b => a * b) zs ws)[k]? = some (z * y) := by rw [List.getElem?_zipWith, ez, ey]
    refine ⟨s8.trans (s9.trans (s1011.trans (s12.trans s13))), u4, u5, u7, _, _, ?_, ?_, ?_, rfl⟩
    · rw [take_succ' ez, sum_snoc]
      exact r10.to (s11.trans (s12.trans s13))
    · rw [take_succ' ez, prod_snoc, Int.pow_succ]
      exact r11.to (s12.trans s13)
    · rw [take_succ' ezy, sum_snoc]
      exact r13
  · rintro σ3 H8 ⟨s8, u1, u2, u3, o1, o2, q1, q2, q3, rfl⟩
    have el : min (zs.map (rtd C 6)).length (ws.map (rtd C 6)).length = n := by
      rw [List.length_map, List.length_map, Dn.lz, Dn.lw]
      exact Nat.min_self n
    rw [el] at q1 q2 q3
    have t1 : zs.take n = zs := by rw [← Dn.lz, List.take_length]
    have t3 : (List.zipWith (fun a b => a * b) zs ws).take n = List.zipWith (fun a b => a * b) zs ws := by
      apply List.take_of_length_le
      rw [List.length_zipWith, Dn.lz, Dn.lw]
      exact Nat.le_of_eq (Nat.min_self n)
    rw [t1] at q1 q2
    rw [t3] at q3
    have S8 := S7.trans s8
    exact q vs n zs ws vr vo u1 u2 u3 _ _ H8 (k4.t.same S8) Dn ⟨r3'.to S8, r4.to S8, q1, q2, q3⟩
end
/-- ratios alike -/
def RtEq (C : Addr) (a b : Addr) (H : Hp) : Prop := ∃ p q : Int, Rt C H a p q ∧ Rt C H b p q
theorem rt_ext {C : Addr} {H H' : Hp} {a : Addr} {p q : Int} (h : Rt C H a p q) (e : Ext H H') : Rt C H' a p q := by
  obtain ⟨dx, h⟩ := h
  exact ⟨dx, e _ _ h⟩
theorem mon_rat {C : Addr} : Mon (DIns C (RtEq C)) := mon_ins fun a b H H' e ⟨p, q, h1, h2⟩ => ⟨p, q, rt_ext h1 e, rt_ext h2 e⟩
theorem eqG_rat {X : Cx} {C : Addr} (m : MetX X.prog X.w X.K X.mg X.base CX0 1 C "__eq__" (spEqR X.K C)) : EqG X 1 (DIns C (RtEq C)) := by
  obtain ⟨f, fd, ps, F, hm, bd⟩ := m.ex
  refine eqG_ins (E := fun _ _ _ => False) (F.imp fun vs H Q E ⟨a, b, e, ⟨p', q', h1, h2⟩, q⟩ => ⟨a, .ref b, _, _, e, h1, .inl ⟨b, _, _, rfl, h2, fun c hc => ?_⟩⟩) hm.at_ hm.fn bd pass0
  rw [hc.mpr ⟨rfl, rfl⟩]
  exact q H Ext.rfl'
theorem ins_of {K : PySem.W.Frag} {C : Addr} {H : Hp} {x y : V} {p q : Int} (h1 : Rp K H x (ob C p q)) (h2 : Rp K H y (ob C p q)) : DIns C (RtEq C) x y H := by
  obtain ⟨a, rfl, dx, k1⟩ := Rp.rat h1
  obtain ⟨b, rfl, dy, k2⟩ := Rp.rat h2
  exact ⟨a, b, dx, dy, _, _, rfl, rfl, k1, k2, p, q, ⟨dx, k1⟩, ⟨dy, k2⟩⟩
theorem prs_of {K : PySem.W.Frag} {C : Addr} {H : Hp} : ∀ {ds : List D} {xs ys : List V}, (∀ d ∈ ds, ∃ p q, d = ob C p q) → RpAll K H xs ds → RpAll K H ys ds → Prs (DIns C (RtEq C)) xs ys H
  | [], _, _, _, .nil, .nil => Prs.nil
  | d :: ds, _, _, h, .cons r1 t1, .cons r2 t2 => by
    obtain ⟨p, q, rfl⟩ := h d (by simp)
    exact Prs.cons (ins_of r1 r2) (prs_of (fun d hd => h d (by simp [hd])) t1 t2)
theorem dtup_of {K : PySem.W.Frag} {C : Addr} {H : Hp} {x y : V} {ds : List D} (h : ∀ d ∈ ds, ∃ p q, d = ob C p q) (h1 : Rp K H x (.tup ds)) (h2 : Rp K H y (.tup ds)) : DTup K (DIns C (RtEq C)) x y H := by
  obtain ⟨a, xs, rfl, s1, r1⟩ := h1.tup_inv
  obtain ⟨b, ys, rfl, s2, r2⟩ := h2.tup_inv
  exact ⟨a, b, xs, ys, rfl, rfl, s1, s2, prs_of h r1 r2⟩
theorem rtd0 (C : Addr) {m : Int} (hm : 0 < m) : rtd C 1 0 = rtd C m 0 := by
  obtain ⟨e1, e2⟩ := upm (m := 1) (n := m) (a := 0) (b := 0) (by decide) (by omega) (by simp)
  unfold rtd
  rw [e1, e2]
section
variable {P : Program} {w : World} {K : PySem.W.Frag} {mg : Str → Option Value} {base : Heap} {f fR fA fB Fa M R C Nt : Addr} {cdv : Value} {A : Around} {outer : List Env} {s : Shared} {H0 : Hp} {E0 : XK}
theorem law_2 {v vr vo vw vp va : V} {ox oy : Option V} {vs : Addr} {n : Nat} {zs ws : List Int} {H : Hp} (T0 : Fx (LX P w K mg base f cdv A outer s H0 E0) fR fA fB Fa M R C Nt) (Dn : Dr n zs ws) (S0 : Su K C H n zs ws vr vo vw vp va) {D0 : Ends}
    (q : ∀ H', Same H H' → QB (LX P w K mg base f cdv A outer s H0 E0) ((defBody (top 33)).drop 6) D0 (some (v) :: some (.ref vs) :: some (.int n) :: some (vr) :: some (vo) :: some (vw) :: some (vp) :: some (va) :: ox :: oy :: none :: none :: none :: none :: none :: none :: none :: none :: none :: none :: none :: none :: none :: []) H') :
    QB (LX P w K mg base f cdv A outer s H0 E0) ((defBody (top 33)).drop 5) D0 (some (v) :: some (.ref vs) :: some (.int n) :: some (vr) :: some (vo) :: some (vw) :: some (vp) :: some (va) :: ox :: oy :: none :: none :: none :: none :: none :: none :: none :: none :: none :: none :: none :: none :: none :: []) H := by
  obtain ⟨hN, nd, hr, tk, n_tuple, n_zip, n_isinstance, n_all, n_list, n_len, n_str, g_ratios, o_ratios, g_read_ratio, o_read_ratio, g_read_ratios, o_read_ratios, g_ratio, c_law_state, c_law_take, c_law_says, c_is_ratio_row, c_ratios_text, c_law_same, c_law_read, c_law_is_text, x_law_num_row, x_ratio_sum, x_ratio_product, x_dot, x_ratios, x_law_result, m_eq, m_str, m_add, m_mul, mkD, T⟩ := T0
  have hz : (1000 : Nat) < sizeLine := by decide
  obtain ⟨rr, ro, rw0, rp0, ra⟩ := S0
  have osm : ∀ z ∈ zs, z.natAbs < 16384 := fun z hz => (Dn.oz z hz).sm
  have l5 : zs.length ≤ 5 := by rw [Dn.lz]; exact Dn.n15.2
  change QB _ (_ :: (defBody (top 33)).drop 6) _ _ _
  kct_strs
  refine ⟨vr, true, 6, zs, rfl, rr, by decide, osm, fun u1 H1 s1 r1 => ?_⟩
  kct_strs
  refine callw_list (b := true) (rr.to s1) fun p2 H2 xs2 hp2 s2 e2 r2 => ?_
  kct_strs
  have S2 := s1.trans s2
  refine ⟨.ref p2, false, 6, zs, rfl, .lstOf e2 r2, by decide, osm, fun u3 H3 s3 r3 => ?_⟩
  have S3 := S2.trans s3
  kct_strs
  refine ⟨vr, true, zs, rfl, rr.to S3, l5, osm, fun u4 H4 s4 r4 => ?_⟩
  have S4 := S3.trans s4
  kct_strs
  refine ⟨vr, vo, zs, ws, rfl, rr.to S4, ro.to S4, l5, fun z hz => (Dn.oz z hz).le, fun z hz => (Dn.ow z hz).le, fun u5 H5 s5 r5 => ?_⟩
  have S5 := S4.trans s5
  kct_strs
  refine ⟨Nat.le_of_ble_eq_true rfl, fun p6 H6 hp6 s6 e6 => ?_⟩
  kct_strs
  refine ⟨.ref p6, true, 6, [], rfl, .tupOf e6 .nil, by decide, by simp, fun u7 H7 s7 r7 => ?_⟩
  kct_strs
  refine ⟨Nat.le_of_ble_eq_true rfl, fun p8 H8 hp8 s8 e8 => ?_⟩
  kct_strs
  refine ⟨.ref p8, true, [], rfl, .tupOf e8 .nil, by decide, by simp, fun u9 H9 s9 r9 => ?_⟩
  have S9 := s6.trans (s7.trans (s8.trans s9))
  kct_strs
  refine ⟨by show 6 ≤ _; omega, fun pl H10 hpl s10 e10 => ?_⟩
  kct_strs
  (with_reducible refine' we_mk1 mkD tk hr ?hk ?hg ?q1 ?hs ?hp); (case hk => decide); (case hg => exact rfl); (case hs => exact rfl); (case hp => exact rfl); (case' q1 => skip)
  kct_strs
  intro u11 H11 s11 r11
  kct_strs
  (with_reducible refine' we_mk1 mkD tk hr ?hk ?hg ?q2 ?hs ?hp); (case hk => decide); (case hg => exact rfl); (case hs => exact rfl); (case hp => exact rfl); (case' q2 => skip)
  kct_strs
  intro u12 H12 s12 r12
  kct_strs
  refine ⟨by show 6 ≤ _; omega, fun pm H13 hpm s13 e13 => ?_⟩
  kct_strs
  have T9 := s10.trans (s11.trans (s12.trans s13))
  have T5 := S9.trans T9
  have T4 := s5.trans T5
  have T3 := s4.trans T4
  have T0' := S5.trans T5
  refine opw_neLst (n := 1) mon_rat (eqG_rat m_eq) (hr.mono (by decide)) ⟨pl, pm, _, _, rfl, rfl, (s11.trans (s12.trans s13)) _ _ e10, e13, ?_⟩ fun H14 s14 => ?_
  · have k1 : Rp K H13 u1 (rtd C 6 zs.sum) := r1.to (s2.trans (s3.trans T3))
    have k3 : Rp K H13 u3 (rtd C 6 zs.sum) := r3.to T3
    have k4 : Rp K H13 u4 (rtd C (6 ^ n) (prodI zs)) := by
      have := r4.to T4
      rw [Dn.lz] at this
      exact this
    have k5 := r5.to T5
    have k7 : Rp K H13 u7 (rtd C 1 0) := by rw [rtd0 C (m := 6) (by decide)]; exact r7.to (s8.trans (s9.trans T9))
    have k9 : Rp K H13 u9 (rtd C 1 1) := r9.to T9
    exact Prs.cons (ins_of k1 (rw0.to T0')) (Prs.cons (ins_of k3 (rw0.to T0')) (Prs.cons (ins_of k4 (rp0.to T0')) (Prs.cons (ins_of k5 (ra.to T0')) (Prs.cons (ins_of k7 (r11.to (s12.trans s13))) (Prs.cons (ins_of k9 (r12.to s13)) Prs.nil)))))
  · kct_strs
    refine ifb (fun e => by cases e) (fun _ => ?_)
    kct_strs
    exact q _ (T0'.trans s14)
end
/-- what the law asks is_ratio_row of -/
def okV (C : Addr) (d : D) : Prop := d.ty.isSome = true ∧ ∀ es, d = .tup es → (∀ e ∈ es, okI C e) ∧ es.length < 1000
theorem okI_rows {C : Addr} {m : Int} {zs : List Int} : ∀ e ∈ zs.map (rtd C m), okI C e := fun e he => by
  obtain ⟨z, _, rfl⟩ := List.mem_map.mp he
  exact rfl
def vals9 (C : Addr) (zs : List Int) : List D := [.tup (zs.map (rtd C 6)), .lst (zs.map (rtd C 6)), .tup [], .tup [rtd C 1 1, .int 1], .tup [.non], .non, .int 5, .str "x", .tup [.tup (zs.map (rtd C 6))]]
theorem vals9_ok {C : Addr} {zs : List Int} (hl : zs.length ≤ 5) : ∀ d ∈ vals9 C zs, okV C d := by
  intro d hd
  simp only [vals9, List.mem_cons, List.not_mem_nil, or_false] at hd
  rcases hd with rfl | rfl | rfl | rfl | rfl | rfl | rfl | rfl | rfl
  · refine ⟨rfl, fun es e => ?_⟩
    injection e with e
    subst e
    exact ⟨okI_rows, by rw [List.length_map]; omega⟩
  · exact ⟨rfl, fun es e => by cases e⟩
  · exact ⟨rfl, fun es e => by cases e; exact ⟨by simp, by simp⟩⟩
  · refine ⟨rfl, fun es e => ?_⟩
    injection e with e
    subst e
    refine ⟨fun e he => ?_, by simp⟩
    simp only [List.mem_cons, List.not_mem_nil, or_false] at he
    rcases he with rfl | rfl
    · exact rfl
    · trivial
  · refine ⟨rfl, fun es e => ?_⟩
    injection e with e
    subst e
    refine ⟨fun e he => ?_, by simp⟩
    simp only [List.mem_cons, List.not_mem_nil, or_false] at he
    subst he
    trivial
  · exact ⟨rfl, fun es e => by cases e⟩
  · exact ⟨rfl, fun es e => by cases e⟩
  · exact ⟨rfl, fun es e => by cases e⟩
  · refine ⟨rfl, fun es e => ?_⟩
    injection e with e
    subst e
    refine ⟨fun e he => ?_, by simp⟩
    simp only [List.mem_cons, List.not_mem_nil, or_false] at he
    subst he
    trivial
/-- the body of the second for -/
def lb6 : List Stmt := match (defBody (top 33)).getD 6 (.Pass ⟨0, 0, 0, 0⟩) with
  | .For _ _ b _ _ => b
  | _ => []
section
variable {P : Program} {w : World} {K : PySem.W.Frag} {mg : Str → Option Value} {base : Heap} {f fR fA fB Fa M R C Nt : Addr} {cdv : Value} {A : Around} {outer : List Env} {s : Shared} {H0 : Hp} {E0 : XK}
theorem law_b6 {v vr vo vw vp va u : V} {ox oy og : Option V} {vs : Addr} {n : Nat} {H : Hp} {d : D} (T0 : Fx (LX P w K mg base f cdv A outer s H0 E0) fR fA fB Fa M R C Nt) (ru : Rp K H u d) (hd : okV C d) {D0 : Ends}
    (q : ∀ (og : Option V) H', Same H H' → D0.nx (some (v) :: some (.ref vs) :: some (.int n) :: some (vr) :: some (vo) :: some (vw) :: some (vp) :: some (va) :: ox :: oy :: some (u) :: og :: none :: none :: none :: none :: none :: none :: none :: none :: none :: none :: none :: []) H') :
    QB (LX P w K mg base f cdv A outer s H0 E0) lb6 D0 (some (v) :: some (.ref vs) :: some (.int n) :: some (vr) :: some (vo) :: some (vw) :: some (vp) :: some (va) :: ox :: oy :: some (u) :: og :: none :: none :: none :: none :: none :: none :: none :: none :: none :: none :: none :: []) H := by
  obtain ⟨hN, nd, hr, tk, n_tuple, n_zip, n_isinstance, n_all, n_list, n_len, n_str, g_ratios, o_ratios, g_read_ratio, o_read_ratio, g_read_ratios, o_read_ratios, g_ratio, c_law_state, c_law_take, c_law_says, c_is_ratio_row, c_ratios_text, c_law_same, c_law_read, c_law_is_text, x_law_num_row, x_ratio_sum, x_ratio_product, x_dot, x_ratios, x_law_result, m_eq, m_str, m_add, m_mul, mkD, T⟩ := T0
  have hz : (1000 : Nat) < sizeLine := by decide
  obtain ⟨ty, ht⟩ := hd
  have gC := T.gC
  change QB _ (_ :: lb6.drop 1) _ _ _
  refine wss_cons (ws_asg rfl rfl rfl (QE.imp (Q := fun v H' => v = .bl (isRR d) ∧ Same H H') ?_ ?_))
  · kct_strs
    refine ifb (fun e1 => ?_) (fun e1 => ?_)
    · cases d <;> cases e1
      rename_i ds
      kct_strs
      mem_news
      kct_strs
      obtain ⟨ht, hlen⟩ := ht ds rfl
      refine ⟨ds, ru, by omega, fun e => .bl (isRat e), ⟨fun _ _ => rfl, fun d u2 H2 hd s2 r => ?_⟩, fun p H2 ys s2 hp hp2 r => ?_⟩
      · intro s0 H00 C0 cl fp
        kct_strs
        exact isi_rt (mg := mg) T r (ht d hd) ⟨Same.refl _, .bl _⟩
      · kct_strs
        rw [show ds.map (fun e => D.bl (isRat e)) = (ds.map isRat).map D.bl by simp] at r
        refine callw_all rfl hp2 r ?_
        have e2 : ((ds.map isRat).all id) = isRR (.tup ds) := by simp [isRR, List.all_map]
        rw [e2]
        exact ⟨rfl, s2⟩
    · have e2 : isRR d = false := by cases d <;> first | rfl | cases e1
      rw [e2]
      exact ⟨rfl, Same.refl _⟩
  · rintro _ H1 ⟨rfl, s1⟩
    kct_strs
    change QB _ (_ :: []) _ _ _
    kct_strs
    refine ⟨u, d, rfl, ru.to s1, ty, ht, fun H2 s2 => ?_⟩
    kct_strs
    refine ⟨_, _, rfl, ?_⟩
    kct_strs
    rw [decide_eq_true rfl]
    refine ifnb (fun e => by cases e) (fun _ => ?_)
    kct_strs
    exact q _ _ (s1.trans s2)
theorem law_3 {v vr vo vw vp va : V} {ox oy : Option V} {vs : Addr} {n : Nat} {zs ws : List Int} {H : Hp} (T0 : Fx (LX P w K mg base f cdv A outer s H0 E0) fR fA fB Fa M R C Nt) (Dn : Dr n zs ws) (S0 : Su K C H n zs ws vr vo vw vp va) {D0 : Ends}
    (q : ∀ (o1 o2 : Option V) H', Same H H' → QB (LX P w K mg base f cdv A outer s H0 E0) ((defBody (top 33)).drop 7) D0 (some (v) :: some (.ref vs) :: some (.int n) :: some (vr) :: some (vo) :: some (vw) :: some (vp) :: some (va) :: ox :: oy :: o1 :: o2 :: none :: none :: none :: none :: none :: none :: none :: none :: none :: none :: none :: []) H') :
    QB (LX P w K mg base f cdv A outer s H0 E0) ((defBody (top 33)).drop 6) D0 (some (v) :: some (.ref vs) :: some (.int n) :: some (vr) :: some (vo) :: some (vw) :: some (vp) :: some (va) :: ox :: oy :: none :: none :: none :: none :: none :: none :: none :: none :: none :: none :: none :: none :: none :: []) H := by
  have TT := T0
  obtain ⟨hN, nd, hr, tk, n_tuple, n_zip, n_isinstance, n_all, n_list, n_len, n_str, g_ratios, o_ratios, g_read_ratio, o_read_ratio, g_read_ratios, o_read_ratios, g_ratio, c_law_state, c_law_take, c_law_says, c_is_ratio_row, c_ratios_text, c_law_same, c_law_read, c_law_is_text, x_law_num_row, x_ratio_sum, x_ratio_product, x_dot, x_ratios, x_law_result, m_eq, m_str, m_add, m_mul, mkD, T⟩ := T0
  have hz : (1000 : Nat) < sizeLine := by decide
  have rr := S0.r
  have l5 : zs.length ≤ 5 := by rw [Dn.lz]; exact Dn.n15.2
  change QB _ (Stmt.For _ _ lb6 [] _ :: (defBody (top 33)).drop 7) _ _ _
  refine wss_cons ?_
  one_place
  kct_strs
  refine callw_list (b := true) rr fun p2 H2 xs2 hp2 s2 e2 r2 => ?_
  kct_strs
  refine ⟨Nat.le_of_ble_eq_true rfl, fun p3 H3 hp3 s3 e3 => ?_⟩
  kct_strs
  (with_reducible refine' we_mk1 mkD tk hr ?hk ?hg ?q1 ?hs ?hp); (case hk => decide); (case hg => exact rfl); (case hs => exact rfl); (case hp => exact rfl); (case' q1 => skip)
  kct_strs
  intro u4 H4 s4 r4
  kct_strs
  refine ⟨Nat.le_of_ble_eq_true rfl, fun p5 H5 hp5 s5 e5 => ?_⟩
  kct_strs
  refine ⟨Nat.le_of_ble_eq_true rfl, fun p6 H6 hp6 s6 e6 => ?_⟩
  kct_strs
  refine ⟨Nat.le_of_ble_eq_true rfl, fun p7 H7 hp7 s7 e7 => ?_⟩
  kct_strs
  refine ⟨Nat.le_of_ble_eq_true rfl, fun p8 H8 hp8 s8 e8 => ?_⟩
  have t6 := s7.trans s8
  have t5 := s6.trans t6
  have t4 := s5.trans t5
  have t3 := s4.trans t4
  have t2 := s3.trans t3
  have t1 := s2.trans t2
  have rr8 := rr.to t1
  have rall : Rp K H8 (.ref p8) (.lst (vals9 C zs)) := .lstOf e8 (.cons rr8 (.cons (Rp.to (.lstOf e2 r2) t2) (.cons (Rp.to (.tupOf e3 .nil) t3) (.cons (Rp.to (.tupOf e5 (.cons (r4.to s5) (.cons (.int _) .nil))) t5) (.cons (Rp.to (.tupOf e6 (.cons .non .nil)) t6) (.cons .non (.cons (.int _) (.cons (.str _) (.cons (Rp.to (.tupOf e7 (.cons (rr.to (s2.trans (s3.trans (s4.trans (s5.trans (s6.trans s7)))))) .nil)) s8) .nil)))))))))
  refine ⟨_, rall, fun k σ' H' => Same H8 H' ∧ ∃ o1 o2 : Option V, σ' = (some (v) :: some (.ref vs) :: some (.int n) :: some (vr) :: some (vo) :: some (vw) :: some (vp) :: some (va) :: ox :: oy :: o1 :: o2 :: none :: none :: none :: none :: none :: none :: none :: none :: none :: none :: none :: []), ⟨Same.refl _, _, _, rfl⟩, fun k σ' H' h => h.1, ?_, ?_⟩
  · rintro k d u σ1 H9 hk ⟨s9, o1, o2, rfl⟩ ru
    show QG _ _ _ _ _ _
    kct_strs
    exact law_b6 TT ru (vals9_ok l5 d (List.mem_of_getElem? hk)) fun og H10 s10 => ⟨s9.trans s10, _, _, rfl⟩
  · rintro σ1 H9 ⟨s9, o1, o2, rfl⟩
    exact q _ _ _ (t1.trans s9)
end
theorem Su.ke {K : PySem.W.Frag} {C a : Addr} {H H' : Hp} {n : Nat} {zs ws : List Int} {vr vo vw vp va : V} (h : Su K C H n zs ws vr vo vw vp va) (h0 : St a H) (k : Ke a H H') : Su K C H' n zs ws vr vo vw vp va :=
  ⟨k.rp h0 h.r imT, k.rp h0 h.o imT, k.rp h0 h.w rfl, k.rp h0 h.p rfl, k.rp h0 h.a rfl⟩
theorem Su.to {K : PySem.W.Frag} {C : Addr} {H H' : Hp} {n : Nat} {zs ws : List Int} {vr vo vw vp va : V} (h : Su K C H n zs ws vr vo vw vp va) (k : Same H H') : Su K C H' n zs ws vr vo vw vp va :=
  ⟨h.r.to k, h.o.to k, h.w.to k, h.p.to k, h.a.to k⟩
/-- the rest of the law's text, kept closed -/
@[irreducible] def rest (i : Nat) : List Stmt := (defBody (top 33)).drop i
theorem rest_eq (i : Nat) : rest i = (defBody (top 33)).drop i := by delta rest; rfl
theorem toR3 (C : Addr) (t z : Int) : ([D.int t, rtd C 6 z, .int 0] : List D).map (toR C) = [rtd C 1 t, rtd C 6 z, rtd C 1 0] := rfl
def mixD (C : Addr) (t z : Int) : List D := [D.int t, rtd C 6 z, .int 0]
def mixR (C : Addr) (t z : Int) : List D := [rtd C 1 t, rtd C 6 z, rtd C 1 0]
theorem mix_to (C : Addr) (t z : Int) : (mixD C t z).map (toR C) = mixR C t z := toR3 C t z
theorem mix_ok {C : Addr} {t z : Int} : ∀ d ∈ mixD C t z, okI C d ∧ d.im = true ∧ (isRat d = true ∨ d.ty.isSome = true) := by
  intro d hd
  simp only [mixD, List.mem_cons, List.not_mem_nil, or_false] at hd
  rcases hd with rfl | rfl | rfl
  · exact ⟨trivial, rfl, .inr rfl⟩
  · exact ⟨rfl, rfl, .inl rfl⟩
  · exact ⟨trivial, rfl, .inr rfl⟩
theorem mix_num {C : Addr} {t z : Int} : (mixD C t z).all isNum = true := rfl
theorem mix_len {C : Addr} {t z : Int} : (mixD C t z).length < 1000 := by show 3 < 1000; omega
theorem mix_obs {C : Addr} {t z : Int} : ∀ d ∈ mixR C t z, ∃ p q, d = ob C p q := by
  intro d hd
  simp only [mixR, List.mem_cons, List.not_mem_nil, or_false] at hd
  rcases hd with rfl | rfl | rfl <;> exact ⟨_, _, rfl⟩
/-- what ratios makes of the mixed list -/
theorem mix_use {K : PySem.W.Frag} {M C : Addr} {H : Hp} {v : V} {b : Bool} {t z : Int} {Q : VK} {E : XK} (r : RpB K b H v (mixD C t z)) (q : ∀ u H', Same H H' → Rp K H' u (.tup (mixR C t z)) → Q u H') : spRs K M C [v] H Q E := by
  refine ⟨v, rfl, .inl ⟨b, _, r, mix_ok, mix_len, fun _ u H' s ru => ?_, fun e => by rw [mix_num] at e; cases e⟩⟩
  rw [mix_to] at ru
  exact q u H' s ru
theorem none_use {K : PySem.W.Frag} {M C : Addr} {H : Hp} {v : V} {Q : VK} {E : XK} (r : Rp K H v (.tup [])) (q : ∀ u H', Same H H' → Rp K H' u (.tup []) → Q u H') : spRs K M C [v] H Q E :=
  ⟨v, rfl, .inl ⟨true, [], r, by simp, by decide, fun _ u H' s ru => q u H' s ru, fun e => by cases e⟩⟩
section
variable {P : Program} {w : World} {K : PySem.W.Frag} {mg : Str → Option Value} {base : Heap} {f fR fA fB Fa M R C Nt : Addr} {cdv : Value} {A : Around} {outer : List Env} {s : Shared} {H0 : Hp} {E0 : XK}
theorem law_4a {v vr vo vw vp va : V} {ox oy o1 o2 : Option V} {vs : Addr} {n : Nat} {zs ws : List Int} {H : Hp} (T0 : Fx (LX P w K mg base f cdv A outer s H0 E0) fR fA fB Fa M R C Nt) (Dn : Dr n zs ws) (S0 : Su K C H n zs ws vr vo vw vp va) (st : St vs H) {D0 : Ends}
    (q : ∀ (vm : V) (t : Int) H', Ke vs H H' → Rp K H' vm (.lst (mixD C t (zs.getD 0 0))) → QB (LX P w K mg base f cdv A outer s H0 E0) ((defBody (top 33)).drop 8) D0 (some (v) :: some (.ref vs) :: some (.int n) :: some (vr) :: some (vo) :: some (vw) :: some (vp) :: some (va) :: ox :: oy :: o1 :: o2 :: some (vm) :: none :: none :: none :: none :: none :: none :: none :: none :: none :: none :: []) H') :
    QB (LX P w K mg base f cdv A outer s H0 E0) ((defBody (top 33)).drop 7) D0 (some (v) :: some (.ref vs) :: some (.int n) :: some (vr) :: some (vo) :: some (vw) :: some (vp) :: some (va) :: ox :: oy :: o1 :: o2 :: none :: none :: none :: none :: none :: none :: none :: none :: none :: none :: none :: []) H := by
  obtain ⟨hN, nd, hr, tk, n_tuple, n_zip, n_isinstance, n_all, n_list, n_len, n_str, g_ratios, o_ratios, g_read_ratio, o_read_ratio, g_read_ratios, o_read_ratios, g_ratio, c_law_state, c_law_take, c_law_says, c_is_ratio_row, c_ratios_text, c_law_same, c_law_read, c_law_is_text, x_law_num_row, x_ratio_sum, x_ratio_product, x_dot, x_ratios, x_law_result, m_eq, m_str, m_add, m_mul, mkD, T⟩ := T0
  have hz : (1000 : Nat) < sizeLine := by decide
  change QB _ (_ :: (defBody (top 33)).drop 8) _ _ _
  kct_strs
  refine ⟨vs, 9, rfl, by decide, st, fun t1 H1 l1 u1 k1 => ?_⟩
  have rr := (S0.ke st k1).r
  kct_strs
  refine ixw_mt (d0 := (0 : Int)) rr (by decide) (by rw [Dn.lz]; exact Dn.n15.1) fun w0 r0 => ?_
  kct_strs
  refine ⟨Nat.le_of_ble_eq_true rfl, fun pm H2 hpm s2 e2 => ?_⟩
  kct_strs
  exact q (.ref pm) (t1 - 4) H2 (k1.trans (Ke.of_same k1.t s2)) (.lstOf e2 (.cons (.int _) (.cons (r0.to s2) (.cons (.int _) .nil))))
theorem law_4b {v vr vo vw vp va vm : V} {ox oy o1 o2 : Option V} {vs : Addr} {n : Nat} {zs ws : List Int} {H : Hp} {t : Int} (T0 : Fx (LX P w K mg base f cdv A outer s H0 E0) fR fA fB Fa M R C Nt) (Dn : Dr n zs ws) (S0 : Su K C H n zs ws vr vo vw vp va) (rm : Rp K H vm (.lst (mixD C t (zs.getD 0 0)))) {D0 : Ends}
    (q : ∀ H', Same H H' → QB (LX P w K mg base f cdv A outer s H0 E0) (rest 9) D0 (some (v) :: some (.ref vs) :: some (.int n) :: some (vr) :: some (vo) :: some (vw) :: some (vp) :: some (va) :: ox :: oy :: o1 :: o2 :: some (vm) :: none :: none :: none :: none :: none :: none :: none :: none :: none :: none :: []) H') :
    QB (LX P w K mg base f cdv A outer s H0 E0) ((defBody (top 33)).drop 8) D0 (some (v) :: some (.ref vs) :: some (.int n) :: some (vr) :: some (vo) :: some (vw) :: some (vp) :: some (va) :: ox :: oy :: o1 :: o2 :: some (vm) :: none :: none :: none :: none :: none :: none :: none :: none :: none :: none :: []) H := by
  obtain ⟨hN, nd, hr, tk, n_tuple, n_zip, n_isinstance, n_all, n_list, n_len, n_str, g_ratios, o_ratios, g_read_ratio, o_read_ratio, g_read_ratios, o_read_ratios, g_ratio, c_law_state, c_law_take, c_law_says, c_is_ratio_row, c_ratios_text, c_law_same, c_law_read, c_law_is_text, x_law_num_row, x_ratio_sum, x_ratio_product, x_dot, x_ratios, x_law_result, m_eq, m_str, m_add, m_mul, mkD, T⟩ := T0
  have rr := S0.r
  have z0 : 0 < zs.length := by rw [Dn.lz]; exact Dn.n15.1
  change QB _ (_ :: (defBody (top 33)).drop 9) _ _ _
  rw [← rest_eq 9]
  kct_strs
  refine mix_use (b := false) rm fun u3 H3 s3 r3 => ?_
  kct_strs
  (with_reducible refine' we_mk1 mkD tk hr ?hk ?hg ?q1 ?hs ?hp); (case hk => decide); (case hg => exact rfl); (case hs => exact rfl); (case hp => exact rfl); (case' q1 => skip)
  kct_strs
  refine ixw_lst (rm.to s3) (d := .int t) rfl fun w4 r4 => ?_
  obtain rfl := r4.int_inv
  refine ⟨t, rfl, fun u5 H5 s5 r5 => ?_⟩
  kct_strs
  refine ixw_mt (d0 := (0 : Int)) (rr.to (s3.trans s5)) (by decide) z0 fun w6 r6 => ?_
  kct_strs
  (with_reducible refine' we_mk1 mkD tk hr ?hk ?hg ?q2 ?hs ?hp); (case hk => decide); (case hg => exact rfl); (case hs => exact rfl); (case hp => exact rfl); (case' q2 => skip)
  kct_strs
  intro u7 H7 s7 r7
  kct_strs
  refine ⟨Nat.le_of_ble_eq_true rfl, fun p8 H8 hp8 s8 e8 => ?_⟩
  kct_strs
  refine opw_neTup (n := 1) mon_rat (eqG_rat m_eq) (hr.mono (by decide)) (dtup_of (mix_obs (t := t) (z := zs.getD 0 0)) (r3.to (s5.trans (s7.trans s8))) (.tupOf e8 (.cons (r5.to (s7.trans s8)) (.cons (r6.to (s7.trans s8)) (.cons (r7.to s8) .nil))))) fun H9 s9 => ?_
  kct_strs
  refine ifb (fun e => by cases e) (fun _ => ?_)
  kct_strs
  refine callw_tuple_l (rm.to (s3.trans (s5.trans (s7.trans (s8.trans s9))))) fun v10 H10 s10 r10 => ?_
  kct_strs
  refine mix_use (b := true) r10 fun u11 H11 s11 r11 => ?_
  kct_strs
  refine mix_use (b := false) (rm.to (s3.trans (s5.trans (s7.trans (s8.trans (s9.trans (s10.trans s11))))))) fun u12 H12 s12 r12 => ?_
  refine opw_neTup (n := 1) mon_rat (eqG_rat m_eq) (hr.mono (by decide)) (dtup_of mix_obs (r11.to s12) r12) fun H13 s13 => ?_
  kct_strs
  refine ifb (fun e => by cases e) (fun _ => ?_)
  kct_strs
  refine ⟨Nat.le_of_ble_eq_true rfl, fun p14 H14 hp14 s14 e14 => ?_⟩
  kct_strs
  refine none_use (.tupOf e14 .nil) fun u15 H15 s15 r15 => ?_
  kct_strs
  refine ⟨Nat.le_of_ble_eq_true rfl, fun p16 H16 hp16 s16 e16 => ?_⟩
  kct_strs
  refine opw_neTup (n := 1) mon_rat (eqG_rat m_eq) (hr.mono (by decide)) (dtup_of (C := C) (ds := []) (by simp) (r15.to s16) (.tupOf e16 .nil)) fun H17 s17 => ?_
  kct_strs
  refine ifb (fun e => by cases e) (fun _ => ?_)
  kct_strs
  exact q _ (s3.trans (s5.trans (s7.trans (s8.trans (s9.trans (s10.trans (s11.trans (s12.trans (s13.trans (s14.trans (s15.trans (s16.trans s17))))))))))))
end
section
variable {X : Cx} {σ : Sl} {H : Hp} {Q : VK}
/-- {i: j} -/
theorem we_dict1 {i j : Int} {a1 b1 : Nat} {p1 p2 pos : Pos} (q : ∀ p H' kvs, H p = none → Same H H' → H' p = some (.dK kvs) → Q (.ref p) H') : QE X (.Dict [some (.Constant (.int i) a1 p1)] [.Constant (.int j) b1 p2] pos) σ H Q := by
  refine we_of (pe_disp (pps_cons pe_int pe_int pps_nil) rfl rfl (by simp) (by show 1 ≤ 15; omega)) ?_
  intro p hp
  refine ⟨upd_same, [(.inl i, .int j)], rfl, by show 1 ≤ 15; omega, q p _ _ hp (fun b u e => ?_) upd_same⟩
  rw [upd_ne (ne_of_none e hp), upd_ne (ne_of_none e hp)]
  exact e
end
/-- what ratios does not take -/
def BadR (K : PySem.W.Frag) (C : Addr) (H : Hp) (v : V) : Prop := (∃ (b : Bool) (ds : List D), RpB K b H v ds ∧ (∀ d ∈ ds, okI C d ∧ d.im = true ∧ (isRat d = true ∨ d.ty.isSome = true)) ∧ ds.length < 1000 ∧ ds.all isNum = false) ∨
  (∃ (d : D) (n : String), Rp K H v d ∧ d.ty = some n ∧ PySem.W.kitAny K (.type n) [.type "list", .type "tuple"] = some false) ∨ (∃ a kvs, v = .ref a ∧ H a = some (.dK kvs))
theorem BadR.to {K : PySem.W.Frag} {C : Addr} {H H' : Hp} {v : V} (h : BadR K C H v) (s : Same H H') : BadR K C H' v := by
  rcases h with ⟨b, ds, r, h1, h2, h3⟩ | ⟨d, n, r, e, k⟩ | ⟨a, kvs, e, h⟩
  · exact .inl ⟨b, ds, r.to s, h1, h2, h3⟩
  · exact .inr (.inl ⟨d, n, r.to s, e, k⟩)
  · exact .inr (.inr ⟨a, kvs, e, s _ _ h⟩)
theorem BadR.use {K : PySem.W.Frag} {M C : Addr} {H : Hp} {v : V} {Q : VK} {E : XK} (h : BadR K C H v) (q : ∀ H', Same H H' → E (.ref M) none H') : spRs K M C [v] H Q E := by
  rcases h with ⟨b, ds, r, h1, h2, h3⟩ | ⟨d, n, r, e, k⟩ | ⟨a, kvs, rfl, h⟩
  · exact ⟨v, rfl, .inl ⟨b, ds, r, h1, h2, (fun e => by rw [h3] at e; cases e), fun _ => q⟩⟩
  · exact ⟨v, rfl, .inr ⟨n, r.tyx e, k, q⟩⟩
  · exact ⟨_, rfl, .inr ⟨"dict", .base (.dK h), by kernel_rfl, q⟩⟩
def sixF : Nat → Option D := fun k => if k < 6 then some (.str "malformed") else none
theorem six_bits : bits 6 sixF = [.str "malformed", .str "malformed", .str "malformed", .str "malformed", .str "malformed", .str "malformed"] := rfl
theorem bad1 {K : PySem.W.Frag} {C : Addr} {H : Hp} {a : Addr} {v : V} {d : D} (e : H a = some (.tup [v])) (r : Rp K H v d) (o : okI C d) (m : d.im = true) (t : d.ty.isSome = true) (n : isNum d = false) : BadR K C H (.ref a) := by
  refine .inl ⟨true, [d], .tupOf e (.cons r .nil), fun x hx => ?_, by simp, by simp [n]⟩
  simp only [List.mem_cons, List.not_mem_nil, or_false] at hx
  subst hx
  exact ⟨o, m, .inr t⟩
section
variable {P : Program} {w : World} {K : PySem.W.Frag} {mg : Str → Option Value} {base : Heap} {f fR fA fB Fa M R C Nt : Addr} {cdv : Value} {A : Around} {outer : List Env} {s : Shared} {H0 : Hp} {E0 : XK}
theorem law_5 {v vr vo vw vp va vm : V} {ox oy o1 o2 : Option V} {vs : Addr} {n : Nat} {H : Hp} (T0 : Fx (LX P w K mg base f cdv A outer s H0 E0) fR fA fB Fa M R C Nt) {D0 : Ends}
    (q : ∀ H', Same H H' → QB (LX P w K mg base f cdv A outer s H0 E0) (rest 10) D0 (some (v) :: some (.ref vs) :: some (.int n) :: some (vr) :: some (vo) :: some (vw) :: some (vp) :: some (va) :: ox :: oy :: o1 :: o2 :: some (vm) :: none :: none :: none :: none :: none :: none :: none :: none :: none :: none :: []) H') :
    QB (LX P w K mg base f cdv A outer s H0 E0) (rest 9) D0 (some (v) :: some (.ref vs) :: some (.int n) :: some (vr) :: some (vo) :: some (vw) :: some (vp) :: some (va) :: ox :: oy :: o1 :: o2 :: some (vm) :: none :: none :: none :: none :: none :: none :: none :: none :: none :: none :: []) H := by
  obtain ⟨hN, nd, hr, tk, n_tuple, n_zip, n_isinstance, n_all, n_list, n_len, n_str, g_ratios, o_ratios, g_read_ratio, o_read_ratio, g_read_ratios, o_read_ratios, g_ratio, c_law_state, c_law_take, c_law_says, c_is_ratio_row, c_ratios_text, c_law_same, c_law_read, c_law_is_text, x_law_num_row, x_ratio_sum, x_ratio_product, x_dot, x_ratios, x_law_result, m_eq, m_str, m_add, m_mul, mkD, T⟩ := T0
  obtain ⟨fdR, psR, oR, kR, bR⟩ := o_ratios
  obtain ⟨t1, t2, t3, t4⟩ := kit_lt (K := K)
  have hz : (1000 : Nat) < sizeLine := by decide
  rw [rest_eq]
  change QB _ (_ :: (defBody (top 33)).drop 10) _ _ _
  rw [← rest_eq 10]
  kct_strs
  (with_reducible refine' ql_seq ?h ?hN ?nd ?hl ?hf ?q); (case hN => first | with_reducible assumption | assumption); (case h => infer_instance); (case nd => first | with_reducible assumption | assumption); (case hl => (intro _ _ _ _ _; first | exact Or.inl rfl | exact Or.inr rfl)); (case hf => (intro _ _ _ _ _; first | exact Or.inl rfl | exact Or.inr rfl)); (case' q => skip)
  refine qi_tup ?_
  kct_strs
  refine ⟨Nat.le_of_ble_eq_true rfl, fun p1 H1 hp1 s1 e1 => ?_⟩
  kct_strs
  refine ⟨Nat.le_of_ble_eq_true rfl, fun p2 H2 hp2 s2 e2 => ?_⟩
  kct_strs
  refine ⟨Nat.le_of_ble_eq_true rfl, fun p3 H3 hp3 s3 e3 => ?_⟩
  kct_strs
  refine we_dict1 fun p4 H4 kvs hp4 s4 e4 => ?_
  kct_strs
  refine ⟨Nat.le_of_ble_eq_true rfl, fun p5 H5 hp5 s5 e5 => ?_⟩
  have b : ∀ (k : Nat) (x : V), ([V.non, .int 5, .ref p1, .ref p2, .ref p3, .ref p4] : List V)[k]? = some x → BadR K C H5 x := by
    intro k x hx
    have hm := List.mem_of_getElem? hx
    simp only [List.mem_cons, List.not_mem_nil, or_false] at hm
    rcases hm with rfl | rfl | rfl | rfl | rfl | rfl
    · exact .inr (.inl ⟨.non, "NoneType", .non, rfl, t1⟩)
    · exact .inr (.inl ⟨.int 5, "int", .int 5, rfl, t2⟩)
    · exact (bad1 (d := .non) e1 .non trivial rfl rfl rfl).to (s2.trans (s3.trans (s4.trans s5)))
    · exact (bad1 (d := .bl true) e2 (.bl true) trivial rfl rfl rfl).to (s3.trans (s4.trans s5))
    · exact (bad1 (d := .str "1") e3 (.str _) trivial rfl rfl rfl).to (s4.trans s5)
    · exact .inr (.inr ⟨p4, kvs, rfl, s5 _ _ e4⟩)
  refine ⟨p5, rfl, ⟨_, .inl (.inl e5)⟩, 6, _, _, walk_tup (xs := [V.non, .int 5, .ref p1, .ref p2, .ref p3, .ref p4]), by omega, fun H' s => .inl (.inl (s _ _ e5)), sixF, fun i d e => ?_, ?_, fun p6 H6 ys s6 hp6 e6 r6 => ?_⟩
  · unfold sixF at e
    split at e
    · cases e; rfl
    · cases e
  · rintro i x H6 H7 hi s6 ⟨rfl, ex⟩
    have bx := (b i x ex).to s6
    intro s0 H00 C0 cl fp
    kct_strs
    (with_reducible refine' we_callX x_law_result takes0 hr ?hk ?hg ?q1 ?h1 ?h2 ?h3); (case hk => decide); (case hg => exact rfl); (case h1 => decide); (case h2 => exact rfl); (case h3 => exact rfl); (case' q1 => skip)
    kct_strs
    refine ⟨Nat.le_of_ble_eq_true rfl, fun p8 H8 hp8 s8 e8 => ?_⟩
    kct_strs
    have bx8 := bx.to s8
    refine ⟨fR, p8, x, fun _ _ => False, True, False, rfl, .inl (.inl e8), ⟨fdR, psR, _, oR, kR, bR, fun H9 s9 Q' E' _ hM _ => (bx8.to s9).use (hM trivial)⟩, fun _ _ _ _ _ h => h.elim, fun _ p9 H9 s9 e9 => ?_, fun h => h.elim⟩
    kct_strs
    refine ixw_st (.inl (.inl e9)) (v := .str "malformed") rfl ?_
    exact ⟨s8.trans s9, _, by unfold sixF; rw [if_pos hi], .str _⟩
  · kct_strs
    refine ⟨Nat.le_of_ble_eq_true rfl, fun p7 H7 hp7 s7 e7 => ?_⟩
    kct_strs
    refine opw_repL (k := 6) (ds := [.str "malformed"]) e7 (.cons (.str _) .nil) (by decide) (by show 1 ≤ 1000; omega) fun p8 H8 ys8 hp8 s8 e8 r8 => ?_
    kct_strs
    rw [six_bits] at r6
    have q1 := Rp.to (.lstOf e6 r6) (s7.trans s8)
    have q2 : Rp K H8 (.ref p8) (.lst [.str "malformed", .str "malformed", .str "malformed", .str "malformed", .str "malformed", .str "malformed"]) := .lstOf e8 r8
    refine opw_ned hr q1 q2 (by decide +kernel) (by decide +kernel) (by decide +kernel) (by decide +kernel) fun bb hbb => ?_
    kct_strs
    rw [hbb.mpr rfl]
    refine ifb (fun e => by cases e) (fun _ => ?_)
    kct_strs
    exact q _ (s1.trans (s2.trans (s3.trans (s4.trans (s5.trans (s6.trans (s7.trans s8)))))))
end
theorem tl_comma : TL.tl ("," : Str) = [44] := by decide +kernel
theorem comma_small : (("," : Str).cps.all (· < 256)) = true := by decide +kernel
/-- a joined row and one text more, cut at the commas -/
theorem spl_more : ∀ (parts : List (List Nat)) (l : List Nat), parts ≠ [] → (∀ p ∈ parts, (44 : Nat) ∉ p) → TL.spl [44] 0 [] (TL.joinL [44] parts ++ ([44] ++ l)) = parts ++ TL.spl [44] 0 [] l
  | [], _, h, _ => absurd rfl h
  | [p], l, _, hp => by
    show TL.spl [44] 0 [] (p ++ ([44] ++ l)) = _
    rw [TL.spl_part1 (hp p (List.mem_singleton.mpr rfl))]
    rfl
  | p :: q :: r, l, _, hp => by
    show TL.spl [44] 0 [] ((p ++ ([44] ++ TL.joinL [44] (q :: r))) ++ ([44] ++ l)) = _
    rw [List.append_assoc, List.append_assoc, TL.spl_part1 (hp p List.mem_cons_self), spl_more (q :: r) l (by simp) fun z hz => hp z (List.mem_cons_of_mem _ hz)]
    rfl
theorem split_line {zs : List Int} {b : Str} (hne : zs ≠ []) (hz : ∀ z ∈ zs, zok z) : Txt.split (rowT zs ++ "," ++ b) "," = zs.map tz ++ Txt.split b "," := by
  refine TL.map_tl_inj ?_
  have hk := TL.kind_ok (x := rowT zs ++ "," ++ b) comma_small
  rw [TL.split_spl _ _ (by rw [tl_comma]; simp) hk, List.map_append, TL.split_spl b "," (by rw [tl_comma]; simp) (TL.kind_ok comma_small), tl_comma, TL.tl_append, TL.tl_append, tl_comma, List.append_assoc]
  unfold rowT
  rw [TL.join_eq, TL.tl_join, tl_comma]
  refine spl_more _ _ (fun e => hne (List.map_eq_nil_iff.mp (List.map_eq_nil_iff.mp e))) fun p hp => ?_
  obtain ⟨x, hx, rfl⟩ := List.mem_map.mp hp
  obtain ⟨z, hzm, rfl⟩ := List.mem_map.mp hx
  exact (hz z hzm).own4.2.2.2.1
theorem split_row {zs : List Int} (hne : zs ≠ []) (hz : ∀ z ∈ zs, zok z) : Txt.split (rowT zs) "," = zs.map tz := by
  refine TL.split_join tl_comma comma_small (fun e => hne (List.map_eq_nil_iff.mp e)) fun p hp => ?_
  obtain ⟨z, hzm, rfl⟩ := List.mem_map.mp hp
  exact (hz z hzm).own4.2.2.2.1
theorem spl_len (S : List Nat) : ∀ (l : List Nat) (k : Nat) (acc : List Nat), (TL.spl S k acc l).length ≤ l.length + 1
  | [], k, acc => by rw [TL.spl_nil]; simp
  | c :: r, k + 1, acc => by
    have := spl_len S r k acc
    show (TL.spl S k acc r).length ≤ _
    rw [List.length_cons]
    omega
  | c :: r, 0, acc => by
    rw [List.length_cons]
    cases h : TL.pre S (c :: r) with
    | true =>
      rw [TL.spl_hit h, List.length_cons]
      have := spl_len S r (S.length - 1) []
      omega
    | false =>
      rw [TL.spl_miss h]
      have := spl_len S r 0 (acc ++ [c])
      omega
theorem split_len (b : Str) : (Txt.split b ",").length ≤ b.length + 1 := by
  have h := TL.split_spl b "," (by rw [tl_comma]; simp) (TL.kind_ok comma_small)
  have h2 := congrArg List.length h
  rw [List.length_map] at h2
  rw [h2]
  have := spl_len (TL.tl ",") (TL.tl b) 0 []
  rw [← TL.len_tl] at this
  exact this
theorem joinL_len : ∀ (parts : List (List Nat)), (∀ p ∈ parts, p.length ≤ 4) → (TL.joinL [44] parts).length ≤ 5 * parts.length
  | [], _ => by simp [TL.joinL]
  | [p], h => by
    have := h p (by simp)
    show p.length ≤ 5 * 1
    omega
  | p :: q :: r, h => by
    have h1 := h p (by simp)
    have h2 := joinL_len (q :: r) fun z hz => h z (by simp only [List.mem_cons] at hz ⊢; exact .inr hz)
    show (p ++ ([44] ++ TL.joinL [44] (q :: r))).length ≤ 5 * ((q :: r).length + 1)
    rw [List.length_append, List.length_append, List.length_singleton]
    omega
theorem rowT_len {zs : List Int} (hl : zs.length ≤ 5) (hz : ∀ z ∈ zs, zok z) : (rowT zs).length ≤ 25 := by
  unfold rowT
  rw [TL.join_eq, TL.len_tl, TL.tl_join, tl_comma]
  have := joinL_len ((zs.map tz).map TL.tl) (fun p hp => by
    obtain ⟨x, hx, rfl⟩ := List.mem_map.mp hp
    obtain ⟨z, hzm, rfl⟩ := List.mem_map.mp hx
    rw [← TL.len_tl]
    exact (hz z hzm).own4.2.2.2.2)
  rw [List.length_map, List.length_map] at this
  omega
theorem zok.gd {z : Int} (h : zok z) : good1 (tz z) = true := by
  obtain ⟨n, hn, d, hd, e, _, _⟩ := h.own
  have f := List.all_eq_true.mp (List.all_eq_true.mp fin_A n hn) d hd
  have g := List.all_eq_true.mp f (ownOf n d) (by simp [bentsA])
  unfold good at g
  rw [e]
  exact (Bool.and_eq_true_iff.mp g).1
theorem good1_tok {t : Str} (h : good1 t = true) : tok t ∧ isT t = (rd t).isSome := by
  unfold good1 at h
  simp only [Bool.and_eq_true, decide_eq_true_eq] at h
  exact ⟨⟨.inl h.1.2, by omega⟩, h.2⟩
theorem row_ne {zs : List Int} (hne : zs ≠ []) (hz : ∀ z ∈ zs, zok z) : rowT zs ≠ "-" := by
  intro e
  have h := split_row hne hz
  rw [e] at h
  have h2 : Txt.split ("-" : Str) "," = [("-" : Str)] := by decide +kernel
  rw [h2] at h
  match zs, h with
  | [z], h =>
    injection h with h
    exact (hz z (by simp)).own4.2.2.1 h.symm
  | z :: y :: r, h =>
    have := congrArg List.length h
    simp at this
theorem allR_row {zs : List Int} (hne : zs ≠ []) (hz : ∀ z ∈ zs, zok z) : allR (rowT zs) = true ∧ (Txt.split (rowT zs) ",").map (fun p => rd p) = zs.map fun z => some (rp z 6, rq z 6) := by
  unfold allR
  rw [split_row hne hz, List.map_map]
  refine ⟨List.all_eq_true.mpr fun p hp => ?_, List.map_congr_left fun z hzm => (hz z hzm).own4.1⟩
  obtain ⟨z, hzm, rfl⟩ := List.mem_map.mp hp
  rw [(hz z hzm).own4.1]
  rfl
/-- what the law compares with == : a word and a ratio, or a row of ratios, or nothing much -/
def TolD (K : PySem.W.Frag) (C : Addr) : Eqv := DTup K fun x y H => DFlat x y H ∨ DTup K (DIns C (RtEq C)) x y H
theorem mon_tol {K : PySem.W.Frag} {C : Addr} : Mon (fun x y H => DFlat x y H ∨ DTup K (DIns C (RtEq C)) x y H) := mon_flat.or (mon_tup mon_rat)
theorem eqG_tol {X : Cx} {C : Addr} (m : MetX X.prog X.w X.K X.mg X.base CX0 1 C "__eq__" (spEqR X.K C)) : EqG X 2 (fun x y H => DFlat x y H ∨ DTup X.K (DIns C (RtEq C)) x y H) :=
  (eqG_flat.mono (by decide)).or (eqG_tup mon_rat (eqG_rat m))
theorem tol_of {K : PySem.W.Frag} {C : Addr} {H : Hp} {a b : Addr} {w1 w2 : V} {z : Str} {ds : List D} (h : ∀ d ∈ ds, ∃ p q, d = ob C p q) (e1 : H a = some (.tup [.str z, w1])) (e2 : H b = some (.tup [.str z, w2])) (h1 : Rp K H w1 (.tup ds)) (h2 : Rp K H w2 (.tup ds)) : TolD K C (.ref a) (.ref b) H :=
  ⟨a, b, _, _, rfl, rfl, .inl (.inl e1), .inl (.inl e2), Prs.cons (.inl ⟨rfl, rfl, beq_self_eq_true _⟩) (Prs.cons (.inr (dtup_of h h1 h2)) Prs.nil)⟩
section
variable {P : Program} {w : World} {K : PySem.W.Frag} {mg : Str → Option Value} {base : Heap} {f fR fA fB Fa M R C Nt : Addr} {cdv : Value} {A : Around} {outer : List Env} {s : Shared} {H0 : Hp} {E0 : XK}
theorem law_6 {v vr vo vw vp va vm : V} {ox oy o1 o2 : Option V} {vs : Addr} {n : Nat} {zs ws : List Int} {H : Hp} (T0 : Fx (LX P w K mg base f cdv A outer s H0 E0) fR fA fB Fa M R C Nt) (Dn : Dr n zs ws) (S0 : Su K C H n zs ws vr vo vw vp va) {D0 : Ends}
    (q : ∀ H', Same H H' → QB (LX P w K mg base f cdv A outer s H0 E0) (rest 11) D0 (some (v) :: some (.ref vs) :: some (.int n) :: some (vr) :: some (vo) :: some (vw) :: some (vp) :: some (va) :: ox :: oy :: o1 :: o2 :: some (vm) :: some (.str (rowT zs)) :: none :: none :: none :: none :: none :: none :: none :: none :: none :: []) H') :
    QB (LX P w K mg base f cdv A outer s H0 E0) (rest 10) D0 (some (v) :: some (.ref vs) :: some (.int n) :: some (vr) :: some (vo) :: some (vw) :: some (vp) :: some (va) :: ox :: oy :: o1 :: o2 :: some (vm) :: none :: none :: none :: none :: none :: none :: none :: none :: none :: none :: []) H := by
  obtain ⟨hN, nd, hr, tk, n_tuple, n_zip, n_isinstance, n_all, n_list, n_len, n_str, g_ratios, o_ratios, g_read_ratio, o_read_ratio, g_read_ratios, o_read_ratios, g_ratio, c_law_state, c_law_take, c_law_says, c_is_ratio_row, c_ratios_text, c_law_same, c_law_read, c_law_is_text, x_law_num_row, x_ratio_sum, x_ratio_product, x_dot, x_ratios, x_law_result, m_eq, m_str, m_add, m_mul, mkD, T⟩ := T0
  have rr := S0.r
  have l5 : zs.length ≤ 5 := by rw [Dn.lz]; exact Dn.n15.2
  have hz : (1000 : Nat) < sizeLine := by decide
  rw [rest_eq]
  change QB _ (_ :: (defBody (top 33)).drop 11) _ _ _
  rw [← rest_eq 11]
  kct_strs
  refine ⟨rfl, ?_⟩
  kct_strs
  by_item
  kct_strs
  refine ⟨Int, zs, rtd C 6, fun z => .str (tz z), rr, by omega, fun _ _ => rfl, fun z hzm u H2 s2 ru => ?_, fun p H2 ys s2 hp hp2 r2 => ?_⟩
  · obtain ⟨a, rfl, dx, ha⟩ := Rp.rat ru
    intro s0 H00 C0 cl fp
    kct_strs
    refine callw_strOwn m_str hr (by decide) ha ?_
    exact ⟨a, _, _, rfl, ⟨dx, ha⟩, b6 (Dn.oz z hzm), _, rfl, Same.refl _, .str _⟩
  · refine ⟨zs.map tz, .inl (by rw [List.map_map]; exact .lstOf hp2 r2), ?_, ?_⟩
    · have := sum_le (zs.map tz) 4 (fun x hx => by
        obtain ⟨z, hzm, rfl⟩ := List.mem_map.mp hx
        exact (Dn.oz z hzm).own4.2.2.2.2)
      rw [List.length_map] at this ⊢
      have h5 : (("," : Str)).length = 1 := rfl
      rw [h5]
      omega
    · kct_strs
      exact q _ s2
/-- read_ratios of a text without a line's end: what it is asked -/
theorem act_reads {t : Str} {H : Hp} (O : ∃ fd ps, FnOk P w K mg base (L2.CX P w) 8 fB fd ps (spReads K Nt C) ∧ PySem.W.keepIn K (.ref fB) = true ∧ Binds K fd ps []) (h1 : t.length ≤ 9000) (h2 : t ≠ "-") (h3 : ∀ p ∈ Txt.split t ",", tok p) (h4 : (Txt.split t ",").length < 1000) :
    Act P w K mg base M Nt fB (.str t) H (fun u H2 => allR t = true ∧ Rp K H2 u (.tup ((Txt.split t ",").map fun p => obO C (rd p)))) False (allR t = false) := by
  obtain ⟨fd, ps, o, k, b⟩ := O
  exact ⟨fd, ps, _, o, k, b, fun H1 s1 Q E hG _ hN => ⟨.str t, rfl, .inl ⟨t, rfl, h1, fun e => absurd e h2, fun _ => ⟨h3, h4, fun e u H' s r => hG u H' s ⟨e, r⟩, hN⟩⟩⟩⟩
theorem act_dash {H : Hp} (O : ∃ fd ps, FnOk P w K mg base (L2.CX P w) 8 fB fd ps (spReads K Nt C) ∧ PySem.W.keepIn K (.ref fB) = true ∧ Binds K fd ps []) :
    Act P w K mg base M Nt fB (.str "-") H (fun u H2 => Rp K H2 u (.tup [])) False False := by
  obtain ⟨fd, ps, o, k, b⟩ := O
  exact ⟨fd, ps, _, o, k, b, fun H1 s1 Q E hG _ hN => ⟨_, rfl, .inl ⟨"-", rfl, by decide, fun _ u H' s r => hG u H' s r, fun e => absurd rfl e⟩⟩⟩
theorem act_bad {v : V} {d : D} {H : Hp} (O : ∃ fd ps, FnOk P w K mg base (L2.CX P w) 8 fB fd ps (spReads K Nt C) ∧ PySem.W.keepIn K (.ref fB) = true ∧ Binds K fd ps []) (r : Rp K H v d) (t : d.ty.isSome = true) (s : d.isS = false) :
    Act P w K mg base M Nt fB v H (fun u H2 => False) False True := by
  obtain ⟨fd, ps, o, k, b⟩ := O
  exact ⟨fd, ps, _, o, k, b, fun H1 s1 Q E hG _ hN => ⟨_, rfl, .inr ⟨d, r.to s1, t, s, hN trivial⟩⟩⟩
theorem act_read {t : Str} {H : Hp} (O : ∃ fd ps, FnOk P w K mg base (L2.CX P w) 8 fA fd ps (spRead K Nt C) ∧ PySem.W.keepIn K (.ref fA) = true ∧ Binds K fd ps []) (h : tok t) :
    Act P w K mg base M Nt fA (.str t) H (fun u H2 => ∃ p q, rd t = some (p, q) ∧ Rp K H2 u (ob C p q)) False (rd t = none) := by
  obtain ⟨fd, ps, o, k, b⟩ := O
  exact ⟨fd, ps, _, o, k, b, fun H1 s1 Q E hG _ hN => ⟨.str t, rfl, .inl ⟨t, rfl, h.1, h.2, fun p q e u H' s r => hG u H' s ⟨p, q, e, r⟩, hN⟩⟩⟩
theorem act_badR {v : V} {d : D} {H : Hp} (O : ∃ fd ps, FnOk P w K mg base (L2.CX P w) 8 fA fd ps (spRead K Nt C) ∧ PySem.W.keepIn K (.ref fA) = true ∧ Binds K fd ps []) (r : Rp K H v d) (t : d.ty.isSome = true) (s : d.isS = false) :
    Act P w K mg base M Nt fA v H (fun u H2 => False) False True := by
  obtain ⟨fd, ps, o, k, b⟩ := O
  exact ⟨fd, ps, _, o, k, b, fun H1 s1 Q E hG _ hN => ⟨_, rfl, .inr ⟨d, r.to s1, t, s, hN trivial⟩⟩⟩
theorem law_7 {v vr vo vw vp va vm : V} {ox oy o1 o2 : Option V} {vs : Addr} {n : Nat} {zs ws : List Int} {H : Hp} (T0 : Fx (LX P w K mg base f cdv A outer s H0 E0) fR fA fB Fa M R C Nt) (Dn : Dr n zs ws) (S0 : Su K C H n zs ws vr vo vw vp va) {D0 : Ends}
    (q : ∀ H', Same H H' → QB (LX P w K mg base f cdv A outer s H0 E0) (rest 12) D0 (some (v) :: some (.ref vs) :: some (.int n) :: some (vr) :: some (vo) :: some (vw) :: some (vp) :: some (va) :: ox :: oy :: o1 :: o2 :: some (vm) :: some (.str (rowT zs)) :: none :: none :: none :: none :: none :: none :: none :: none :: none :: []) H') :
    QB (LX P w K mg base f cdv A outer s H0 E0) (rest 11) D0 (some (v) :: some (.ref vs) :: some (.int n) :: some (vr) :: some (vo) :: some (vw) :: some (vp) :: some (va) :: ox :: oy :: o1 :: o2 :: some (vm) :: some (.str (rowT zs)) :: none :: none :: none :: none :: none :: none :: none :: none :: none :: []) H := by
  obtain ⟨hN, nd, hr, tk, n_tuple, n_zip, n_isinstance, n_all, n_list, n_len, n_str, g_ratios, o_ratios, g_read_ratio, o_read_ratio, g_read_ratios, o_read_ratios, g_ratio, c_law_state, c_law_take, c_law_says, c_is_ratio_row, c_ratios_text, c_law_same, c_law_read, c_law_is_text, x_law_num_row, x_ratio_sum, x_ratio_product, x_dot, x_ratios, x_law_result, m_eq, m_str, m_add, m_mul, mkD, T⟩ := T0
  have rr := S0.r
  have l5 : zs.length ≤ 5 := by rw [Dn.lz]; exact Dn.n15.2
  have l1 : zs.length ≠ 0 := by have := Dn.n15.1; rw [Dn.lz]; omega
  have hne : zs ≠ [] := fun e => l1 (by rw [e]; rfl)
  have obs : ∀ d ∈ zs.map (rtd C 6), ∃ p q, d = ob C p q := fun d hd => by
    obtain ⟨z, _, rfl⟩ := List.mem_map.mp hd
    exact ⟨_, _, rfl⟩
  rw [rest_eq]
  change QB _ (_ :: (defBody (top 33)).drop 12) _ _ _
  rw [← rest_eq 12]
  kct_strs
  refine ⟨vr, zs, rfl, rr, l5, Dn.oz, fun H1 s1 => ?_⟩
  rw [if_neg l1]
  dsimp only
  kct_strs
  refine .inr ⟨_, _, rfl, ?_⟩
  kct_strs
  rw [decide_eq_true rfl]
  refine ifnb (fun e => by cases e) (fun _ => ?_)
  kct_strs
  refine ⟨Nat.le_of_ble_eq_true rfl, fun p2 H2 hp2 s2 e2 => ?_⟩
  kct_strs
  refine ⟨.ref p2, [], rfl, .tupOf e2 .nil, by decide, by simp, fun H3 s3 => ?_⟩
  rw [if_pos (show ([] : List Int).length = 0 from rfl)]
  dsimp only
  kct_strs
  refine ifb (fun e => by cases e) (fun _ => ?_)
  have S3 := s1.trans (s2.trans s3)
  kct_strs
  refine ⟨fB, .str (rowT zs), _, _, rfl, act_reads o_read_ratios (Nat.le_trans (rowT_len l5 Dn.oz) (by decide)) (row_ne hne Dn.oz) (fun p hp => ?_) (by rw [split_row hne Dn.oz, List.length_map]; omega), fun u4 H4 p5 H5 s4 g4 s5 e5 => ?_, fun e => by rw [(allR_row hne Dn.oz).1] at e; cases e⟩
  · rw [split_row hne Dn.oz] at hp
    obtain ⟨z, hzm, rfl⟩ := List.mem_map.mp hp
    exact (good1_tok (Dn.oz z hzm).gd).1
  · have r4 : Rp K H4 u4 (.tup (zs.map (rtd C 6))) := by
      have := g4.2
      rw [show (Txt.split (rowT zs) ",").map (fun p => obO C (rd p)) = zs.map (rtd C 6) by
        have h := congrArg (List.map (obO C)) (allR_row hne Dn.oz).2
        rw [List.map_map, List.map_map] at h
        exact h] at this
      exact this
    kct_strs
    refine ⟨Nat.le_of_ble_eq_true rfl, fun p6 H6 hp6 s6 e6 => ?_⟩
    kct_strs
    have S6 := S3.trans (s4.trans (s5.trans s6))
    refine opw_neTup (n := 2) mon_tol (eqG_tol m_eq) (hr.mono (by decide)) (tol_of obs (s6 _ _ e5) e6 (r4.to (s5.trans s6)) (rr.to S6)) fun H7 s7 => ?_
    kct_strs
    refine ifb (fun e => by cases e) (fun _ => ?_)
    kct_strs
    refine ⟨fB, .str "-", _, _, rfl, act_dash o_read_ratios, fun u8 H8 p9 H9 s8 g8 s9 e9 => ?_, fun e => e.elim⟩
    kct_strs
    refine ⟨Nat.le_of_ble_eq_true rfl, fun p10 H10 hp10 s10 e10 => ?_⟩
    kct_strs
    refine ⟨Nat.le_of_ble_eq_true rfl, fun p11 H11 hp11 s11 e11 => ?_⟩
    kct_strs
    refine opw_neTup (n := 2) mon_tol (eqG_tol m_eq) (hr.mono (by decide)) (tol_of (C := C) (ds := []) (by simp) (s11 _ _ (s10 _ _ e9)) e11 (Rp.to g8 (s9.trans (s10.trans s11))) (Rp.to (.tupOf e10 .nil) s11)) fun H12 s12 => ?_
    kct_strs
    refine ifb (fun e => by cases e) (fun _ => ?_)
    kct_strs
    have S12 := S6.trans (s7.trans (s8.trans (s9.trans (s10.trans (s11.trans s12)))))
    exact q H12 S12
end
theorem rd_facts {t : Str} {p q : Int} (hf : fit t = true) (h : rd t = some (p, q)) : told p q = t ∧ 0 < q ∧ q < 16384 ∧ p.natAbs < 1073741824 := by
  unfold fit at hf
  dsimp only at hf
  simp only [Bool.and_eq_true, decide_eq_true_eq] at hf
  obtain ⟨⟨⟨⟨⟨⟨_, hl0⟩, hl1⟩, hl2⟩, hn2⟩, hn1⟩, _⟩ := hf
  unfold rd at h
  dsimp only at h
  generalize (Txt.partition (Txt.removeprefix t "-") "/").1 = top' at *
  generalize (Txt.partition (Txt.removeprefix t "-") "/").2.1 = sl at *
  generalize (Txt.partition (Txt.removeprefix t "-") "/").2.2 = low at *
  by_cases c1 : 400 < t.length
  · rw [if_pos c1] at h; cases h
  rw [if_neg c1] at h
  by_cases c2 : okP top' = false
  · rw [if_pos c2] at h; cases h
  rw [if_neg c2] at h
  by_cases c3 : okP (if decide (sl = ("/" : Str)) = true then low else "1") = false
  · rw [if_pos c3] at h; cases h
  rw [if_neg c3] at h
  by_cases h4 : (decide (sl = ("/" : Str)) && decide (((num low : Nat) : Int) = 0)) = true
  · rw [if_pos h4] at h; cases h
  rw [if_neg h4] at h
  have hd : ∃ d : Int, (if decide (sl = ("/" : Str)) = true then ((num low : Nat) : Int) else 1) = d ∧ 0 < d ∧ d < 16384 := by
    refine ⟨_, rfl, ?_⟩
    by_cases e : sl = "/"
    · rw [decide_eq_true e, if_pos rfl]
      have : ¬ ((num low : Nat) : Int) = 0 := fun e0 => h4 (by rw [decide_eq_true e, decide_eq_true e0]; rfl)
      omega
    · rw [decide_eq_false e, if_neg (by decide)]
      omega
  obtain ⟨d, e, hd⟩ := hd
  rw [e] at h
  obtain ⟨f1, _, _, f4⟩ := rat_facts (num top') d (by omega)
  have f5 := rp_le (num top') d
  obtain ⟨g1, _, _, g4⟩ := rat_facts (-rp (num top') d) (rq (num top') d) (by omega)
  have g5 := rp_le (-rp (num top') d) (rq (num top') d)
  generalize hp : (if Txt.startswith t "-" = true then rp (-rp (num top') d) (rq (num top') d) else rp (num top') d) = p' at h
  generalize hq : (if Txt.startswith t "-" = true then rq (-rp (num top') d) (rq (num top') d) else rq (num top') d) = q' at h
  have bnd : 0 < q' ∧ q' < 16384 ∧ p'.natAbs < 1073741824 := by
    rw [← hp, ← hq]
    cases Txt.startswith t "-" with
    | true =>
      rw [if_pos rfl, if_pos rfl]
      omega
    | false =>
      rw [if_neg (by decide), if_neg (by decide)]
      omega
  by_cases h5 : told p' q' = t
  · rw [if_pos h5] at h
    injection h with h
    injection h with e1 e2
    rw [← e1, ← e2]
    exact ⟨h5, bnd⟩
  · rw [if_neg h5] at h
    cases h
/-- what the law asks of a text -/
structure Bok (b : Str) : Prop where
  t : tok b
  e : isT b = (rd b).isSome
  ps : ∀ p ∈ Txt.split b ",", tok p ∧ isT p = (rd p).isSome
  l : b.length ≤ 401
theorem good_ok {b : Str} (h : good b = true) : Bok b := by
  unfold good at h
  obtain ⟨h1, h2⟩ := Bool.and_eq_true_iff.mp h
  obtain ⟨a1, a2⟩ := good1_tok h1
  refine ⟨a1, a2, fun p hp => good1_tok (List.all_eq_true.mp h2 p hp), ?_⟩
  unfold good1 at h1
  simp only [Bool.and_eq_true, decide_eq_true_eq] at h1
  omega
def l401 : Str := Txt.mul "1" 401
theorem l401_len : l401.length = 401 := by decide +kernel
theorem l401_split : Txt.split l401 "," = [l401] := by decide +kernel
theorem l401_ok : Bok l401 := by
  have h1 : tok l401 := ⟨.inr (by rw [l401_len]; decide), by rw [l401_len]; decide⟩
  have h2 : isT l401 = (rd l401).isSome := by
    rw [rd_long (by rw [l401_len]; decide)]
    unfold isT
    dsimp only
    rw [if_pos (by rw [l401_len]; decide)]
    rfl
  refine ⟨h1, h2, fun p hp => ?_, by rw [l401_len]; decide⟩
  rw [l401_split] at hp
  rw [List.mem_singleton.mp hp]
  exact ⟨h1, h2⟩
/-- the twelve texts -/
def bents (own : Str) (k c : Nat) : List Str := [own, bentC own k c, bentB own k, "0" ++ own, own ++ "/1", "-" ++ own, "2/4", "1/0", "", "-", "0/5", l401]
theorem bents_ok {z : Int} (hz : zok z) {k c : Nat} (hk : k ≤ (tz z).length) (hc : c ∈ ("019-/,. x" : Str).cps.toList) : ∀ b ∈ bents (tz z) k c, Bok b := by
  obtain ⟨n, hn, d, hd, e, _, _⟩ := hz.own
  rw [e] at hk ⊢
  have fA := List.all_eq_true.mp (List.all_eq_true.mp (List.all_eq_true.mp fin_A n hn) d hd)
  have fB := List.all_eq_true.mp (List.all_eq_true.mp (List.all_eq_true.mp fin_B n hn) d hd) k (List.mem_range.mpr (by omega))
  have fC := List.all_eq_true.mp (List.all_eq_true.mp (List.all_eq_true.mp (List.all_eq_true.mp fin_C n hn) d hd) k (List.mem_range.mpr (by omega))) c hc
  intro b hb
  simp only [bents, List.mem_cons, List.not_mem_nil, or_false] at hb
  rcases hb with rfl | rfl | rfl | rfl | rfl | rfl | rfl | rfl | rfl | rfl | rfl | rfl
  · exact good_ok (fA _ (by simp [bentsA]))
  · exact good_ok fC
  · exact good_ok fB
  · exact good_ok (fA _ (by simp [bentsA]))
  · exact good_ok (fA _ (by simp [bentsA]))
  · exact good_ok (fA _ (by simp [bentsA]))
  · exact good_ok (fA _ (by simp [bentsA]))
  · exact good_ok (fA _ (by simp [bentsA]))
  · exact good_ok (fA _ (by simp [bentsA]))
  · exact good_ok (fA _ (by simp [bentsA]))
  · exact good_ok (fA _ (by simp [bentsA]))
  · exact l401_ok
theorem line_ok {zs : List Int} {b : Str} (hl : zs.length ≤ 5) (hne : zs ≠ []) (hz : ∀ z ∈ zs, zok z) (hb : Bok b) : (rowT zs ++ "," ++ b).length ≤ 9000 ∧ rowT zs ++ "," ++ b ≠ "-" ∧
    (∀ p ∈ Txt.split (rowT zs ++ "," ++ b) ",", tok p ∧ isT p = (rd p).isSome) ∧ (Txt.split (rowT zs ++ "," ++ b) ",").length < 1000 := by
  have h1 := rowT_len hl hz
  have h2 := hb.l
  refine ⟨?_, fun e => ?_, fun p hp => ?_, ?_⟩
  · rw [TL.len_tl, TL.tl_append, TL.tl_append, List.length_append, List.length_append, ← TL.len_tl, ← TL.len_tl, ← TL.len_tl]
    have h3 : (("," : Str)).length = 1 := rfl
    omega
  · have h := split_line (b := b) hne hz
    rw [e] at h
    have h4 : Txt.split ("-" : Str) "," = [("-" : Str)] := by decide +kernel
    rw [h4] at h
    match zs, hne, hz, h with
    | z :: r, _, hz, h =>
      injection h with h
      exact (hz z (by simp)).own4.2.2.1 h.symm
  · rw [split_line hne hz, List.mem_append] at hp
    rcases hp with hp | hp
    · obtain ⟨z, hzm, rfl⟩ := List.mem_map.mp hp
      exact good1_tok (hz z hzm).gd
    · exact hb.ps p hp
  · rw [split_line hne hz, List.length_append, List.length_map]
    have := split_len b
    omega
/-- the body of the last for -/
def lb14 : List Stmt := match (defBody (top 33)).getD 14 (.Pass ⟨0, 0, 0, 0⟩) with
  | .For _ _ b _ _ => b
  | _ => []
@[irreducible] def lbr (i : Nat) : List Stmt := lb14.drop i
theorem lbr_eq (i : Nat) : lbr i = lb14.drop i := by delta lbr; rfl
section
variable {P : Program} {w : World} {K : PySem.W.Frag} {mg : Str → Option Value} {base : Heap} {f fR fA fB Fa M R C Nt : Addr} {cdv : Value} {A : Around} {outer : List Env} {s : Shared} {H0 : Hp} {E0 : XK}
theorem law_8 {v vr vo vw vp va vm : V} {ox oy o1 o2 : Option V} {vs : Addr} {n : Nat} {zs ws : List Int} {H : Hp} (T0 : Fx (LX P w K mg base f cdv A outer s H0 E0) fR fA fB Fa M R C Nt) (Dn : Dr n zs ws) (S0 : Su K C H n zs ws vr vo vw vp va) (st : St vs H) {D0 : Ends}
    (q : ∀ (k c : Nat) H', k ≤ (tz (zs.getD 0 0)).length → c ∈ ("019-/,. x" : Str).cps.toList → Ke vs H H' → QB (LX P w K mg base f cdv A outer s H0 E0) (rest 14) D0 (some (v) :: some (.ref vs) :: some (.int n) :: some (vr) :: some (vo) :: some (vw) :: some (vp) :: some (va) :: ox :: oy :: o1 :: o2 :: some (vm) :: some (.str (rowT zs)) :: some (.str (tz (zs.getD 0 0))) :: some (.int (k : Nat)) :: some (.str ⟨#[c]⟩) :: none :: none :: none :: none :: none :: none :: []) H') :
    QB (LX P w K mg base f cdv A outer s H0 E0) (rest 12) D0 (some (v) :: some (.ref vs) :: some (.int n) :: some (vr) :: some (vo) :: some (vw) :: some (vp) :: some (va) :: ox :: oy :: o1 :: o2 :: some (vm) :: some (.str (rowT zs)) :: none :: none :: none :: none :: none :: none :: none :: none :: none :: []) H := by
  obtain ⟨hN, nd, hr, tk, n_tuple, n_zip, n_isinstance, n_all, n_list, n_len, n_str, g_ratios, o_ratios, g_read_ratio, o_read_ratio, g_read_ratios, o_read_ratios, g_ratio, c_law_state, c_law_take, c_law_says, c_is_ratio_row, c_ratios_text, c_law_same, c_law_read, c_law_is_text, x_law_num_row, x_ratio_sum, x_ratio_product, x_dot, x_ratios, x_law_result, m_eq, m_str, m_add, m_mul, mkD, T⟩ := T0
  have rr := S0.r
  have z0 : 0 < zs.length := by rw [Dn.lz]; exact Dn.n15.1
  have zk : zok (zs.getD 0 0) := Dn.oz _ (by
    rw [List.getD_eq_getElem?_getD, List.getElem?_eq_getElem z0]
    exact List.getElem_mem _)
  have hz : (100000 : Nat) < sizeLine := by decide
  have l4 := zk.own4.2.2.2.2
  rw [rest_eq]
  change QB _ (_ :: _ :: (defBody (top 33)).drop 14) _ _ _
  rw [← rest_eq 14]
  kct_strs
  refine ixw_mt (d0 := (0 : Int)) rr (by decide) z0 fun w0 r0 => ?_
  obtain ⟨a, rfl, dx, ha⟩ := Rp.rat r0
  kct_strs
  refine callw_strOwn m_str hr (by decide) ha ?_
  refine ⟨a, _, _, rfl, ⟨dx, ha⟩, b6 zk, _, rfl, ?_⟩
  show QG _ _ (V.str (tz (zs.getD 0 0))) _ _ _
  kct_strs
  refine callw_lenS (by omega) ?_
  kct_strs
  refine ⟨vs, ((tz (zs.getD 0 0)).length : Int) + 1, rfl, by omega, st, fun t1 H1 lo1 hi1 k1 => ?_⟩
  kct_strs
  refine ⟨vs, 9, rfl, by decide, k1.t, fun t2 H2 lo2 hi2 k2 => ?_⟩
  obtain ⟨m1, rfl⟩ := Int.eq_ofNat_of_zero_le lo1
  obtain ⟨m2, rfl⟩ := Int.eq_ofNat_of_zero_le lo2
  have h9 : (("019-/,. x" : Str).cps.toList).length = 9 := by decide +kernel
  have hm2 : m2 < (("019-/,. x" : Str).cps.toList).length := by rw [h9]; omega
  refine ixw_s (c := ("019-/,. x" : Str).cps.toList[m2]) (by decide) (atI_nat hm2) ?_
  kct_strs
  exact q m1 _ H2 (by omega) (List.getElem_mem hm2) (k1.trans k2)
/-- the row's text and a bent one, read as a row -/
theorem law_line {v vr vo vw vp va vm vt vown vat vmk : V} {ox oy o1 : Option V} {vs : Addr} {n : Nat} {zs ws : List Int} {H : Hp} {b : Str} {ol : Option V} {g : Bool} (T0 : Fx (LX P w K mg base f cdv A outer s H0 E0) fR fA fB Fa M R C Nt) (Dn : Dr n zs ws) (hb : Bok b) {D0 : Ends}
    (q : ∀ (ol : Option V) H', Same H H' → D0.nx (some (v) :: some (.ref vs) :: some (.int n) :: some (vr) :: some (vo) :: some (vw) :: some (vp) :: some (va) :: ox :: oy :: o1 :: some (.bl g) :: some (vm) :: some (.str (rowT zs)) :: some (vown) :: some (vat) :: some (vmk) :: some (.str b) :: some (vt) :: ol :: none :: none :: none :: []) H') :
    QB (LX P w K mg base f cdv A outer s H0 E0) (lbr 3) D0 (some (v) :: some (.ref vs) :: some (.int n) :: some (vr) :: some (vo) :: some (vw) :: some (vp) :: some (va) :: ox :: oy :: o1 :: some (.bl g) :: some (vm) :: some (.str (rowT zs)) :: some (vown) :: some (vat) :: some (vmk) :: some (.str b) :: some (vt) :: ol :: none :: none :: none :: []) H := by
  obtain ⟨hN, nd, hr, tk, n_tuple, n_zip, n_isinstance, n_all, n_list, n_len, n_str, g_ratios, o_ratios, g_read_ratio, o_read_ratio, g_read_ratios, o_read_ratios, g_ratio, c_law_state, c_law_take, c_law_says, c_is_ratio_row, c_ratios_text, c_law_same, c_law_read, c_law_is_text, x_law_num_row, x_ratio_sum, x_ratio_product, x_dot, x_ratios, x_law_result, m_eq, m_str, m_add, m_mul, mkD, T⟩ := T0
  have hz : (100000 : Nat) < sizeLine := by decide
  have l5 : zs.length ≤ 5 := by rw [Dn.lz]; exact Dn.n15.2
  have hne : zs ≠ [] := fun e => by have := Dn.n15.1; have := Dn.lz; rw [e] at this; simp at this; omega
  obtain ⟨h1, h2, h3, h4⟩ := line_ok l5 hne Dn.oz hb
  have r25 := rowT_len l5 Dn.oz
  have b401 := hb.l
  have c1 : (("," : Str)).length = 1 := rfl
  have al : (Txt.split (rowT zs ++ "," ++ b) ",").all isT = allR (rowT zs ++ "," ++ b) := by
    unfold allR
    rw [Bool.eq_iff_iff, List.all_eq_true, List.all_eq_true]
    constructor
    · exact fun h p hp => by rw [← (h3 p hp).2]; exact h p hp
    · exact fun h p hp => by rw [(h3 p hp).2]; exact h p hp
  have ll : (rowT zs ++ ",").length = (rowT zs).length + 1 := by
    rw [TL.len_tl, TL.tl_append, List.length_append, ← TL.len_tl, ← TL.len_tl, c1]
  rw [lbr_eq]
  change QB _ (_ :: _ :: []) _ _ _
  kct_strs
  refine opw_addS (by omega) ?_
  kct_strs
  refine opw_addS (by omega) ?_
  generalize hln : rowT zs ++ "," ++ b = ln at *
  kct_strs
  refine ⟨fB, .str ln, _, _, rfl, act_reads o_read_ratios h1 h2 (fun p hp => (h3 p hp).1) h4, fun u1 H1 p2 H2 s1 g1 s2 e2 => ?_, fun ef p2 H2 s2 e2 => ?_⟩
  · have eg := g1.1
    kct_strs
    refine ixw_st (.inl (.inl e2)) (v := .str "told") rfl ?_
    kct_strs
    by_place
    (with_reducible refine' we_splitS ?q1 ?hs ?hb ?hl); (case hs => exact rfl); (case hb => exact rfl); (case hl => exact rfl); (case' q1 => skip)
    kct_strs
    refine ⟨rfl, by omega, fun p3 H3 hp3 s3 e3 => ?_⟩
    refine ⟨Str, Txt.split ln ",", D.str, fun p => .bl (isT p), .lstOf e3 (strs_all _), by omega, fun _ _ => rfl, fun p hp u H4 s4 ru => ?_, fun p4 H4 ys s4 hp4 e4 r4 => ?_⟩
    · obtain rfl := ru.str_inv
      intro s0 H00 C0 cl fp
      kct_strs
      exact ⟨p, rfl, (h3 p hp).1, fun H5 s5 => ⟨s5, .bl _⟩⟩
    · kct_strs
      rw [show (Txt.split ln ",").map (fun p => D.bl (isT p)) = ((Txt.split ln ",").map isT).map D.bl by rw [List.map_map]; rfl] at r4
      refine callw_all rfl e4 r4 ?_
      rw [show ((Txt.split ln ",").map isT).all id = (Txt.split ln ",").all isT by rw [List.all_map]; rfl, al, eg]
      kct_strs
      rw [if_pos rfl]
      kct_strs
      refine ifb (fun e => by cases e) (fun _ => ?_)
      kct_strs
      exact q _ _ ((s1.trans s2).trans (s3.trans s4))
  · have eg := ef
    kct_strs
    refine ixw_st (.inl (.inl e2)) (v := .str "text") rfl ?_
    kct_strs
    by_place
    (with_reducible refine' we_splitS ?q2 ?hs ?hb ?hl); (case hs => exact rfl); (case hb => exact rfl); (case hl => exact rfl); (case' q2 => skip)
    kct_strs
    refine ⟨rfl, by omega, fun p3 H3 hp3 s3 e3 => ?_⟩
    refine ⟨Str, Txt.split ln ",", D.str, fun p => .bl (isT p), .lstOf e3 (strs_all _), by omega, fun _ _ => rfl, fun p hp u H4 s4 ru => ?_, fun p4 H4 ys s4 hp4 e4 r4 => ?_⟩
    · obtain rfl := ru.str_inv
      intro s0 H00 C0 cl fp
      kct_strs
      exact ⟨p, rfl, (h3 p hp).1, fun H5 s5 => ⟨s5, .bl _⟩⟩
    · kct_strs
      rw [show (Txt.split ln ",").map (fun p => D.bl (isT p)) = ((Txt.split ln ",").map isT).map D.bl by rw [List.map_map]; rfl] at r4
      refine callw_all rfl e4 r4 ?_
      rw [show ((Txt.split ln ",").map isT).all id = (Txt.split ln ",").all isT by rw [List.all_map]; rfl, al, eg]
      kct_strs
      rw [if_neg (by decide)]
      kct_strs
      refine ifb (fun e => by cases e) (fun _ => ?_)
      kct_strs
      exact q _ _ (s2.trans (s3.trans s4))
end
section
variable {P : Program} {w : World} {K : PySem.W.Frag} {mg : Str → Option Value} {base : Heap} {f fR fA fB Fa M R C Nt : Addr} {cdv : Value} {A : Around} {outer : List Env} {s : Shared} {H0 : Hp} {E0 : XK}
theorem law_body {v vr vo vw vp va vm vown vat vmk : V} {ox oy o1 og ot ol : Option V} {vs : Addr} {n : Nat} {zs ws : List Int} {H : Hp} {b : Str} (T0 : Fx (LX P w K mg base f cdv A outer s H0 E0) fR fA fB Fa M R C Nt) (Dn : Dr n zs ws) (hb : Bok b) {D0 : Ends}
    (q : ∀ (og ot ol : Option V) H', Same H H' → D0.nx (some (v) :: some (.ref vs) :: some (.int n) :: some (vr) :: some (vo) :: some (vw) :: some (vp) :: some (va) :: ox :: oy :: o1 :: og :: some (vm) :: some (.str (rowT zs)) :: some (vown) :: some (vat) :: some (vmk) :: some (.str b) :: ot :: ol :: none :: none :: none :: []) H') :
    QB (LX P w K mg base f cdv A outer s H0 E0) lb14 D0 (some (v) :: some (.ref vs) :: some (.int n) :: some (vr) :: some (vo) :: some (vw) :: some (vp) :: some (va) :: ox :: oy :: o1 :: og :: some (vm) :: some (.str (rowT zs)) :: some (vown) :: some (vat) :: some (vmk) :: some (.str b) :: ot :: ol :: none :: none :: none :: []) H := by
  have TT := T0
  obtain ⟨hN, nd, hr, tk, n_tuple, n_zip, n_isinstance, n_all, n_list, n_len, n_str, g_ratios, o_ratios, g_read_ratio, o_read_ratio, g_read_ratios, o_read_ratios, g_ratio, c_law_state, c_law_take, c_law_says, c_is_ratio_row, c_ratios_text, c_law_same, c_law_read, c_law_is_text, x_law_num_row, x_ratio_sum, x_ratio_product, x_dot, x_ratios, x_law_result, m_eq, m_str, m_add, m_mul, mkD, T⟩ := T0
  have hz : (100000 : Nat) < sizeLine := by decide
  change QB _ (_ :: _ :: _ :: lb14.drop 3) _ _ _
  rw [← lbr_eq 3]
  kct_strs
  refine ⟨b, rfl, hb.t, fun H1 s1 => ?_⟩
  kct_strs
  refine ⟨fA, .str b, _, _, rfl, act_read o_read_ratio hb.t, fun u2 H2 p3 H3 s2 g2 s3 e3 => ?_, fun en p3 H3 s3 e3 => ?_⟩
  · obtain ⟨p, qd, erd, ru⟩ := g2
    have ei : isT b = true := by rw [hb.e, erd]; rfl
    have hf : fit b = true := hb.t.1.resolve_right fun h => by rw [rd_long h] at erd; cases erd
    obtain ⟨f1, f2, f3, f4⟩ := rd_facts hf erd
    rw [ei]
    kct_strs
    refine ixw_st (.inl (.inl e3)) (v := .str "told") rfl ?_
    kct_strs
    rw [if_pos rfl]
    kct_strs
    refine ifn (fun e => absurd rfl e) (fun _ => ?_)
    kct_strs
    rw [if_neg (by decide)]
    kct_strs
    refine ifb (fun e => by cases e) (fun _ => ?_)
    kct_strs
    rw [if_pos rfl]
    kct_strs
    refine ixw_st (.inl (.inl e3)) (v := u2) rfl ?_
    kct_strs
    obtain ⟨a, rfl, dx, ha⟩ := Rp.rat (ru.to s3)
    refine callw_strOwn m_str hr (by decide) ha ?_
    refine ⟨a, p, qd, rfl, ⟨dx, ha⟩, ⟨f2, f3, log_small f4⟩, _, rfl, ?_⟩
    kct_strs
    refine ifn (fun e => absurd f1 e) (fun _ => ?_)
    kct_strs
    exact law_line TT Dn hb fun ol H4 s4 => q _ _ _ H4 (s1.trans (s2.trans (s3.trans s4)))
  · have ei : isT b = false := by rw [hb.e, en]; rfl
    rw [ei]
    kct_strs
    refine ixw_st (.inl (.inl e3)) (v := .str "text") rfl ?_
    kct_strs
    rw [if_neg (by decide)]
    kct_strs
    refine ifn (fun e => absurd rfl e) (fun _ => ?_)
    kct_strs
    rw [if_pos (by decide)]
    kct_strs
    refine ixw_st (.inl (.inl e3)) (v := .int 0) rfl ?_
    kct_strs
    refine ifn (fun e => absurd rfl e) (fun _ => ?_)
    kct_strs
    refine ifb (fun e => by cases e) (fun _ => ?_)
    kct_strs
    rw [if_neg (by decide)]
    kct_strs
    exact law_line TT Dn hb fun ol H4 s4 => q _ _ _ H4 (s1.trans (s3.trans s4))
theorem law_14 {v vr vo vw vp va vm : V} {ox oy o1 o2 : Option V} {vs : Addr} {n k c : Nat} {zs ws : List Int} {H : Hp} (T0 : Fx (LX P w K mg base f cdv A outer s H0 E0) fR fA fB Fa M R C Nt) (Dn : Dr n zs ws) (hk : k ≤ (tz (zs.getD 0 0)).length) (hc : c ∈ ("019-/,. x" : Str).cps.toList) {D0 : Ends}
    (q : ∀ (o2 o3 o4 o5 : Option V) H', Same H H' → QB (LX P w K mg base f cdv A outer s H0 E0) (rest 15) D0 (some (v) :: some (.ref vs) :: some (.int n) :: some (vr) :: some (vo) :: some (vw) :: some (vp) :: some (va) :: ox :: oy :: o1 :: o2 :: some (vm) :: some (.str (rowT zs)) :: some (.str (tz (zs.getD 0 0))) :: some (.int (k : Nat)) :: some (.str ⟨#[c]⟩) :: o3 :: o4 :: o5 :: none :: none :: none :: []) H') :
    QB (LX P w K mg base f cdv A outer s H0 E0) (rest 14) D0 (some (v) :: some (.ref vs) :: some (.int n) :: some (vr) :: some (vo) :: some (vw) :: some (vp) :: some (va) :: ox :: oy :: o1 :: o2 :: some (vm) :: some (.str (rowT zs)) :: some (.str (tz (zs.getD 0 0))) :: some (.int (k : Nat)) :: some (.str ⟨#[c]⟩) :: none :: none :: none :: none :: none :: none :: []) H := by
  have TT := T0
  obtain ⟨hN, nd, hr, tk, n_tuple, n_zip, n_isinstance, n_all, n_list, n_len, n_str, g_ratios, o_ratios, g_read_ratio, o_read_ratio, g_read_ratios, o_read_ratios, g_ratio, c_law_state, c_law_take, c_law_says, c_is_ratio_row, c_ratios_text, c_law_same, c_law_read, c_law_is_text, x_law_num_row, x_ratio_sum, x_ratio_product, x_dot, x_ratios, x_law_result, m_eq, m_str, m_add, m_mul, mkD, T⟩ := T0
  have z0 : 0 < zs.length := by rw [Dn.lz]; exact Dn.n15.1
  have zk : zok (zs.getD 0 0) := Dn.oz _ (by
    rw [List.getD_eq_getElem?_getD, List.getElem?_eq_getElem z0]
    exact List.getElem_mem _)
  have hz : (100000 : Nat) < sizeLine := by decide
  have l4 := zk.own4.2.2.2.2
  have bok := bents_ok zk hk hc
  generalize tz (zs.getD 0 0) = own at *
  have la : ∀ {x y : Str}, (x ++ y).length = x.length + y.length := fun {x y} => by rw [TL.len_tl, TL.tl_append, List.length_append, ← TL.len_tl, ← TL.len_tl]
  have lc : ∀ lo hi, (cutS own lo hi).length ≤ 4 := fun lo hi => Nat.le_trans (cutS_length own lo hi) l4
  have lm : (⟨#[c]⟩ : Str).length = 1 := rfl
  have lA := lc none (some (k : Int))
  have lB := lc (some (k : Int)) none
  have lC := lc (some ((k : Int) + 1)) none
  rw [rest_eq]
  change QB _ (Stmt.For _ _ lb14 [] _ :: (defBody (top 33)).drop 15) _ _ _
  rw [← rest_eq 15]
  refine wss_cons ?_
  one_item
  kct_strs
  refine we_slHiS ?_
  kct_strs
  refine ⟨own, k, rfl, rfl, by omega, ?_⟩
  kct_strs
  refine opw_addS (by rw [lm]; omega) ?_
  kct_strs
  refine we_slLoS ?_
  kct_strs
  refine ⟨own, k, rfl, rfl, by omega, ?_⟩
  refine opw_addS (by rw [la, lm]; omega) ?_
  kct_strs
  refine we_slHiS ?_
  kct_strs
  refine ⟨own, k, rfl, rfl, by omega, ?_⟩
  kct_strs
  refine we_slLoS ?_
  kct_strs
  refine ⟨own, (k : Int) + 1, rfl, rfl, by omega, ?_⟩
  refine opw_addS (by omega) ?_
  kct_strs
  have c1 : (("0" : Str)).length = 1 := rfl
  have c2 : (("/1" : Str)).length = 2 := rfl
  have c3 : (("-" : Str)).length = 1 := rfl
  refine opw_addS (by omega) ?_
  kct_strs
  refine opw_addS (by omega) ?_
  kct_strs
  refine opw_addS (by omega) ?_
  kct_strs
  refine opw_mulS ⟨by decide +kernel, fun _ _ => by decide +kernel, fun _ _ => by decide +kernel⟩ ?_
  kct_strs
  refine ⟨Nat.le_of_ble_eq_true rfl, fun p1 H1 hp1 s1 e1 => ?_⟩
  have e1 : H1 p1 = some (.tup ((bents own k c).map V.str)) := e1
  refine ⟨(bents own k c).map D.str, .tupOf e1 (strs_all _), fun j σ' H' => Same H1 H' ∧ ∃ o2 o3 o4 o5 : Option V, σ' = (some (v) :: some (.ref vs) :: some (.int n) :: some (vr) :: some (vo) :: some (vw) :: some (vp) :: some (va) :: ox :: oy :: o1 :: o2 :: some (vm) :: some (.str (rowT zs)) :: some (.str own) :: some (.int (k : Nat)) :: some (.str ⟨#[c]⟩) :: o3 :: o4 :: o5 :: none :: none :: none :: []), ⟨Same.refl _, _, _, _, _, rfl⟩, fun j σ' H' h => h.1, ?_, ?_⟩
  · rintro j d u σ1 H2 hj ⟨s2, o2, o3, o4, o5, rfl⟩ ru
    obtain ⟨b, eb, rfl⟩ := map_at hj
    obtain rfl := ru.str_inv
    show QG _ _ _ _ _ _
    kct_strs
    exact law_body TT Dn (bok b (List.mem_of_getElem? eb)) fun og ot ol H3 s3 => ⟨s2.trans s3, _, _, _, _, rfl⟩
  · rintro σ1 H2 ⟨s2, o2, o3, o4, o5, rfl⟩
    exact q _ _ _ _ H2 (s1.trans s2)
end
section
variable {X : Cx} {elt iter : Expr} {scope : Scope} {N : List Str} {σ σ1 σw : Sl} {S1 S : V → Sl} {σi : V → Sl} {S2 : V → V → Sl} {H : Hp} {Q : VK} {x y : Str} {i j kk : Nat} {px py tpos : Pos}
/-- [elt for x, y in a tuple of pairs] -/
theorem ql_prsT (T : Two X scope N σ σ1 σw S1 S σi S2 x y i j)
    (q : QE X iter σ H fun v H1 => ∃ (l : Addr) (xs : List (Addr × V × V)) (f : (Addr × V × V) → D), v = .ref l ∧ SqT X.K H1 l (xs.map fun z => V.ref z.1) ∧ (∀ z ∈ xs, H1 z.1 = some (.tup [z.2.1, z.2.2])) ∧ xs.length < sizeLine ∧ (∀ z ∈ xs, (f z).im = true) ∧
      (∀ z ∈ xs, ∀ H3, Same H1 H3 → BE X scope elt (S2 z.2.1 z.2.2) H3 fun y H4 => Same H3 H4 ∧ Rp X.K H4 y (f z)) ∧
      ∀ p H3 ys, Same H1 H3 → H1 p = none → H3 p = some (.lst ys) → RpAll X.K H3 ys (xs.map f) → Q (.ref p) H3) :
    QL X elt (.Tuple [.Name x px, .Name y py] kk tpos) iter [] scope [i, j] σ H Q := by
  refine ql_lc (σw := σw) T.w (qi_tup (q.imp fun v H1 ⟨l, xs, f, e, hl, hp, hz, him, hb, hq⟩ => ?_))
  have hlen : (xs.map fun z => V.ref z.1).length = xs.length := List.length_map _
  refine ⟨l, e, ⟨_, hl⟩, (xs.map fun z => V.ref z.1).length, _, _, walk_tup (xs := xs.map fun z => V.ref z.1), by rw [hlen]; exact hz, fun H' s => Same.tupR s hl, fun k => (xs[k]?).map f, map_im him, ?_, ?_⟩
  · rintro k v H2 H3 hk s2 ⟨rfl, e⟩
    rw [List.getElem?_map] at e
    cases hx : xs[k]? with
    | none => rw [hx] at e; cases e
    | some z =>
      rw [hx] at e
      cases e
      have hm := List.mem_of_getElem? hx
      refine bg_two T (s2 _ _ (hp z hm)) ?_
      intro s H0 C cl fp
      exact (hb z hm H3 s2 s H0 C cl fp).imp fun y H5 ⟨s5, r5⟩ => ⟨s5, _, by simp [hx], r5⟩
  · intro p H2 ys s2 hp hp2 r
    rw [hlen, bits_mp] at r
    exact hq p H2 ys s2 hp hp2 r
end
section
variable {P : Program} {w : World} {K : PySem.W.Frag} {mg : Str → Option Value} {base : Heap} {f fR fA fB Fa M R C Nt : Addr} {cdv : Value} {A : Around} {outer : List Env} {s : Shared} {H0 : Hp} {E0 : XK}
theorem law_15 {v vr vo vw vp va vm vt vown vat vmk : V} {ox oy o1 o2 o3 o4 o5 : Option V} {vs : Addr} {n : Nat} {H : Hp} (T0 : Fx (LX P w K mg base f cdv A outer s H0 E0) fR fA fB Fa M R C Nt) {D0 : Ends}
    (q : ∀ H', D0.rt (.bl true) H') :
    QB (LX P w K mg base f cdv A outer s H0 E0) (rest 15) D0 (some (v) :: some (.ref vs) :: some (.int n) :: some (vr) :: some (vo) :: some (vw) :: some (vp) :: some (va) :: ox :: oy :: o1 :: o2 :: some (vm) :: some (vt) :: some (vown) :: some (vat) :: some (vmk) :: o3 :: o4 :: o5 :: none :: none :: none :: []) H := by
  obtain ⟨hN, nd, hr, tk, n_tuple, n_zip, n_isinstance, n_all, n_list, n_len, n_str, g_ratios, o_ratios, g_read_ratio, o_read_ratio, g_read_ratios, o_read_ratios, g_ratio, c_law_state, c_law_take, c_law_says, c_is_ratio_row, c_ratios_text, c_law_same, c_law_read, c_law_is_text, x_law_num_row, x_ratio_sum, x_ratio_product, x_dot, x_ratios, x_law_result, m_eq, m_str, m_add, m_mul, mkD, T⟩ := T0
  have hz : (1000 : Nat) < sizeLine := by decide
  rw [rest_eq]
  change QB _ (_ :: []) _ _ _
  refine wss_one (ws_ret (we_cmp rfl ?_))
  refine we_lc (own := [("act", 22), ("bad", 20)]) rfl rfl nd ⟨rfl, of_decide_eq_true (by kernel_rfl), of_decide_eq_true (by kernel_rfl), of_decide_eq_true (by kernel_rfl), of_decide_eq_true (by kernel_rfl)⟩ (fun _ => rfl) ?_
  (refine' ql_prsT ⟨?h1, ?h, ?h2, ?hij, ?hN, ?nd, ?hc, ?hl, ?hf, ?hl1, ?hf1⟩ ?q); (case hN => first | with_reducible assumption | assumption); (case h1 => infer_instance); (case h => infer_instance); (case h2 => (intro _; infer_instance)); (case hij => decide); (case nd => first | with_reducible assumption | assumption); (case hc => exact rfl); (case hl => (intro _ _ _ _ _; first | exact Or.inl rfl | exact Or.inr rfl)); (case hf => (intro _ _ _ _ _; first | exact Or.inl rfl | exact Or.inr rfl)); (case hl1 => (intro _ _ _ _ _; first | exact Or.inl rfl | exact Or.inr rfl)); (case hf1 => (intro _ _ _ _ _; first | exact Or.inl rfl | exact Or.inr rfl)); (case' q => skip)
  kct_strs
  refine ⟨Nat.le_of_ble_eq_true rfl, fun p1 H1 hp1 s1 e1 => ?_⟩
  kct_strs
  refine ⟨Nat.le_of_ble_eq_true rfl, fun p2 H2 hp2 s2 e2 => ?_⟩
  kct_strs
  refine ⟨Nat.le_of_ble_eq_true rfl, fun p3 H3 hp3 s3 e3 => ?_⟩
  kct_strs
  refine ⟨Nat.le_of_ble_eq_true rfl, fun p4 H4 hp4 s4 e4 => ?_⟩
  kct_strs
  refine ⟨Nat.le_of_ble_eq_true rfl, fun p5 H5 hp5 s5 e5 => ?_⟩
  kct_strs
  refine ⟨Nat.le_of_ble_eq_true rfl, fun p6 H6 hp6 s6 e6 => ?_⟩
  have t4 := s5.trans s6
  have r4 : Rp K H6 (.ref p4) (.tup [.str "1"]) := Rp.to (.tupOf e4 (.cons (.str _) .nil)) t4
  have key : ∀ z ∈ [(p1, V.ref fA, V.non), (p2, V.ref fB, V.non), (p3, V.ref fA, V.int 5), (p5, V.ref fB, V.ref p4)], H6 z.1 = some (.tup [z.2.1, z.2.2]) ∧ ∃ fx, z.2.1 = .ref fx ∧ ∀ H', Same H6 H' → Act P w K mg base M Nt fx z.2.2 H' (fun _ _ => False) False True := by
    intro z hz
    simp only [List.mem_cons, List.not_mem_nil, or_false] at hz
    rcases hz with rfl | rfl | rfl | rfl
    · exact ⟨(s2.trans (s3.trans (s4.trans t4))) _ _ e1, fA, rfl, fun H' _ => act_badR (d := .non) o_read_ratio .non rfl rfl⟩
    · exact ⟨(s3.trans (s4.trans t4)) _ _ e2, fB, rfl, fun H' _ => act_bad (d := .non) o_read_ratios .non rfl rfl⟩
    · exact ⟨(s4.trans t4) _ _ e3, fA, rfl, fun H' _ => act_badR (d := .int 5) o_read_ratio (.int 5) rfl rfl⟩
    · exact ⟨s6 _ _ e5, fB, rfl, fun H' s => act_bad (d := .tup [.str "1"]) o_read_ratios (r4.to s) rfl rfl⟩
  refine ⟨p6, [(p1, V.ref fA, V.non), (p2, V.ref fB, V.non), (p3, V.ref fA, V.int 5), (p5, V.ref fB, V.ref p4)], fun _ => .tup [.str "text", .int 0], rfl, .inl (.inl e6), fun z hz => (key z hz).1, by show 4 < sizeLine; omega, fun _ _ => rfl, fun z hz H7 s7 => ?_, fun p7 H7 ys s7 hp7 e7 r7 => ?_⟩
  · obtain ⟨_, fx, efx, act⟩ := key z hz
    obtain ⟨za, zf, zv⟩ := z
    dsimp only at efx act ⊢
    subst efx
    intro s0 H00 C0 cl fp
    kct_strs
    refine ⟨fx, zv, _, _, rfl, act H7 s7, fun _ _ _ _ _ h => h.elim, fun _ p8 H8 s8 e8 => ⟨s8, .tupOf e8 (.cons (.str _) (.cons (.int _) .nil))⟩⟩
  · kct_strs
    refine ⟨Nat.le_of_ble_eq_true rfl, fun p8 H8 hp8 s8 e8 => ?_⟩
    kct_strs
    refine ⟨Nat.le_of_ble_eq_true rfl, fun p9 H9 hp9 s9 e9 => ?_⟩
    kct_strs
    refine opw_repL (k := 4) (ds := [.tup [.str "text", .int 0]]) e9 (.cons (.tupOf (s9 _ _ e8) (.cons (.str _) (.cons (.int _) .nil))) .nil) (by decide) (by show 1 ≤ 1000; omega) fun p10 H10 ys10 hp10 s10 e10 r10 => ?_
    have r7' : RpAll K H7 ys [.tup [.str "text", .int 0], .tup [.str "text", .int 0], .tup [.str "text", .int 0], .tup [.str "text", .int 0]] := r7
    have r10' : RpAll K H10 ys10 [.tup [.str "text", .int 0], .tup [.str "text", .int 0], .tup [.str "text", .int 0], .tup [.str "text", .int 0]] := r10
    have q1 := Rp.to (Rp.lstOf e7 r7') (s8.trans (s9.trans s10))
    have q2 := Rp.lstOf e10 r10'
    refine opw_eqd hr q1 q2 (by decide +kernel) (by decide +kernel) (by decide +kernel) (by decide +kernel) fun bb hb => ?_
    rw [hb.mpr rfl]
    exact q H10
end
theorem exm_any {K : PySem.W.Frag} {S T : Addr} {b : Bool} (h1 : PySem.W.subIn K (.ref S) (.type "BaseException") = some true) (h2 : PySem.W.isClsIn K S = true) (h3 : PySem.W.typeIn K (.ref S) = some (.type "type")) (h4 : PySem.W.subIn K (.ref T) (.ref S) = some b) :
    PySem.W.exmOne K (.ref T) (.ref S) = some b := by
  unfold PySem.W.exmOne
  have h2' : (PySem.W.clsIn K S).isSome = true := h2
  simp [h1]
  unfold PySem.W.kitCls
  simp [h2', h3, h4]
theorem kit_ty {K : PySem.W.Frag} {S : Addr} {n : String} {b : Bool} (h2 : PySem.W.isClsIn K S = true) (h3 : PySem.W.typeIn K (.ref S) = some (.type "type")) (h4 : PySem.W.subIn K (.type n) (.ref S) = some b) :
    PySem.W.kitOne K (.type n) (.ref S) = some b := by
  unfold PySem.W.kitOne
  have h2' : (PySem.W.clsIn K S).isSome = true := h2
  rw [if_neg (by simp)]
  unfold PySem.W.kitCls
  simp [h2', h3, h4]
theorem kit_me {K : PySem.W.Frag} {S : Addr} : PySem.W.kitOne K (.ref S) (.ref S) = some true := by
  unfold PySem.W.kitOne
  rw [if_pos (by simp)]
theorem rp_ints {K : PySem.W.Frag} {H : Hp} {a : Addr} {ns : List Int} (h : SqL K H a (ns.map V.int)) : Rp K H (.ref a) (.lst (ns.map .int)) := .lst h (RpAll.ints ns)
section
variable {P : Program} {w : World} {K : PySem.W.Frag} {mg : Str → Option Value} {base : Heap}
def spLaw (K : PySem.W.Frag) : Sp := fun vs H Q _ => ∃ (a : Addr) (ns : List Int), vs = [.ref a] ∧ SqL K H a (ns.map V.int) ∧ ns.length ≤ 63 ∧ ∀ H', Q (.bl true) H'
theorem ok_law {f fR fA fB Fa M R C Nt : Addr} {fd : FuncData} (F : Fun K "law" "law" (top 33) f fd)
    (n_tuple : mg "tuple" = none)
    (n_zip : mg "zip" = none)
    (n_isinstance : mg "isinstance" = none)
    (n_all : mg "all" = none)
    (n_list : mg "list" = none)
    (n_len : mg "len" = none)
    (n_str : mg "str" = none)
    (g_ratios : mg "ratios" = some (.ref fR)) (o_ratios : ∃ fd ps, FnOk P w K mg base (L2.CX P w) 8 fR fd ps (spRs K M C) ∧ PySem.W.keepIn K (.ref fR) = true ∧ Binds K fd ps [])
    (g_read_ratio : mg "read_ratio" = some (.ref fA)) (o_read_ratio : ∃ fd ps, FnOk P w K mg base (L2.CX P w) 8 fA fd ps (spRead K Nt C) ∧ PySem.W.keepIn K (.ref fA) = true ∧ Binds K fd ps [])
    (g_read_ratios : mg "read_ratios" = some (.ref fB)) (o_read_ratios : ∃ fd ps, FnOk P w K mg base (L2.CX P w) 8 fB fd ps (spReads K Nt C) ∧ PySem.W.keepIn K (.ref fB) = true ∧ Binds K fd ps [])
    (g_ratio : mg "Ratio" = some (.ref C))
    (c_law_state : Cal P w K mg base 1 "_law_state" (spState K) [])
    (c_law_take : Cal P w K mg base 1 "_law_take" (spTake) [])
    (c_law_says : Cal P w K mg base 1 "_law_says" (spSays) [])
    (c_is_ratio_row : Cal P w K mg base 2 "is_ratio_row" (spRR K C) [])
    (c_ratios_text : Cal P w K mg base 4 "ratios_text" (spTx K C) [])
    (c_law_same : Cal P w K mg base 2 "_law_same" (spSameZ) [])
    (c_law_read : Cal P w K mg base 10 "_law_read" (spLR P w K mg base M Nt) [])
    (c_law_is_text : Cal P w K mg base 2 "_law_is_text" (spIsT) [])
    (x_law_num_row : CalX P w K mg base 6 "_law_num_row" (spNr K C) [])
    (x_ratio_sum : CalX P w K mg base 6 "ratio_sum" (spSum K C) [])
    (x_ratio_product : CalX P w K mg base 6 "ratio_product" (spProd K C) [])
    (x_dot : CalX P w K mg base 7 "dot" (spDot K C) [])
    (x_ratios : CalX P w K mg base 5 "ratios" (spRs K M C) [])
    (x_law_result : CalX P w K mg base 9 "_law_result" (spResT P w K mg base M Nt) [])
    (m_eq : MetX P w K mg base CX0 1 C "__eq__" (spEqR K C)) (m_str : MetX P w K mg base CX0 1 C "__str__" (spAns C fun p q => .str (told p q)))
    (m_add : MetX P w K mg base (L2.CX P w) 5 C "__add__" (spOp K M R C (fun p q p' q' => p * q' + p' * q) (fun p q p' q' => q * q'))) (m_mul : MetX P w K mg base (L2.CX P w) 5 C "__mul__" (spOp K M R C (fun p q p' q' => p * p') (fun p q p' q' => q * q')))
    (mkD : MakD P w K mg base (L2.CX P w) 3 "Ratio" C (spInit (K := K) M R C) [.int 1]) (T4 : Cls4 K mg Fa M R C)
    : FnOk P w K mg base CX0 12 f fd ["script"] (spLaw K) := by
  refine okS F scL (fun vs H Q E ⟨_, _, e, _⟩ => by rw [e]; rfl) ?_
  rintro cdv A outer s H _ Q E hr ⟨a, ns, rfl, hS, hl, q⟩ hN nd
  have T : Fx (LX P w K mg base f cdv A outer s H E) fR fA fB Fa M R C Nt := ⟨hN, nd, hr, takes0, n_tuple, n_zip, n_isinstance, n_all, n_list, n_len, n_str, g_ratios, o_ratios, g_read_ratio, o_read_ratio, g_read_ratios, o_read_ratios, g_ratio, c_law_state, c_law_take, c_law_says, c_is_ratio_row, c_ratios_text, c_law_same, c_law_read, c_law_is_text, x_law_num_row, x_ratio_sum, x_ratio_product, x_dot, x_ratios, x_law_result, m_eq, m_str, m_add, m_mul, mkD, T4⟩
  refine law_1 T (rp_ints hS) hl fun vs n zs ws vr vo vw vp va ox oy H1 st D S0 => ?_
  refine law_2 T D S0 fun H2 s2 => ?_
  refine law_3 T D (S0.to s2) fun o1 o2 H3 s3 => ?_
  have S3 := s2.trans s3
  have st3 := st.same S3
  refine law_4a T D (S0.to S3) st3 fun vm t H4 k4 rm => ?_
  have S4 := (S0.to S3).ke st3 k4
  refine law_4b T D S4 rm fun H5 s5 => ?_
  refine law_5 T fun H6 s6 => ?_
  have S6 := S4.to (s5.trans s6)
  refine law_6 T D S6 fun H7 s7 => ?_
  refine law_7 T D (S6.to s7) fun H8 s8 => ?_
  have st8 := k4.t.same (s5.trans (s6.trans (s7.trans s8)))
  refine law_8 T D (S6.to (s7.trans s8)) st8 fun k c H9 hk hc k9 => ?_
  refine law_14 T D hk hc fun o2 o3 o4 o5 H10 s10 => ?_
  exact law_15 T fun H11 => q H11
end
section
theorem all_mk {l : PySem.W.OpenLaw} {w : World} {K : PySem.W.Frag} {h : Heap} {mg : Str → Option Value} (X : K.In h) (G : h.Ns mainGlobals mg)
    {C Fa M R T Nt : Addr} {t3 : Tok} {f7 : Addr} {od7 an7 : Option Addr} {sl7 : Array (Option Value)} {oc7 kV7 dc7 pm7 cd7 ct7 : Value} {f8 : Addr} {od8 an8 : Option Addr} {sl8 : Array (Option Value)} {oc8 kV8 dc8 pm8 cd8 ct8 : Value} {f12 : Addr} {od12 an12 : Option Addr} {sl12 : Array (Option Value)} {oc12 kV12 dc12 pm12 cd12 ct12 : Value} {f13 : Addr} {od13 an13 : Option Addr} {sl13 : Array (Option Value)} {oc13 kV13 dc13 pm13 cd13 ct13 : Value} {f14 : Addr} {od14 an14 : Option Addr} {sl14 : Array (Option Value)} {oc14 kV14 dc14 pm14 cd14 ct14 : Value} {f15 : Addr} {od15 an15 : Option Addr} {sl15 : Array (Option Value)} {oc15 kV15 dc15 pm15 cd15 ct15 : Value} {f16 : Addr} {od16 an16 : Option Addr} {sl16 : Array (Option Value)} {oc16 kV16 dc16 pm16 cd16 ct16 : Value} {f17 : Addr} {od17 an17 : Option Addr} {sl17 : Array (Option Value)} {oc17 kV17 dc17 pm17 cd17 ct17 : Value} {f18 : Addr} {od18 an18 : Option Addr} {sl18 : Array (Option Value)} {oc18 kV18 dc18 pm18 cd18 ct18 : Value} {f19 : Addr} {od19 an19 : Option Addr} {sl19 : Array (Option Value)} {oc19 kV19 dc19 pm19 cd19 ct19 : Value} {f20 : Addr} {od20 an20 : Option Addr} {sl20 : Array (Option Value)} {oc20 kV20 dc20 pm20 cd20 ct20 : Value} {f22 : Addr} {od22 an22 : Option Addr} {sl22 : Array (Option Value)} {oc22 kV22 dc22 pm22 cd22 ct22 : Value} {f23 : Addr} {od23 an23 : Option Addr} {sl23 : Array (Option Value)} {oc23 kV23 dc23 pm23 cd23 ct23 : Value} {f24 : Addr} {od24 an24 : Option Addr} {sl24 : Array (Option Value)} {oc24 kV24 dc24 pm24 cd24 ct24 : Value} {f25 : Addr} {od25 an25 : Option Addr} {sl25 : Array (Option Value)} {oc25 kV25 dc25 pm25 cd25 ct25 : Value} {f26 : Addr} {od26 an26 : Option Addr} {sl26 : Array (Option Value)} {oc26 kV26 dc26 pm26 cd26 ct26 : Value} {f27 : Addr} {od27 an27 : Option Addr} {sl27 : Array (Option Value)} {oc27 kV27 dc27 pm27 cd27 ct27 : Value} {f28 : Addr} {od28 an28 : Option Addr} {sl28 : Array (Option Value)} {oc28 kV28 dc28 pm28 cd28 ct28 : Value} {f29 : Addr} {od29 an29 : Option Addr} {sl29 : Array (Option Value)} {oc29 kV29 dc29 pm29 cd29 ct29 : Value} {f30 : Addr} {od30 an30 : Option Addr} {sl30 : Array (Option Value)} {oc30 kV30 dc30 pm30 cd30 ct30 : Value} {f31 : Addr} {od31 an31 : Option Addr} {sl31 : Array (Option Value)} {oc31 kV31 dc31 pm31 cd31 ct31 : Value} {f32 : Addr} {od32 an32 : Option Addr} {sl32 : Array (Option Value)} {oc32 kV32 dc32 pm32 cd32 ct32 : Value} {f33 : Addr} {od33 an33 : Option Addr} {sl33 : Array (Option Value)} {oc33 kV33 dc33 pm33 cd33 ct33 : Value} {fm1 : Addr} {odm1 anm1 : Option Addr} {slm1 : Array (Option Value)} {ocm1 kVm1 dcm1 pmm1 cdm1 ctm1 : Value} {fm3 : Addr} {odm3 anm3 : Option Addr} {slm3 : Array (Option Value)} {ocm3 kVm3 dcm3 pmm3 cdm3 ctm3 : Value} {fm4 : Addr} {odm4 anm4 : Option Addr} {slm4 : Array (Option Value)} {ocm4 kVm4 dcm4 pmm4 cdm4 ctm4 : Value} {fm5 : Addr} {odm5 anm5 : Option Addr} {slm5 : Array (Option Value)} {ocm5 kVm5 dcm5 pmm5 cdm5 ctm5 : Value} {fm7 : Addr} {odm7 anm7 : Option Addr} {slm7 : Array (Option Value)} {ocm7 kVm7 dcm7 pmm7 cdm7 ctm7 : Value} {fRI : Addr} {odRI anRI : Option Addr} {slRI : Array (Option Value)} {ocRI kVRI dcRI pmRI cdRI ctRI : Value} {fNI : Addr} {odNI anNI : Option Addr} {slNI : Array (Option Value)} {ocNI kVNI dcNI pmNI cdNI ctNI : Value} {fI : Addr} {odI anI : Option Addr} {slI : Array (Option Value)} {ocI kVI dcI pmI cdI ctI : Value} {oT : Obj} {itT : Value} {nT : Nat} {nmR qR : Str} {NR : Addr} {bsR bmR : List Value} {snR : List Str} {subR : List Value} {abR : Bool} {colR : Option Bool} {ddR : Option Addr} {k0R k1R k2R k3R k5R : Option Value} {nmZ qZ : Str} {NZ : Addr} {bsZ bmZ : List Value} {snZ : List Str} {subZ : List Value} {abZ : Bool} {colZ : Option Bool} {ddZ : Option Addr} {k0Z k1Z k2Z k3Z k5Z : Option Value}
    {fa : Addr} (hfa : mg "law" = some (.ref fa))
    (gC : PySem.W.nsIn K mainGlobals "Ratio" = some (some (.ref C)))
    (gF : PySem.W.nsIn K mainGlobals "Fault" = some (some (.ref Fa)))
    (gM : PySem.W.nsIn K mainGlobals "Malformed" = some (some (.ref M)))
    (gR : PySem.W.nsIn K mainGlobals "Refused" = some (some (.ref R)))
    (gZ : PySem.W.nsIn K mainGlobals "NoText" = some (some (.ref Nt)))
    (gS : PySem.W.nsIn K mainGlobals "MOST_SIGNS" = some (some (.int 400 t3)))
    (a7 : PySem.W.nsIn K mainGlobals "is_integer" = some (some (.ref f7)))
    (l7 : K.lookup f7 = some ⟨oc7, od7, .func (PySem.W.fnOf "is_integer" "is_integer" (defArgs (top 7)) (defBody (top 7)) (defScope (top 7)) .none kV7 dc7 pm7 an7 cd7 ct7), sl7⟩)
    (c7 : PySem.W.codeIn K cd7 "is_integer" = true)
    (k7 : PySem.W.keepIn K (.ref f7) = true)
    (a8 : PySem.W.nsIn K mainGlobals "common" = some (some (.ref f8)))
    (l8 : K.lookup f8 = some ⟨oc8, od8, .func (PySem.W.fnOf "common" "common" (defArgs (top 8)) (defBody (top 8)) (defScope (top 8)) .none kV8 dc8 pm8 an8 cd8 ct8), sl8⟩)
    (c8 : PySem.W.codeIn K cd8 "common" = true)
    (k8 : PySem.W.keepIn K (.ref f8) = true)
    (a12 : PySem.W.nsIn K mainGlobals "check_ratio" = some (some (.ref f12)))
    (l12 : K.lookup f12 = some ⟨oc12, od12, .func (PySem.W.fnOf "check_ratio" "check_ratio" (defArgs (top 12)) (defBody (top 12)) (defScope (top 12)) .none kV12 dc12 pm12 an12 cd12 ct12), sl12⟩)
    (c12 : PySem.W.codeIn K cd12 "check_ratio" = true)
    (k12 : PySem.W.keepIn K (.ref f12) = true)
    (a13 : PySem.W.nsIn K mainGlobals "is_ratio_row" = some (some (.ref f13)))
    (l13 : K.lookup f13 = some ⟨oc13, od13, .func (PySem.W.fnOf "is_ratio_row" "is_ratio_row" (defArgs (top 13)) (defBody (top 13)) (defScope (top 13)) .none kV13 dc13 pm13 an13 cd13 ct13), sl13⟩)
    (c13 : PySem.W.codeIn K cd13 "is_ratio_row" = true)
    (k13 : PySem.W.keepIn K (.ref f13) = true)
    (a14 : PySem.W.nsIn K mainGlobals "ratios" = some (some (.ref f14)))
    (l14 : K.lookup f14 = some ⟨oc14, od14, .func (PySem.W.fnOf "ratios" "ratios" (defArgs (top 14)) (defBody (top 14)) (defScope (top 14)) .none kV14 dc14 pm14 an14 cd14 ct14), sl14⟩)
    (c14 : PySem.W.codeIn K cd14 "ratios" = true)
    (k14 : PySem.W.keepIn K (.ref f14) = true)
    (a15 : PySem.W.nsIn K mainGlobals "ratio_sum" = some (some (.ref f15)))
    (l15 : K.lookup f15 = some ⟨oc15, od15, .func (PySem.W.fnOf "ratio_sum" "ratio_sum" (defArgs (top 15)) (defBody (top 15)) (defScope (top 15)) .none kV15 dc15 pm15 an15 cd15 ct15), sl15⟩)
    (c15 : PySem.W.codeIn K cd15 "ratio_sum" = true)
    (k15 : PySem.W.keepIn K (.ref f15) = true)
    (a16 : PySem.W.nsIn K mainGlobals "ratio_product" = some (some (.ref f16)))
    (l16 : K.lookup f16 = some ⟨oc16, od16, .func (PySem.W.fnOf "ratio_product" "ratio_product" (defArgs (top 16)) (defBody (top 16)) (defScope (top 16)) .none kV16 dc16 pm16 an16 cd16 ct16), sl16⟩)
    (c16 : PySem.W.codeIn K cd16 "ratio_product" = true)
    (k16 : PySem.W.keepIn K (.ref f16) = true)
    (a17 : PySem.W.nsIn K mainGlobals "dot" = some (some (.ref f17)))
    (l17 : K.lookup f17 = some ⟨oc17, od17, .func (PySem.W.fnOf "dot" "dot" (defArgs (top 17)) (defBody (top 17)) (defScope (top 17)) .none kV17 dc17 pm17 an17 cd17 ct17), sl17⟩)
    (c17 : PySem.W.codeIn K cd17 "dot" = true)
    (k17 : PySem.W.keepIn K (.ref f17) = true)
    (a18 : PySem.W.nsIn K mainGlobals "ratios_text" = some (some (.ref f18)))
    (l18 : K.lookup f18 = some ⟨oc18, od18, .func (PySem.W.fnOf "ratios_text" "ratios_text" (defArgs (top 18)) (defBody (top 18)) (defScope (top 18)) .none kV18 dc18 pm18 an18 cd18 ct18), sl18⟩)
    (c18 : PySem.W.codeIn K cd18 "ratios_text" = true)
    (k18 : PySem.W.keepIn K (.ref f18) = true)
    (a19 : PySem.W.nsIn K mainGlobals "read_ratio" = some (some (.ref f19)))
    (l19 : K.lookup f19 = some ⟨oc19, od19, .func (PySem.W.fnOf "read_ratio" "read_ratio" (defArgs (top 19)) (defBody (top 19)) (defScope (top 19)) .none kV19 dc19 pm19 an19 cd19 ct19), sl19⟩)
    (c19 : PySem.W.codeIn K cd19 "read_ratio" = true)
    (k19 : PySem.W.keepIn K (.ref f19) = true)
    (a20 : PySem.W.nsIn K mainGlobals "read_ratios" = some (some (.ref f20)))
    (l20 : K.lookup f20 = some ⟨oc20, od20, .func (PySem.W.fnOf "read_ratios" "read_ratios" (defArgs (top 20)) (defBody (top 20)) (defScope (top 20)) .none kV20 dc20 pm20 an20 cd20 ct20), sl20⟩)
    (c20 : PySem.W.codeIn K cd20 "read_ratios" = true)
    (k20 : PySem.W.keepIn K (.ref f20) = true)
    (a22 : PySem.W.nsIn K mainGlobals "_law_state" = some (some (.ref f22)))
    (l22 : K.lookup f22 = some ⟨oc22, od22, .func (PySem.W.fnOf "_law_state" "_law_state" (defArgs (top 22)) (defBody (top 22)) (defScope (top 22)) .none kV22 dc22 pm22 an22 cd22 ct22), sl22⟩)
    (c22 : PySem.W.codeIn K cd22 "_law_state" = true)
    (k22 : PySem.W.keepIn K (.ref f22) = true)
    (a23 : PySem.W.nsIn K mainGlobals "_law_take" = some (some (.ref f23)))
    (l23 : K.lookup f23 = some ⟨oc23, od23, .func (PySem.W.fnOf "_law_take" "_law_take" (defArgs (top 23)) (defBody (top 23)) (defScope (top 23)) .none kV23 dc23 pm23 an23 cd23 ct23), sl23⟩)
    (c23 : PySem.W.codeIn K cd23 "_law_take" = true)
    (k23 : PySem.W.keepIn K (.ref f23) = true)
    (a24 : PySem.W.nsIn K mainGlobals "_law_says" = some (some (.ref f24)))
    (l24 : K.lookup f24 = some ⟨oc24, od24, .func (PySem.W.fnOf "_law_says" "_law_says" (defArgs (top 24)) (defBody (top 24)) (defScope (top 24)) .none kV24 dc24 pm24 an24 cd24 ct24), sl24⟩)
    (c24 : PySem.W.codeIn K cd24 "_law_says" = true)
    (k24 : PySem.W.keepIn K (.ref f24) = true)
    (a25 : PySem.W.nsIn K mainGlobals "_law_is_whole" = some (some (.ref f25)))
    (l25 : K.lookup f25 = some ⟨oc25, od25, .func (PySem.W.fnOf "_law_is_whole" "_law_is_whole" (defArgs (top 25)) (defBody (top 25)) (defScope (top 25)) .none kV25 dc25 pm25 an25 cd25 ct25), sl25⟩)
    (c25 : PySem.W.codeIn K cd25 "_law_is_whole" = true)
    (k25 : PySem.W.keepIn K (.ref f25) = true)
    (a26 : PySem.W.nsIn K mainGlobals "_law_same" = some (some (.ref f26)))
    (l26 : K.lookup f26 = some ⟨oc26, od26, .func (PySem.W.fnOf "_law_same" "_law_same" (defArgs (top 26)) (defBody (top 26)) (defScope (top 26)) .none kV26 dc26 pm26 an26 cd26 ct26), sl26⟩)
    (c26 : PySem.W.codeIn K cd26 "_law_same" = true)
    (k26 : PySem.W.keepIn K (.ref f26) = true)
    (a27 : PySem.W.nsIn K mainGlobals "_law_common" = some (some (.ref f27)))
    (l27 : K.lookup f27 = some ⟨oc27, od27, .func (PySem.W.fnOf "_law_common" "_law_common" (defArgs (top 27)) (defBody (top 27)) (defScope (top 27)) .none kV27 dc27 pm27 an27 cd27 ct27), sl27⟩)
    (c27 : PySem.W.codeIn K cd27 "_law_common" = true)
    (k27 : PySem.W.keepIn K (.ref f27) = true)
    (a28 : PySem.W.nsIn K mainGlobals "_law_result" = some (some (.ref f28)))
    (l28 : K.lookup f28 = some ⟨oc28, od28, .func (PySem.W.fnOf "_law_result" "_law_result" (defArgs (top 28)) (defBody (top 28)) (defScope (top 28)) .none kV28 dc28 pm28 an28 cd28 ct28), sl28⟩)
    (c28 : PySem.W.codeIn K cd28 "_law_result" = true)
    (k28 : PySem.W.keepIn K (.ref f28) = true)
    (a29 : PySem.W.nsIn K mainGlobals "_law_num" = some (some (.ref f29)))
    (l29 : K.lookup f29 = some ⟨oc29, od29, .func (PySem.W.fnOf "_law_num" "_law_num" (defArgs (top 29)) (defBody (top 29)) (defScope (top 29)) .none kV29 dc29 pm29 an29 cd29 ct29), sl29⟩)
    (c29 : PySem.W.codeIn K cd29 "_law_num" = true)
    (k29 : PySem.W.keepIn K (.ref f29) = true)
    (a30 : PySem.W.nsIn K mainGlobals "_law_num_row" = some (some (.ref f30)))
    (l30 : K.lookup f30 = some ⟨oc30, od30, .func (PySem.W.fnOf "_law_num_row" "_law_num_row" (defArgs (top 30)) (defBody (top 30)) (defScope (top 30)) .none kV30 dc30 pm30 an30 cd30 ct30), sl30⟩)
    (c30 : PySem.W.codeIn K cd30 "_law_num_row" = true)
    (k30 : PySem.W.keepIn K (.ref f30) = true)
    (a31 : PySem.W.nsIn K mainGlobals "_law_read" = some (some (.ref f31)))
    (l31 : K.lookup f31 = some ⟨oc31, od31, .func (PySem.W.fnOf "_law_read" "_law_read" (defArgs (top 31)) (defBody (top 31)) (defScope (top 31)) .none kV31 dc31 pm31 an31 cd31 ct31), sl31⟩)
    (c31 : PySem.W.codeIn K cd31 "_law_read" = true)
    (k31 : PySem.W.keepIn K (.ref f31) = true)
    (a32 : PySem.W.nsIn K mainGlobals "_law_is_text" = some (some (.ref f32)))
    (l32 : K.lookup f32 = some ⟨oc32, od32, .func (PySem.W.fnOf "_law_is_text" "_law_is_text" (defArgs (top 32)) (defBody (top 32)) (defScope (top 32)) .none kV32 dc32 pm32 an32 cd32 ct32), sl32⟩)
    (c32 : PySem.W.codeIn K cd32 "_law_is_text" = true)
    (k32 : PySem.W.keepIn K (.ref f32) = true)
    (a33 : PySem.W.nsIn K mainGlobals "law" = some (some (.ref f33)))
    (l33 : K.lookup f33 = some ⟨oc33, od33, .func (PySem.W.fnOf "law" "law" (defArgs (top 33)) (defBody (top 33)) (defScope (top 33)) .none kV33 dc33 pm33 an33 cd33 ct33), sl33⟩)
    (c33 : PySem.W.codeIn K cd33 "law" = true)
    (k33 : PySem.W.keepIn K (.ref f33) = true)
    (am1 : PySem.W.findIn K (.ref C) "__add__" = some (some (.ref fm1)))
    (lm1 : K.lookup fm1 = some ⟨ocm1, odm1, .func (PySem.W.fnOf "__add__" "Ratio.__add__" (defArgs (inC 11 1)) (defBody (inC 11 1)) (defScope (inC 11 1)) .none kVm1 dcm1 pmm1 anm1 cdm1 ctm1), slm1⟩)
    (cm1 : PySem.W.codeIn K cdm1 "Ratio.__add__" = true)
    (km1 : PySem.W.keepIn K (.ref fm1) = true)
    (im1 : PySem.W.isFn K (.ref fm1) = true)
    (am3 : PySem.W.findIn K (.ref C) "__mul__" = some (some (.ref fm3)))
    (lm3 : K.lookup fm3 = some ⟨ocm3, odm3, .func (PySem.W.fnOf "__mul__" "Ratio.__mul__" (defArgs (inC 11 3)) (defBody (inC 11 3)) (defScope (inC 11 3)) .none kVm3 dcm3 pmm3 anm3 cdm3 ctm3), slm3⟩)
    (cm3 : PySem.W.codeIn K cdm3 "Ratio.__mul__" = true)
    (km3 : PySem.W.keepIn K (.ref fm3) = true)
    (im3 : PySem.W.isFn K (.ref fm3) = true)
    (am4 : PySem.W.findIn K (.ref C) "__neg__" = some (some (.ref fm4)))
    (lm4 : K.lookup fm4 = some ⟨ocm4, odm4, .func (PySem.W.fnOf "__neg__" "Ratio.__neg__" (defArgs (inC 11 4)) (defBody (inC 11 4)) (defScope (inC 11 4)) .none kVm4 dcm4 pmm4 anm4 cdm4 ctm4), slm4⟩)
    (cm4 : PySem.W.codeIn K cdm4 "Ratio.__neg__" = true)
    (km4 : PySem.W.keepIn K (.ref fm4) = true)
    (im4 : PySem.W.isFn K (.ref fm4) = true)
    (am5 : PySem.W.findIn K (.ref C) "__eq__" = some (some (.ref fm5)))
    (lm5 : K.lookup fm5 = some ⟨ocm5, odm5, .func (PySem.W.fnOf "__eq__" "Ratio.__eq__" (defArgs (inC 11 5)) (defBody (inC 11 5)) (defScope (inC 11 5)) .none kVm5 dcm5 pmm5 anm5 cdm5 ctm5), slm5⟩)
    (cm5 : PySem.W.codeIn K cdm5 "Ratio.__eq__" = true)
    (km5 : PySem.W.keepIn K (.ref fm5) = true)
    (im5 : PySem.W.isFn K (.ref fm5) = true)
    (am7 : PySem.W.findIn K (.ref C) "__str__" = some (some (.ref fm7)))
    (lm7 : K.lookup fm7 = some ⟨ocm7, odm7, .func (PySem.W.fnOf "__str__" "Ratio.__str__" (defArgs (inC 11 7)) (defBody (inC 11 7)) (defScope (inC 11 7)) .none kVm7 dcm7 pmm7 anm7 cdm7 ctm7), slm7⟩)
    (cm7 : PySem.W.codeIn K cdm7 "Ratio.__str__" = true)
    (km7 : PySem.W.keepIn K (.ref fm7) = true)
    (im7 : PySem.W.isFn K (.ref fm7) = true)
    (aRI : PySem.W.findIn K (.ref R) "__init__" = some (some (.ref fRI)))
    (lRI : K.lookup fRI = some ⟨ocRI, odRI, .func (PySem.W.fnOf "__init__" "Refused.__init__" (defArgs (inC 4 0)) (defBody (inC 4 0)) (defScope (inC 4 0)) .none kVRI dcRI pmRI anRI cdRI ctRI), slRI⟩)
    (cRI : PySem.W.codeIn K cdRI "Refused.__init__" = true)
    (kRI : PySem.W.keepIn K (.ref fRI) = true)
    (tfR : PySem.W.typeIn K (.ref fRI) = some (.type "function"))
    (aNI : PySem.W.findIn K (.ref Nt) "__init__" = some (some (.ref fNI)))
    (lNI : K.lookup fNI = some ⟨ocNI, odNI, .func (PySem.W.fnOf "__init__" "NoText.__init__" (defArgs (inC 5 0)) (defBody (inC 5 0)) (defScope (inC 5 0)) .none kVNI dcNI pmNI anNI cdNI ctNI), slNI⟩)
    (cNI : PySem.W.codeIn K cdNI "NoText.__init__" = true)
    (kNI : PySem.W.keepIn K (.ref fNI) = true)
    (tfN : PySem.W.typeIn K (.ref fNI) = some (.type "function"))
    (aI : PySem.W.findIn K (.ref C) "__init__" = some (some (.ref fI)))
    (lI : K.lookup fI = some ⟨ocI, odI, .func (PySem.W.fnOf "__init__" "Ratio.__init__" (defArgs (inC 11 0)) (defBody (inC 11 0)) (defScope (inC 11 0)) (.ref T) kVI dcI pmI anI cdI ctI), slI⟩)
    (cI : PySem.W.codeIn K cdI "Ratio.__init__" = true)
    (kI : PySem.W.keepIn K (.ref fI) = true)
    (iI : PySem.W.isFn K (.ref fI) = true)
    (lT : K.lookup T = some oT)
    (oTd : oT.data = .seq [itT].toArray nT)
    (rT : RelV (.int 1) itT)
    (sF : PySem.W.specialIn K (.ref Fa) "__getattribute__" = some (some (.builtin "type.__getattribute__")))
    (tF : PySem.W.typeIn K (.ref Fa) = some (.type "type"))
    (rF : PySem.W.readsIn K Fa (.type "type") = true)
    (vF : PySem.W.findCls K (.ref Fa) (.type "type") "__init__" = some (.val (.builtin "ValueError.__init__")))
    (xM : PySem.W.excIn K M [.type "ValueError", .type "Exception", .type "BaseException", .type "object"] "ValueError.__new__" = true)
    (kM : PySem.W.keepIn K (.ref M) = true)
    (bM : PySem.W.subIn K (.ref M) (.type "BaseException") = some true)
    (tM : PySem.W.typeIn K (.ref M) = some (.type "type"))
    (lR : K.lookup R = some (excClassObj nmR qR R NR bsR bmR true snR subR abR colR ddR k0R k1R k2R k3R k5R "ValueError.__new__"))
    (rbR : PySem.HandSPX.refsVE bmR = true)
    (saR : PySem.W.findIn K (.ref R) "__setattr__" = some (some (.builtin "object.__setattr__")))
    (bR : PySem.W.subIn K (.ref R) (.type "BaseException") = some true)
    (tR : PySem.W.typeIn K (.ref R) = some (.type "type"))
    (kR : PySem.W.keepIn K (.ref R) = true)
    (nR : PySem.W.findIn K (.ref R) "reason" = some none)
    (gaR : PySem.W.findIn K (.ref R) "__getattribute__" = some (some (.builtin "BaseException.__getattribute__")))
    (ggR : PySem.W.findIn K (.ref R) "__getattr__" = some none)
    (hdR : PySem.W.hasDictIn K R = true)
    (iM : PySem.W.isClsIn K M = true)
    (iR : PySem.W.isClsIn K R = true)
    (sMM : PySem.W.subIn K (.ref M) (.ref M) = some true)
    (sRM : PySem.W.subIn K (.ref R) (.ref M) = some false)
    (sRR : PySem.W.subIn K (.ref R) (.ref R) = some true)
    (nRM : R ≠ M)
    (lZ : K.lookup Nt = some (excClassObj nmZ qZ Nt NZ bsZ bmZ true snZ subZ abZ colZ ddZ k0Z k1Z k2Z k3Z k5Z "ValueError.__new__"))
    (rbZ : PySem.HandSPX.refsVE bmZ = true)
    (saZ : PySem.W.findIn K (.ref Nt) "__setattr__" = some (some (.builtin "object.__setattr__")))
    (bZ : PySem.W.subIn K (.ref Nt) (.type "BaseException") = some true)
    (tZ : PySem.W.typeIn K (.ref Nt) = some (.type "type"))
    (kZ : PySem.W.keepIn K (.ref Nt) = true)
    (nZ : PySem.W.findIn K (.ref Nt) "at" = some none)
    (gaZ : PySem.W.findIn K (.ref Nt) "__getattribute__" = some (some (.builtin "BaseException.__getattribute__")))
    (ggZ : PySem.W.findIn K (.ref Nt) "__getattr__" = some none)
    (hdZ : PySem.W.hasDictIn K Nt = true)
    (iZ : PySem.W.isClsIn K Nt = true)
    (sZM : PySem.W.subIn K (.ref Nt) (.ref M) = some false)
    (sZR : PySem.W.subIn K (.ref Nt) (.ref R) = some false)
    (sZZ : PySem.W.subIn K (.ref Nt) (.ref Nt) = some true)
    (pgC : PySem.W.plainGet K C Str.empty = true)
    (hdC : PySem.W.hasDictIn K C = true)
    (poC : PySem.W.plainOver K C = true)
    (saC : PySem.W.findIn K (.ref C) "__setattr__" = some (some (.builtin "object.__setattr__")))
    (haC : PySem.W.findIn K (.ref C) "__class__" = some (some (.builtin "object.__class__")))
    (hnC : PySem.W.specialIn K (.builtin "object.__class__") "__get__" = some (some (.builtin "getset_descriptor.__get__")))
    (htC : PySem.W.takesIn K (.builtin "object.__class__") = some true)
    (hmC : PySem.W.mroIn K C (.type "object") = some true)
    (pC : PySem.W.selfFirst K C = true)
    (anC : PySem.W.findIn K (.ref C) "n" = some none)
    (adC : PySem.W.findIn K (.ref C) "d" = some none)
    (tC : PySem.W.typeIn K (.ref C) = some (.type "type"))
    (iC : PySem.W.isClsIn K C = true)
    (kC : PySem.W.keepIn K (.ref C) = true)
    (mkC : PySem.W.makesIn K C = true)
    (s_NoneType : PySem.W.subIn K (.type "NoneType") (.ref C) = some false)
    (s_bool : PySem.W.subIn K (.type "bool") (.ref C) = some false)
    (s_int : PySem.W.subIn K (.type "int") (.ref C) = some false)
    (s_str : PySem.W.subIn K (.type "str") (.ref C) = some false)
    (s_tuple : PySem.W.subIn K (.type "tuple") (.ref C) = some false)
    (z_isinstance : PySem.W.nsIn K mainGlobals "isinstance" = some none)
    (z_int : PySem.W.nsIn K mainGlobals "int" = some none)
    (z_bool : PySem.W.nsIn K mainGlobals "bool" = some none)
    (z_abs : PySem.W.nsIn K mainGlobals "abs" = some none)
    (z_str : PySem.W.nsIn K mainGlobals "str" = some none)
    (z_tuple : PySem.W.nsIn K mainGlobals "tuple" = some none)
    (z_len : PySem.W.nsIn K mainGlobals "len" = some none)
    (z_all : PySem.W.nsIn K mainGlobals "all" = some none)
    (z_any : PySem.W.nsIn K mainGlobals "any" = some none)
    (z_range : PySem.W.nsIn K mainGlobals "range" = some none)
    (z_zip : PySem.W.nsIn K mainGlobals "zip" = some none)
    (z_list : PySem.W.nsIn K mainGlobals "list" = some none)
    : ∃ fd : FuncData, (∀ (s : Shared) (v : Value), BindsTo s fd ⟨[v], []⟩ [("script", v)]) ∧ ∀ base : Heap, K.In base → base.Ns mainGlobals mg → FnOk l.prog w K mg base CX0 12 fa fd ["script"] (spLaw K) := by
  have e := hfa.symm.trans (PySem.W.mg_of X G a33)
  cases e
  have F7 := fun_mk (st := top 7) l7 c7 k7
  have b7 := F7.binds (ps := ["value"]) fun _ _ _ _ _ _ us hl => match us, hl with | [_], _ => rfl
  have g7 := PySem.W.mg_of X G a7
  have F8 := fun_mk (st := top 8) l8 c8 k8
  have b8 := F8.binds (ps := ["a", "b"]) fun _ _ _ _ _ _ us hl => match us, hl with | [_, _], _ => rfl
  have g8 := PySem.W.mg_of X G a8
  have F12 := fun_mk (st := top 12) l12 c12 k12
  have b12 := F12.binds (ps := ["value"]) fun _ _ _ _ _ _ us hl => match us, hl with | [_], _ => rfl
  have g12 := PySem.W.mg_of X G a12
  have F13 := fun_mk (st := top 13) l13 c13 k13
  have b13 := F13.binds (ps := ["value"]) fun _ _ _ _ _ _ us hl => match us, hl with | [_], _ => rfl
  have g13 := PySem.W.mg_of X G a13
  have F14 := fun_mk (st := top 14) l14 c14 k14
  have b14 := F14.binds (ps := ["row"]) fun _ _ _ _ _ _ us hl => match us, hl with | [_], _ => rfl
  have g14 := PySem.W.mg_of X G a14
  have F15 := fun_mk (st := top 15) l15 c15 k15
  have b15 := F15.binds (ps := ["row"]) fun _ _ _ _ _ _ us hl => match us, hl with | [_], _ => rfl
  have g15 := PySem.W.mg_of X G a15
  have F16 := fun_mk (st := top 16) l16 c16 k16
  have b16 := F16.binds (ps := ["row"]) fun _ _ _ _ _ _ us hl => match us, hl with | [_], _ => rfl
  have g16 := PySem.W.mg_of X G a16
  have F17 := fun_mk (st := top 17) l17 c17 k17
  have b17 := F17.binds (ps := ["one", "two"]) fun _ _ _ _ _ _ us hl => match us, hl with | [_, _], _ => rfl
  have g17 := PySem.W.mg_of X G a17
  have F18 := fun_mk (st := top 18) l18 c18 k18
  have b18 := F18.binds (ps := ["row"]) fun _ _ _ _ _ _ us hl => match us, hl with | [_], _ => rfl
  have g18 := PySem.W.mg_of X G a18
  have F19 := fun_mk (st := top 19) l19 c19 k19
  have b19 := F19.binds (ps := ["text"]) fun _ _ _ _ _ _ us hl => match us, hl with | [_], _ => rfl
  have g19 := PySem.W.mg_of X G a19
  have F20 := fun_mk (st := top 20) l20 c20 k20
  have b20 := F20.binds (ps := ["text"]) fun _ _ _ _ _ _ us hl => match us, hl with | [_], _ => rfl
  have g20 := PySem.W.mg_of X G a20
  have F22 := fun_mk (st := top 22) l22 c22 k22
  have b22 := F22.binds (ps := ["script"]) fun _ _ _ _ _ _ us hl => match us, hl with | [_], _ => rfl
  have g22 := PySem.W.mg_of X G a22
  have F23 := fun_mk (st := top 23) l23 c23 k23
  have b23 := F23.binds (ps := ["state", "m"]) fun _ _ _ _ _ _ us hl => match us, hl with | [_, _], _ => rfl
  have g23 := PySem.W.mg_of X G a23
  have F24 := fun_mk (st := top 24) l24 c24 k24
  have b24 := F24.binds (ps := ["value", "due"]) fun _ _ _ _ _ _ us hl => match us, hl with | [_, _], _ => rfl
  have g24 := PySem.W.mg_of X G a24
  have F25 := fun_mk (st := top 25) l25 c25 k25
  have b25 := F25.binds (ps := ["value"]) fun _ _ _ _ _ _ us hl => match us, hl with | [_], _ => rfl
  have g25 := PySem.W.mg_of X G a25
  have F26 := fun_mk (st := top 26) l26 c26 k26
  have b26 := F26.binds (ps := ["one", "two"]) fun _ _ _ _ _ _ us hl => match us, hl with | [_, _], _ => rfl
  have g26 := PySem.W.mg_of X G a26
  have F27 := fun_mk (st := top 27) l27 c27 k27
  have b27 := F27.binds (ps := ["a", "b"]) fun _ _ _ _ _ _ us hl => match us, hl with | [_, _], _ => rfl
  have g27 := PySem.W.mg_of X G a27
  have F28 := fun_mk (st := top 28) l28 c28 k28
  have b28 := F28.binds (ps := ["act", "given"]) fun _ _ _ _ _ _ us hl => match us, hl with | [_, _], _ => rfl
  have g28 := PySem.W.mg_of X G a28
  have F29 := fun_mk (st := top 29) l29 c29 k29
  have b29 := F29.binds (ps := ["state"]) fun _ _ _ _ _ _ us hl => match us, hl with | [_], _ => rfl
  have g29 := PySem.W.mg_of X G a29
  have F30 := fun_mk (st := top 30) l30 c30 k30
  have b30 := F30.binds (ps := ["state", "many"]) fun _ _ _ _ _ _ us hl => match us, hl with | [_, _], _ => rfl
  have g30 := PySem.W.mg_of X G a30
  have F31 := fun_mk (st := top 31) l31 c31 k31
  have b31 := F31.binds (ps := ["act", "text"]) fun _ _ _ _ _ _ us hl => match us, hl with | [_, _], _ => rfl
  have g31 := PySem.W.mg_of X G a31
  have F32 := fun_mk (st := top 32) l32 c32 k32
  have b32 := F32.binds (ps := ["text"]) fun _ _ _ _ _ _ us hl => match us, hl with | [_], _ => rfl
  have g32 := PySem.W.mg_of X G a32
  have F33 := fun_mk (st := top 33) l33 c33 k33
  have Fm1 := fun_mk (st := inC 11 1) lm1 cm1 km1
  have bm1 := Fm1.binds (ps := ["self", "other"]) fun _ _ _ _ _ _ us hl => match us, hl with | [_, _], _ => rfl
  have Fm3 := fun_mk (st := inC 11 3) lm3 cm3 km3
  have bm3 := Fm3.binds (ps := ["self", "other"]) fun _ _ _ _ _ _ us hl => match us, hl with | [_, _], _ => rfl
  have Fm4 := fun_mk (st := inC 11 4) lm4 cm4 km4
  have bm4 := Fm4.binds (ps := ["self"]) fun _ _ _ _ _ _ us hl => match us, hl with | [_], _ => rfl
  have Fm5 := fun_mk (st := inC 11 5) lm5 cm5 km5
  have bm5 := Fm5.binds (ps := ["self", "other"]) fun _ _ _ _ _ _ us hl => match us, hl with | [_, _], _ => rfl
  have Fm7 := fun_mk (st := inC 11 7) lm7 cm7 km7
  have bm7 := Fm7.binds (ps := ["self"]) fun _ _ _ _ _ _ us hl => match us, hl with | [_], _ => rfl
  have FRI := fun_mk (st := inC 4 0) lRI cRI kRI
  have bRI := FRI.binds (ps := ["self", "reason"]) fun _ _ _ _ _ _ us hl => match us, hl with | [_, _], _ => rfl
  have FNI := fun_mk (st := inC 5 0) lNI cNI kNI
  have bNI := FNI.binds (ps := ["self", "at"]) fun _ _ _ _ _ _ us hl => match us, hl with | [_, _], _ => rfl
  have m_isinstance := PySem.W.mg_none_of X G z_isinstance
  have m_int := PySem.W.mg_none_of X G z_int
  have m_bool := PySem.W.mg_none_of X G z_bool
  have m_abs := PySem.W.mg_none_of X G z_abs
  have m_str := PySem.W.mg_none_of X G z_str
  have m_tuple := PySem.W.mg_none_of X G z_tuple
  have m_len := PySem.W.mg_none_of X G z_len
  have m_all := PySem.W.mg_none_of X G z_all
  have m_any := PySem.W.mg_none_of X G z_any
  have m_range := PySem.W.mg_none_of X G z_range
  have m_zip := PySem.W.mg_none_of X G z_zip
  have m_list := PySem.W.mg_none_of X G z_list
  have g3 := PySem.W.mg_of X G gS
  have FI := funD_mk (st := inC 11 0) lI cI kI lT oTd rT
  have bI0 : ∃ ds, Vals ([.int 1] : List V) ds ∧ Binds K _ ["self", "n", "d"] ds := FI.binds1 2 0 (by simp) rfl fun T kV doc pm an cdv ct us its h1 h2 => match us, its, h1, h2 with | [_, _], [_], _, _ => ⟨_, rfl, rfl⟩
  have bI1 : ∃ ds, Vals ([] : List V) ds ∧ Binds K _ ["self", "n", "d"] ds := FI.binds1 3 1 (by simp) rfl fun T kV doc pm an cdv ct us its h1 h2 => match us, its, h1, h2 with | [_, _, _], [_], _, _ => ⟨_, rfl, rfl⟩
  obtain ⟨dsI, vI, bI⟩ := bI0
  obtain ⟨ds1, v1, bI1⟩ := bI1
  cases v1
  have T4 : Cls4 K mg Fa M R C := ⟨PySem.W.mg_of X G gF, sF, tF, rF, vF, PySem.W.mg_of X G gM, xM, kM, bM, tM, PySem.W.mg_of X G gR, ⟨⟨_, _, _, _, _, _, _, _, _, _, _, _, _, _, _, lR, rbR⟩, saR, bR, tR, kR⟩, nR, ⟨gaR, ggR, bR, hdR⟩, exm_any bM iM tM sMM, exm_any bM iM tM sRM, exm_any bR iR tR sRR, PySem.W.mg_of X G gC, ⟨⟨pgC, hdC, poC, saC⟩, haC, hnC, htC, hmC, kit_me⟩, pC, anC, adC, kit_ty iC tC s_NoneType, kit_ty iC tC s_bool, kit_ty iC tC s_int, kit_ty iC tC s_str, kit_ty iC tC s_tuple, nRM⟩
  have MkC : Mk K C fI := ⟨mkC, aI, iI, kC⟩
  have TN : ClsT K mg M R Nt := ⟨PySem.W.mg_of X G gZ, ⟨⟨_, _, _, _, _, _, _, _, _, _, _, _, _, _, _, lZ, rbZ⟩, saZ, bZ, tZ, kZ⟩, nZ, ⟨gaZ, ggZ, bZ, hdZ⟩, exm_any bM iM tM sZM, exm_any bR iR tR sZR, exm_any bZ iZ tZ sZZ⟩
  refine ⟨PySem.W.fnOf "law" "law" (defArgs (top 33)) (defBody (top 33)) (defScope (top 33)) .none kV33 dc33 pm33 an33 cd33 ct33, fun s v => .of_eq rfl, fun base _ _ => ?_⟩
  have O7 := ok_is_integer (P := l.prog) (w := w) (base := base) (mg := mg) F7 m_isinstance m_int m_bool
  have C7 : Cal l.prog w K mg base 1 "is_integer" (spWhole K) [] := ⟨f7, _, _, _, O7, g7, k7, b7, .nil⟩
  have O8 := ok_common (P := l.prog) (w := w) (base := base) (mg := mg) F8 m_abs
  have C8 : Cal l.prog w K mg base 1 "common" (spCommon) [] := ⟨f8, _, _, _, O8, g8, k8, b8, .nil⟩
  have ORI := ok_refused (P := l.prog) (w := w) (base := base) (mg := mg) FRI T4
  have ONI := ok_notext (P := l.prog) (w := w) (base := base) (mg := mg) FNI T4 TN
  have OI := ok_ratio (P := l.prog) (w := w) (base := base) (mg := mg) FI T4 C7 C8 ORI aRI tfR bRI m_abs
  have mkR : MakX l.prog w K mg base (L2.CX l.prog w) 3 "Ratio" C (spInit (K := K) M R C) := ⟨PySem.W.mg_of X G gC, fI, _, _, OI, MkC, bI1⟩
  have mkD : MakD l.prog w K mg base (L2.CX l.prog w) 3 "Ratio" C (spInit (K := K) M R C) [.int 1] := ⟨PySem.W.mg_of X G gC, fI, _, _, dsI, OI, MkC, bI, vI⟩
  have O12 := ok_check (P := l.prog) (w := w) (base := base) (mg := mg) F12 T4 m_isinstance
  have C12 : CalX l.prog w K mg base 1 "check_ratio" (spChk K M C) [] := ⟨f12, _, _, _, O12, g12, k12, b12, .nil⟩
  have Om1 := ok_add (P := l.prog) (w := w) (base := base) (mg := mg) Fm1 T4 C12 mkR
  have M1 : MetX l.prog w K mg base (L2.CX l.prog w) 5 C "__add__" (spOp K M R C (fun p q p' q' => p * q' + p' * q) (fun p q p' q' => q * q')) := ⟨fm1, _, _, Om1, ⟨am1, im1, km1⟩, bm1⟩
  have Om3 := ok_mul (P := l.prog) (w := w) (base := base) (mg := mg) Fm3 T4 C12 mkR
  have M3 : MetX l.prog w K mg base (L2.CX l.prog w) 5 C "__mul__" (spOp K M R C (fun p q p' q' => p * p') (fun p q p' q' => q * q')) := ⟨fm3, _, _, Om3, ⟨am3, im3, km3⟩, bm3⟩
  have Om4 := ok_neg (P := l.prog) (w := w) (base := base) (mg := mg) Fm4 T4 mkR
  have M4 : MetX l.prog w K mg base (L2.CX l.prog w) 5 C "__neg__" (spUn C fun p => -p) := ⟨fm4, _, _, Om4, ⟨am4, im4, km4⟩, bm4⟩
  have Om5 := ok_eq (P := l.prog) (w := w) (base := base) (mg := mg) Fm5 T4 m_isinstance
  have M5 : MetX l.prog w K mg base (CX0) 1 C "__eq__" (spEqR K C) := ⟨fm5, _, _, Om5, ⟨am5, im5, km5⟩, bm5⟩
  have Om7 := ok_str (P := l.prog) (w := w) (base := base) (mg := mg) Fm7 T4 m_str
  have M7 : MetX l.prog w K mg base (CX0) 1 C "__str__" (spAns C fun p q => .str (told p q)) := ⟨fm7, _, _, Om7, ⟨am7, im7, km7⟩, bm7⟩
  have Z : RdF l.prog w K mg base Fa M R C Nt fNI := ⟨T4, TN, aNI, tfN, ⟨_, ONI, bNI⟩, mkR, M4, M7⟩
  have O13 := ok_is_ratio_row (P := l.prog) (w := w) (base := base) (mg := mg) F13 T4 m_isinstance m_tuple m_all
  have C13 : Cal l.prog w K mg base 2 "is_ratio_row" (spRR K C) [] := ⟨f13, _, _, _, O13, g13, k13, b13, .nil⟩
  have O14 := ok_ratios (P := l.prog) (w := w) (base := base) (mg := mg) F14 T4 mkD m_isinstance m_tuple m_list
  have C14 : CalX l.prog w K mg base 5 "ratios" (spRs K M C) [] := ⟨f14, _, _, _, O14, g14, k14, b14, .nil⟩
  have O15 := ok_ratio_sum (P := l.prog) (w := w) (base := base) (mg := mg) F15 T4 mkD M1
  have C15 : CalX l.prog w K mg base 6 "ratio_sum" (spSum K C) [] := ⟨f15, _, _, _, O15, g15, k15, b15, .nil⟩
  have O16 := ok_ratio_product (P := l.prog) (w := w) (base := base) (mg := mg) F16 T4 mkD M3
  have C16 : CalX l.prog w K mg base 6 "ratio_product" (spProd K C) [] := ⟨f16, _, _, _, O16, g16, k16, b16, .nil⟩
  have O17 := ok_dot (P := l.prog) (w := w) (base := base) (mg := mg) F17 T4 m_zip C15 M3
  have C17 : CalX l.prog w K mg base 7 "dot" (spDot K C) [] := ⟨f17, _, _, _, O17, g17, k17, b17, .nil⟩
  have O18 := ok_ratios_text (P := l.prog) (w := w) (base := base) (mg := mg) F18 M7 m_len m_str
  have C18 : Cal l.prog w K mg base 4 "ratios_text" (spTx K C) [] := ⟨f18, _, _, _, O18, g18, k18, b18, .nil⟩
  have O19 := ok_read_ratio (P := l.prog) (w := w) (base := base) (mg := mg) F19 Z ⟨_, g3⟩ m_isinstance m_str m_len m_all m_int
  have C19 : CalX l.prog w K mg base 6 "read_ratio" (spRead K Nt C) [] := ⟨f19, _, _, _, O19, g19, k19, b19, .nil⟩
  have O20 := ok_read_ratios (P := l.prog) (w := w) (base := base) (mg := mg) F20 Z C19 m_isinstance m_str m_tuple
  have C20 : CalX l.prog w K mg base 7 "read_ratios" (spReads K Nt C) [] := ⟨f20, _, _, _, O20, g20, k20, b20, .nil⟩
  have O22 := ok_law_state (P := l.prog) (w := w) (base := base) (mg := mg) F22 m_abs m_int
  have C22 : Cal l.prog w K mg base 1 "_law_state" (spState K) [] := ⟨f22, _, _, _, O22, g22, k22, b22, .nil⟩
  have O23 := ok_law_take (P := l.prog) (w := w) (base := base) (mg := mg) F23 m_int
  have C23 : Cal l.prog w K mg base 1 "_law_take" (spTake) [] := ⟨f23, _, _, _, O23, g23, k23, b23, .nil⟩
  have O24 := ok_law_says (P := l.prog) (w := w) (base := base) (mg := mg) F24 m_isinstance m_bool
  have C24 : Cal l.prog w K mg base 1 "_law_says" (spSays) [] := ⟨f24, _, _, _, O24, g24, k24, b24, .nil⟩
  have O25 := ok_law_is_whole (P := l.prog) (w := w) (base := base) (mg := mg) F25 m_isinstance m_int m_bool
  have C25 : Cal l.prog w K mg base 1 "_law_is_whole" (spWhole K) [] := ⟨f25, _, _, _, O25, g25, k25, b25, .nil⟩
  have O26 := ok_law_same (P := l.prog) (w := w) (base := base) (mg := mg) F26 m_isinstance m_tuple m_str C25
  have C26 : Cal l.prog w K mg base 2 "_law_same" (spSameZ) [] := ⟨f26, _, _, _, O26, g26, k26, b26, .nil⟩
  have O27 := ok_law_common (P := l.prog) (w := w) (base := base) (mg := mg) F27 m_abs m_int
  have C27 : Cal l.prog w K mg base 1 "_law_common" (spCommon) [] := ⟨f27, _, _, _, O27, g27, k27, b27, .nil⟩
  have O28 := ok_law_resultT (P := l.prog) (w := w) (base := base) (mg := mg) F28 T4 TN m_len
  have C28 : CalX l.prog w K mg base 9 "_law_result" (spResT l.prog w K mg base M Nt) [] := ⟨f28, _, _, _, O28, g28, k28, b28, .nil⟩
  have O29 := ok_law_num (P := l.prog) (w := w) (base := base) (mg := mg) F29 mkR C23
  have C29 : CalX l.prog w K mg base 5 "_law_num" (spNum K C) [] := ⟨f29, _, _, _, O29, g29, k29, b29, .nil⟩
  have O30 := ok_law_num_row (P := l.prog) (w := w) (base := base) (mg := mg) F30 C29 m_tuple m_range
  have C30 : CalX l.prog w K mg base 6 "_law_num_row" (spNr K C) [] := ⟨f30, _, _, _, O30, g30, k30, b30, .nil⟩
  have O31 := ok_law_read (P := l.prog) (w := w) (base := base) (mg := mg) F31 T4 TN C28
  have C31 : Cal l.prog w K mg base 10 "_law_read" (spLR l.prog w K mg base M Nt) [] := ⟨f31, _, _, _, O31, g31, k31, b31, .nil⟩
  have O32 := ok_law_is_text (P := l.prog) (w := w) (base := base) (mg := mg) F32 C27 m_len m_any m_all m_int
  have C32 : Cal l.prog w K mg base 2 "_law_is_text" (spIsT) [] := ⟨f32, _, _, _, O32, g32, k32, b32, .nil⟩
  exact ok_law F33 m_tuple m_zip m_isinstance m_all m_list m_len m_str g14 ⟨_, _, O14.mono (by decide), k14, b14⟩ g19 ⟨_, _, O19.mono (by decide), k19, b19⟩ g20 ⟨_, _, O20.mono (by decide), k20, b20⟩ (PySem.W.mg_of X G gC) C22 C23 C24 C13 C18 C26 C31 C32 C30 C15 C16 C17 C14 C28 M5 M7 M1 M3 mkD T4
end

end K02
open PySem PySem.W PyProof.Rows
set_option maxHeartbeats 0 in
theorem PySem.Challenge.cw_motionroads_k02_whole_rows_and_texts_of_holds : PySem.Challenge.rw_motionroads_k02_whole_rows_and_texts_of.Holds := by
  w_on; o_law; k_head; (case hw => w_witness2)
  k_fill
  refine L2.walk_of (l := PySem.Challenge.rw_motionroads_k02_whole_rows_and_texts_of) (n := 63) (k := 12) (x := "script") (CX := fun _ => L2.CX0) (sp := fun w => K02.spLaw _) rfl (by decide) rfl ⟨rfl, by decide, by decide⟩ (fun w h Y => PySem.W.kIn_of Y) ?F (fun _ _ a ns hl _ hS => ⟨a, ns, rfl, hS, hl, fun _ => rfl⟩) (fun _ _ _ _ _ h => h)
  case F =>
    intro w mg fa h KX G hmg
    refine' K02.all_mk KX G hmg ?gC ?gF ?gM ?gR ?gZ ?gS ?a7 ?l7 ?c7 ?k7 ?a8 ?l8 ?c8 ?k8 ?a12 ?l12 ?c12 ?k12 ?a13 ?l13 ?c13 ?k13 ?a14 ?l14 ?c14 ?k14 ?a15 ?l15 ?c15 ?k15 ?a16 ?l16 ?c16 ?k16 ?a17 ?l17 ?c17 ?k17 ?a18 ?l18 ?c18 ?k18 ?a19 ?l19 ?c19 ?k19 ?a20 ?l20 ?c20 ?k20 ?a22 ?l22 ?c22 ?k22 ?a23 ?l23 ?c23 ?k23 ?a24 ?l24 ?c24 ?k24 ?a25 ?l25 ?c25 ?k25 ?a26 ?l26 ?c26 ?k26 ?a27 ?l27 ?c27 ?k27 ?a28 ?l28 ?c28 ?k28 ?a29 ?l29 ?c29 ?k29 ?a30 ?l30 ?c30 ?k30 ?a31 ?l31 ?c31 ?k31 ?a32 ?l32 ?c32 ?k32 ?a33 ?l33 ?c33 ?k33 ?am1 ?lm1 ?cm1 ?km1 ?im1 ?am3 ?lm3 ?cm3 ?km3 ?im3 ?am4 ?lm4 ?cm4 ?km4 ?im4 ?am5 ?lm5 ?cm5 ?km5 ?im5 ?am7 ?lm7 ?cm7 ?km7 ?im7 ?aRI ?lRI ?cRI ?kRI ?tfR ?aNI ?lNI ?cNI ?kNI ?tfN ?aI ?lI ?cI ?kI ?iI ?lT ?oTd ?rT ?sF ?tF ?rF ?vF ?xM ?kM ?bM ?tM ?lR ?rbR ?saR ?bR ?tR ?kR ?nR ?gaR ?ggR ?hdR ?iM ?iR ?sMM ?sRM ?sRR ?nRM ?lZ ?rbZ ?saZ ?bZ ?tZ ?kZ ?nZ ?gaZ ?ggZ ?hdZ ?iZ ?sZM ?sZR ?sZZ ?pgC ?hdC ?poC ?saC ?haC ?hnC ?htC ?hmC ?pC ?anC ?adC ?tC ?iC ?kC ?mkC ?s_NoneType ?s_bool ?s_int ?s_str ?s_tuple ?z_isinstance ?z_int ?z_bool ?z_abs ?z_str ?z_tuple ?z_len ?z_all ?z_any ?z_range ?z_zip ?z_list
    (case gC => k_is)
    (case gF => k_is)
    (case gM => k_is)
    (case gR => k_is)
    (case gZ => k_is)
    (case gS => k_is)
    (case a7 => k_is)
    (case l7 => k_is)
    (case c7 => k_is)
    (case k7 => k_is)
    (case a8 => k_is)
    (case l8 => k_is)
    (case c8 => k_is)
    (case k8 => k_is)
    (case a12 => k_is)
    (case l12 => k_is)
    (case c12 => k_is)
    (case k12 => k_is)
    (case a13 => k_is)
    (case l13 => k_is)
    (case c13 => k_is)
    (case k13 => k_is)
    (case a14 => k_is)
    (case l14 => k_is)
    (case c14 => k_is)
    (case k14 => k_is)
    (case a15 => k_is)
    (case l15 => k_is)
    (case c15 => k_is)
    (case k15 => k_is)
    (case a16 => k_is)
    (case l16 => k_is)
    (case c16 => k_is)
    (case k16 => k_is)
    (case a17 => k_is)
    (case l17 => k_is)
    (case c17 => k_is)
    (case k17 => k_is)
    (case a18 => k_is)
    (case l18 => k_is)
    (case c18 => k_is)
    (case k18 => k_is)
    (case a19 => k_is)
    (case l19 => k_is)
    (case c19 => k_is)
    (case k19 => k_is)
    (case a20 => k_is)
    (case l20 => k_is)
    (case c20 => k_is)
    (case k20 => k_is)
    (case a22 => k_is)
    (case l22 => k_is)
    (case c22 => k_is)
    (case k22 => k_is)
    (case a23 => k_is)
    (case l23 => k_is)
    (case c23 => k_is)
    (case k23 => k_is)
    (case a24 => k_is)
    (case l24 => k_is)
    (case c24 => k_is)
    (case k24 => k_is)
    (case a25 => k_is)
    (case l25 => k_is)
    (case c25 => k_is)
    (case k25 => k_is)
    (case a26 => k_is)
    (case l26 => k_is)
    (case c26 => k_is)
    (case k26 => k_is)
    (case a27 => k_is)
    (case l27 => k_is)
    (case c27 => k_is)
    (case k27 => k_is)
    (case a28 => k_is)
    (case l28 => k_is)
    (case c28 => k_is)
    (case k28 => k_is)
    (case a29 => k_is)
    (case l29 => k_is)
    (case c29 => k_is)
    (case k29 => k_is)
    (case a30 => k_is)
    (case l30 => k_is)
    (case c30 => k_is)
    (case k30 => k_is)
    (case a31 => k_is)
    (case l31 => k_is)
    (case c31 => k_is)
    (case k31 => k_is)
    (case a32 => k_is)
    (case l32 => k_is)
    (case c32 => k_is)
    (case k32 => k_is)
    (case a33 => k_is)
    (case l33 => k_is)
    (case c33 => k_is)
    (case k33 => k_is)
    (case am1 => k_is)
    (case lm1 => k_is)
    (case cm1 => k_is)
    (case km1 => k_is)
    (case im1 => k_is)
    (case am3 => k_is)
    (case lm3 => k_is)
    (case cm3 => k_is)
    (case km3 => k_is)
    (case im3 => k_is)
    (case am4 => k_is)
    (case lm4 => k_is)
    (case cm4 => k_is)
    (case km4 => k_is)
    (case im4 => k_is)
    (case am5 => k_is)
    (case lm5 => k_is)
    (case cm5 => k_is)
    (case km5 => k_is)
    (case im5 => k_is)
    (case am7 => k_is)
    (case lm7 => k_is)
    (case cm7 => k_is)
    (case km7 => k_is)
    (case im7 => k_is)
    (case aRI => k_is)
    (case lRI => k_is)
    (case cRI => k_is)
    (case kRI => k_is)
    (case tfR => k_is)
    (case aNI => k_is)
    (case lNI => k_is)
    (case cNI => k_is)
    (case kNI => k_is)
    (case tfN => k_is)
    (case aI => k_is)
    (case lI => k_is)
    (case cI => k_is)
    (case kI => k_is)
    (case iI => k_is)
    (case lT => k_is)
    (case oTd => rfl)
    (case rT => exact ⟨_, rfl⟩)
    (case sF => k_is)
    (case tF => k_is)
    (case rF => k_is)
    (case vF => k_is)
    (case xM => k_exc)
    (case kM => k_is)
    (case bM => k_is)
    (case tM => k_is)
    (case lR => k_is)
    (case rbR => rfl)
    (case saR => k_is)
    (case bR => k_is)
    (case tR => k_is)
    (case kR => k_is)
    (case nR => k_is)
    (case gaR => k_is)
    (case ggR => k_is)
    (case hdR => k_is)
    (case iM => k_is)
    (case iR => k_is)
    (case sMM => k_is)
    (case sRM => k_is)
    (case sRR => k_is)
    (case nRM => decide)
    (case lZ => k_is)
    (case rbZ => rfl)
    (case saZ => k_is)
    (case bZ => k_is)
    (case tZ => k_is)
    (case kZ => k_is)
    (case nZ => k_is)
    (case gaZ => k_is)
    (case ggZ => k_is)
    (case hdZ => k_is)
    (case iZ => k_is)
    (case sZM => k_is)
    (case sZR => k_is)
    (case sZZ => k_is)
    (case pgC => k_is)
    (case hdC => k_is)
    (case poC => k_is)
    (case saC => k_is)
    (case haC => k_is)
    (case hnC => k_is)
    (case htC => k_is)
    (case hmC => k_is)
    (case pC => k_is)
    (case anC => k_is)
    (case adC => k_is)
    (case tC => k_is)
    (case iC => k_is)
    (case kC => k_is)
    (case mkC => k_is)
    (case s_NoneType => k_is)
    (case s_bool => k_is)
    (case s_int => k_is)
    (case s_str => k_is)
    (case s_tuple => k_is)
    (case z_isinstance => k_is)
    (case z_int => k_is)
    (case z_bool => k_is)
    (case z_abs => k_is)
    (case z_str => k_is)
    (case z_tuple => k_is)
    (case z_len => k_is)
    (case z_all => k_is)
    (case z_any => k_is)
    (case z_range => k_is)
    (case z_zip => k_is)
    (case z_list => k_is)
