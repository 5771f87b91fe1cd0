import PyProof.Rows.All
import Wide.All
import OpenK.AllK
import Wide.FinOn
import HandS.ForMost
import HandS.ForExc
import HandS.IsInst
import HandS.Codes
import HandS.Flow
import HandS.Style
import HandS.Walk
import HandS.Conv
import HandS.Zip
import HandS.TupAny
import HandS.TupMul
import HandS.CallLocal
import HandS.TryMany
import HandS.ExcOwn
import HandS.ExcInit
import HandS.Words
import HandS.WordsExc
import HandS.SlotsOwn
import HandS.OwnEq
import HandS.ExcField
import HandS.FStr
import HandS.Defaults
import KE.GoesEnum
import KE.GoesZip
import KE.GoesMore
import HandS.TryOnly
import PySem.Challenge.RW_motionroads_k03_whole_tables
set_option Elab.async false
set_option linter.all false
set_option maxRecDepth 100000
/-! Sx: readings without terms: what an expression, a test, a statement brings, goal by goal. -/
namespace Sx
abbrev Sl := L2.St
open PySem PySem.Spec PyProof.Rows L2

/-! ### slots by name -/
class inductive Var : List Str → Sl → Str → outParam V → outParam Nat → Prop
  | z {N : List Str} {σ : Sl} {x : Str} {v : V} : Var (x :: N) (some v :: σ) x v 0
  | s {N : List Str} {σ : Sl} {x y : Str} {v : V} {o : Option V} {i : Nat} (h : Var N σ x v i) : Var (y :: N) (o :: σ) x v (i + 1)
instance (priority := high) Var.iz {N : List Str} {σ : Sl} {x : Str} {v : V} : Var (x :: N) (some v :: σ) x v 0 := .z
instance (priority := low) Var.is {N : List Str} {σ : Sl} {x y : Str} {v : V} {o : Option V} {i : Nat} [h : Var N σ x v i] : Var (y :: N) (o :: σ) x v (i + 1) := .s h
theorem Var.n {N : List Str} {σ : Sl} {x : Str} {v : V} {i : Nat} (h : Var N σ x v i) : N[i]? = some x := by
  induction h with
  | z => rfl
  | s _ ih => simpa using ih
theorem Var.v {N : List Str} {σ : Sl} {x : Str} {v : V} {i : Nat} (h : Var N σ x v i) : σ[i]? = some (some v) := by
  induction h with
  | z => rfl
  | s _ ih => simpa using ih
class inductive Put : List Str → Sl → Str → V → outParam Sl → outParam Nat → Prop
  | z {N : List Str} {σ : Sl} {x : Str} {v : V} {o : Option V} : Put (x :: N) (o :: σ) x v (some v :: σ) 0
  | s {N : List Str} {σ σ' : Sl} {x y : Str} {v : V} {o : Option V} {i : Nat} (h : Put N σ x v σ' i) : Put (y :: N) (o :: σ) x v (o :: σ') (i + 1)
instance (priority := high) Put.iz {N : List Str} {σ : Sl} {x : Str} {v : V} {o : Option V} : Put (x :: N) (o :: σ) x v (some v :: σ) 0 := .z
instance (priority := low) Put.is {N : List Str} {σ σ' : Sl} {x y : Str} {v : V} {o : Option V} {i : Nat} [h : Put N σ x v σ' i] : Put (y :: N) (o :: σ) x v (o :: σ') (i + 1) := .s h
theorem Put.n {N : List Str} {σ σ' : Sl} {x : Str} {v : V} {i : Nat} (h : Put N σ x v σ' i) : N[i]? = some x := by
  induction h with
  | z => rfl
  | s _ ih => simpa using ih
theorem Put.v {N : List Str} {σ σ' : Sl} {x : Str} {v : V} {i : Nat} (h : Put N σ x v σ' i) : σ.set i (some v) = σ' := by
  induction h with
  | z => rfl
  | s _ ih => simp [ih]
class inductive Ix : List Str → outParam Nat → Str → Prop
  | z {N : List Str} {x : Str} : Ix (x :: N) 0 x
  | s {N : List Str} {x y : Str} {i : Nat} (h : Ix N i x) : Ix (y :: N) (i + 1) x
instance (priority := high) Ix.iz {N : List Str} {x : Str} : Ix (x :: N) 0 x := .z
instance (priority := low) Ix.is {N : List Str} {x y : Str} {i : Nat} [h : Ix N i x] : Ix (y :: N) (i + 1) x := .s h
theorem Ix.n {N : List Str} {i : Nat} {x : Str} (h : Ix N i x) : N[i]? = some x := by
  induction h with
  | z => rfl
  | s _ ih => simpa using ih
/-- what the built-in names hold -/
class BB (x : Str) (u : outParam Value) : Prop where
  h : bootBuiltins x = some u
instance : BB "abs" (.builtin "abs") := ⟨by decide +kernel⟩
instance : BB "len" (.builtin "len") := ⟨by decide +kernel⟩
instance : BB "isinstance" (.builtin "isinstance") := ⟨by decide +kernel⟩
instance : BB "all" (.builtin "all") := ⟨by decide +kernel⟩
instance : BB "any" (.builtin "any") := ⟨by decide +kernel⟩
instance : BB "sum" (.builtin "sum") := ⟨by decide +kernel⟩
instance : BB "sorted" (.builtin "sorted") := ⟨by decide +kernel⟩
instance : BB "max" (.builtin "max") := ⟨by decide +kernel⟩
instance : BB "min" (.builtin "min") := ⟨by decide +kernel⟩
instance : BB "int" (.type "int") := ⟨by decide +kernel⟩
instance : BB "str" (.type "str") := ⟨by decide +kernel⟩
instance : BB "bool" (.type "bool") := ⟨by decide +kernel⟩
instance : BB "list" (.type "list") := ⟨by decide +kernel⟩
instance : BB "tuple" (.type "tuple") := ⟨by decide +kernel⟩
instance : BB "dict" (.type "dict") := ⟨by decide +kernel⟩
instance : BB "set" (.type "set") := ⟨by decide +kernel⟩
/-- a def as its callers see it: no exception leaves it -/
structure Cal (P : Program) (w : World) (K : PySem.W.Frag) (mg : Str → Option Value) (base : Heap) (k : Nat) (x : Str) (sp : Sp) (dvs : List V) : Prop where
  ex : ∃ (f : Addr) (fd : FuncData) (ps : List Str) (ds : List Value), FnOk P w K mg base CX0 k f fd ps sp ∧ mg x = some (.ref f) ∧ PySem.W.keepIn K (.ref f) = true ∧ Binds K fd ps ds ∧ Vals dvs ds
/-- .. errors may leave it -/
structure CalX (P : Program) (w : World) (K : PySem.W.Frag) (mg : Str → Option Value) (base : Heap) (k : Nat) (x : Str) (sp : Sp) (dvs : List V) : Prop where
  ex : ∃ (f : Addr) (fd : FuncData) (ps : List Str) (ds : List Value), FnOk P w K mg base (L2.CX P w) k f fd ps sp ∧ mg x = some (.ref f) ∧ PySem.W.keepIn K (.ref f) = true ∧ Binds K fd ps ds ∧ Vals dvs ds

/-! ### what is wanted -/
section
variable (X : Cx)
def QE (e : Expr) (σ : Sl) (H : Hp) (Q : VK) : Prop := ∀ (pins : List (Addr × Obj)) (s : Shared), Inv X pins σ H s → wpAny (model X.prog X.w) X.A (eval e X.env) (EP X pins σ Q) X.xe s
def QT (e : Expr) (σ : Sl) (H : Hp) (Q : Bool → Hp → Prop) : Prop := ∀ (pins : List (Addr × Obj)) (s : Shared), Inv X pins σ H s → wpAny (model X.prog X.w) X.A (isTrue e X.env (eval e X.env)) (TP X pins σ Q) X.xe s
def QW (e : Expr) (σ : Sl) (H : Hp) (Q : Bool → Hp → Prop) : Prop := ∀ (wh : Sem Value) (pins : List (Addr × Obj)) (s : Shared), Inv X pins σ H s → wpAny (model X.prog X.w) X.A (isTrue e X.env wh) (TP X pins σ Q) X.xe s
def QA (es : List Expr) (σ : Sl) (H : Hp) (Q : List V → Hp → Prop) : Prop := ∀ (pos : Pos) (pins : List (Addr × Obj)) (s : Shared), Inv X pins σ H s → wpAny (model X.prog X.w) X.A (spliced (backTo pos (starEach es X.env))) (AP X pins σ Q) X.xe s
def QS (st : Stmt) (D : Ends) (σ : Sl) (H : Hp) : Prop := ∀ (pins : List (Addr × Obj)) (s : Shared), Inv X pins σ H s → wpAny (model X.prog X.w) X.A (exec st X.env) (SP X pins D) X.xe s
def QB (sts : List Stmt) (D : Ends) (σ : Sl) (H : Hp) : Prop := ∀ (pins : List (Addr × Obj)) (s : Shared), Inv X pins σ H s → wpAny (model X.prog X.w) X.A (execs sts X.env) (SP X pins D) X.xe s
def QG (tg : Expr) (v : V) (σ : Sl) (H : Hp) (Q : Sl → Hp → Prop) : Prop := ∀ (pins : List (Addr × Obj)) (s : Shared) (u : Value), Inv X pins σ H s → RelV v u → wpAny (model X.prog X.w) X.A (assign tg X.env u) (fun _ s' => ∃ σ' H', Inv X pins σ' H' s' ∧ Q σ' H') X.xe s
def QGs (tgs : List Expr) (vs : List V) (σ : Sl) (H : Hp) (Q : Sl → Hp → Prop) : Prop := ∀ (pins : List (Addr × Obj)) (s : Shared) (us : List Value), Inv X pins σ H s → Vals vs us → wpAny (model X.prog X.w) X.A (assignInOrder ((assignEach tgs X.env).map (·.2)) us) (fun _ s' => ∃ σ' H', Inv X pins σ' H' s' ∧ Q σ' H') X.xe s
/-- a two-place operation at two values -/
def OpW (f : Value → Value → Sem Value) (x y : V) (H : Hp) (Q : VK) : Prop := ∀ (pins : List (Addr × Obj)) (s : Shared) (σ : Sl) (v u : Value), Inv X pins σ H s → RelV x v → RelV y u → wpAny (model X.prog X.w) X.A (f v u) (EP X pins σ Q) X.xe s
def UnW (f : Value → Sem Value) (x : V) (H : Hp) (Q : VK) : Prop := ∀ (pins : List (Addr × Obj)) (s : Shared) (σ : Sl) (v : Value), Inv X pins σ H s → RelV x v → wpAny (model X.prog X.w) X.A (f v) (EP X pins σ Q) X.xe s
def CallW (f : Value) (xs : List V) (H : Hp) (Q : VK) : Prop := ∀ (pins : List (Addr × Obj)) (s : Shared) (σ : Sl) (us : List Value), Inv X pins σ H s → Vals xs us → wpAny (model X.prog X.w) X.A (call f us) (EP X pins σ Q) X.xe s
end

section
variable {X : Cx} {e a b c : Expr} {es : List Expr} {σ σ' : Sl} {H : Hp} {Q : VK} {pos p : Pos} {t : TE} {x : Str} {v : V}
theorem pe_sem : PE X e (QE X e) := ⟨fun pins s _ _ _ I h => h pins s I⟩
theorem pt_sem : PT X e (QT X e) := ⟨fun pins s _ _ _ I h => h pins s I⟩
theorem pw_sem : PW X e (QW X e) := ⟨fun wh pins s _ _ _ I h => h wh pins s I⟩
theorem pa_sem : PA X es (QA X es) := ⟨fun pos pins s _ _ _ I h => h pos pins s I⟩
theorem ps_sem {st : Stmt} : PS X st (QS X st) := ⟨fun pins s _ _ _ I h => h pins s I⟩
theorem pss_sem {sts : List Stmt} : PSs X sts (QB X sts) := ⟨fun pins s _ _ _ I h => h pins s I⟩
theorem pg_sem {tg : Expr} : PG X tg (QG X tg) := ⟨fun pins s _ _ _ u _ I r h => h pins s u I r⟩
theorem pgs_sem {tgs : List Expr} : PGs X tgs (QGs X tgs) := ⟨fun pins s _ _ _ us _ I r h => h pins s us I r⟩
theorem op_sem {f : Value → Value → Sem Value} : OpR X f (OpW X f) := fun pins s σ _ _ _ v u _ I rx ry h => h pins s σ v u I rx ry
theorem un_sem {f : Value → Sem Value} : UnR X f (UnW X f) := fun pins s σ _ _ v _ I rx h => h pins s σ v I rx
theorem call_sem {f : Value} : CallR X f (CallW X f) := fun pins s σ _ _ us _ I r h => h pins s σ us I r
theorem we_of (h : PE X e t) (q : t σ H Q) : QE X e σ H Q := fun pins s I => h.run pins s σ H Q I q
theorem wt_of {t : TT} {Q : Bool → Hp → Prop} (h : PT X e t) (q : t σ H Q) : QT X e σ H Q := fun pins s I => h.run pins s σ H Q I q
theorem ww_of {t : TT} {Q : Bool → Hp → Prop} (h : PW X e t) (q : t σ H Q) : QW X e σ H Q := fun wh pins s I => h.run wh pins s σ H Q I q
theorem wa_of {t : TA} {Q : List V → Hp → Prop} (h : PA X es t) (q : t σ H Q) : QA X es σ H Q := fun pos pins s I => h.run pos pins s σ H Q I q
theorem ws_of {st : Stmt} {t : TS} {D : Ends} (h : PS X st t) (q : t D σ H) : QS X st D σ H := fun pins s I => h.run pins s σ H D I q
theorem wss_of {sts : List Stmt} {t : TS} {D : Ends} (h : PSs X sts t) (q : t D σ H) : QB X sts D σ H := fun pins s I => h.run pins s σ H D I q
theorem wg_of {tg : Expr} {t : TG} {Q : Sl → Hp → Prop} (h : PG X tg t) (q : t v σ H Q) : QG X tg v σ H Q := fun pins s u I r => h.run pins s σ H v u Q I r q
theorem wgs_of {tgs : List Expr} {vs : List V} {t : TGs} {Q : Sl → Hp → Prop} (h : PGs X tgs t) (q : t vs σ H Q) : QGs X tgs vs σ H Q := fun pins s us I r => h.run pins s σ H vs us Q I r q
theorem opw_of {f : Value → Value → Sem Value} {r : R2} {y : V} (h : OpR X f r) (q : r v y H Q) : OpW X f v y H Q := fun pins s σ u w I rx ry => h pins s σ H v y u w Q I rx ry q
theorem unw_of {f : Value → Sem Value} {r : V → Hp → VK → Prop} (h : UnR X f r) (q : r v H Q) : UnW X f v H Q := fun pins s σ u I rx => h pins s σ H v u Q I rx q
theorem callw_of {f : Value} {r : List V → Hp → VK → Prop} {xs : List V} (h : CallR X f r) (q : r xs H Q) : CallW X f xs H Q := fun pins s σ us I rx => h pins s σ H xs us Q I rx q
/-! ### mono -/
theorem QE.imp {Q' : VK} (h : QE X e σ H Q) (k : ∀ v H', Q v H' → Q' v H') : QE X e σ H Q' := fun pins s I => thn (h pins s I) fun _ _ ⟨v, H', J, r, q⟩ => ⟨v, H', J, r, k v H' q⟩

/-! ### expressions -/
theorem we_name {N : List Str} {i : Nat} (h : Var N σ x v i) (hN : X.N = N) (hv : Vis X.env.scope x) (q : Q v H) (hd : (x == ("__debug__" : Str)) = false := by decide) (hcd : (x == ("__classdict__" : Str)) = false := by decide) : QE X (.Name x pos) σ H Q :=
  we_of (pe_var (i := i) (hN ▸ h.n) hv hd hcd) ⟨v, h.v, q⟩
theorem we_int {i : Int} {j} (q : Q (.int i) H) : QE X (.Constant (.int i) j pos) σ H Q := we_of pe_int q
theorem we_bl {i : Bool} {j} (q : Q (.bl i) H) : QE X (.Constant (.bool i) j pos) σ H Q := we_of pe_bl q
theorem we_non {j} (q : Q .non H) : QE X (.Constant .none j pos) σ H Q := we_of pe_non q
theorem we_str {z : Str} {j} (q : Q (.str z) H) : QE X (.Constant (.str z) j pos) σ H Q := we_of pe_str q
theorem we_bin {op : Operator} (q : QE X a σ H fun x H1 => QE X b σ H1 fun y H2 => OpW X (binaryOp op) x y H2 Q) : QE X (.BinOp a op b pos) σ H Q := we_of (pe_op op_sem pe_sem pe_sem) q
theorem we_un {op : UnaryOp} (q : QE X a σ H fun x H1 => UnW X (unaryOp op) x H1 Q) : QE X (.UnaryOp op a pos) σ H Q := we_of (pe_un un_sem pe_sem) q
theorem we_not (q : QE X a σ H fun x H1 => ∃ c, x = .bl c ∧ Q (.bl (!c)) H1) : QE X (.UnaryOp .Not a pos) σ H Q := we_of (pe_not pe_sem) q
theorem we_cmp {op : CmpOp} (hm : behindInMarks op b = false) (q : QE X a σ H fun x H1 => QE X b σ H1 fun y H2 => OpW X (compareOp op) x y H2 Q) : QE X (.Compare a [op] [b] pos) σ H Q := we_of (pe_cmpR op_sem pe_sem pe_sem hm) q
theorem we_chain {op op' : CmpOp} (hm : lastMarks [op, op'] [b, c] = false)
    (q : QE X a σ H fun x H1 => QE X b σ H1 fun y H2 => OpW X (compareOp op) x y H2 fun z H3 => ∃ k, z = .bl k ∧ (if k = true then QE X c σ H3 fun w H4 => OpW X (compareOp op') y w H4 Q else Q (.bl false) H3)) :
    QE X (.Compare a [op, op'] [b, c] pos) σ H Q := we_of (pe_chain op_sem op_sem pe_sem pe_sem pe_sem hm) q
theorem we_and {rest : List Expr} (q : QE X a σ H fun x H1 => ∃ c, x = .bl c ∧ if c = true then QE X (.BoolOp .And (b :: rest) pos) σ H1 Q else Q (.bl false) H1) : QE X (.BoolOp .And (a :: b :: rest) pos) σ H Q := we_of (pe_and pe_sem pe_sem) q
theorem we_or {rest : List Expr} (q : QE X a σ H fun x H1 => ∃ c, x = .bl c ∧ if c = true then Q (.bl true) H1 else QE X (.BoolOp .Or (b :: rest) pos) σ H1 Q) : QE X (.BoolOp .Or (a :: b :: rest) pos) σ H Q := we_of (pe_or pe_sem pe_sem) q
theorem we_one {op : BoolOp} (q : QE X a σ H Q) : QE X (.BoolOp op [a] pos) σ H Q := we_of (pe_one pe_sem) q
theorem we_ifx (q : QT X c σ H fun k H1 => if k = true then QE X a σ H1 Q else QE X b σ H1 Q) : QE X (.IfExp c a b pos) σ H Q := we_of (pe_ifExp pt_sem pe_sem pe_sem) q
theorem same_new {H : Hp} {q : Addr} {o : HO} (h : H q = none) : Same H (upd H q o) := fun b u e => by rw [upd_ne (ne_of_none e h)]; exact e
theorem we_tup {k : Nat} (q : QA X es σ H fun xs H1 => xs.length ≤ sizeLine ∧ ∀ p H2, H1 p = none → Same H1 H2 → H2 p = some (.tup xs) → Q (.ref p) H2) : QE X (.Tuple es k pos) σ H Q :=
  we_of (pe_tup pa_sem) (fun pos pins s I => thn (q pos pins s I) fun us s' ⟨vs, H', J, r, hl, z⟩ => ⟨vs, H', J, r, hl, fun p hp => z p _ hp (same_new hp) upd_same⟩)
theorem we_lst (q : QA X es σ H fun xs H1 => xs.length ≤ sizeLine ∧ ∀ p H2, H1 p = none → Same H1 H2 → H2 p = some (.lst xs) → Q (.ref p) H2) : QE X (.List es pos) σ H Q :=
  we_of (pe_lst pa_sem) (fun pos pins s I => thn (q pos pins s I) fun us s' ⟨vs, H', J, r, hl, z⟩ => ⟨vs, H', J, r, hl, fun p hp => z p _ hp (same_new hp) upd_same⟩)
theorem wa_nil {Q : List V → Hp → Prop} (q : Q [] H) : QA X [] σ H Q := wa_of pa_nil q
theorem wa_cons {Q : List V → Hp → Prop} (hs : starEach (e :: es) X.env = (false, eval e X.env) :: starEach es X.env) (q : QE X e σ H fun x H1 => QA X es σ H1 fun xs H2 => Q (x :: xs) H2) : QA X (e :: es) σ H Q := wa_of (pa_cons pe_sem pa_sem hs) q
theorem we_call {j k : Nat} {sp : Sp} {dvs : List V} (c : Cal X.prog X.w X.K X.mg X.base k x sp dvs) (hr : Room j X.A) (hk : k ≤ j) (hg : Gl X x)
    (q : QA X (e :: es) σ H fun vs H1 => sp (vs ++ dvs) H1 Q L2.E0)
    (hdb : (x == ("__debug__" : Str)) = false := by decide) (he : starEach (e :: es) X.env = (false, eval e X.env) :: starEach es X.env := by rfl) (hpl : (backTo pos (starEach es X.env)).any (·.1) = false := by rfl) :
    QE X (.Call (.Name x p) (e :: es) [] pos) σ H Q := by
  obtain ⟨f, fd, ps, ds, F, hm, kp, b, d⟩ := c.ex
  exact we_of (pe_call F (hr.mono hk) hg hm kp b d pass0 pa_sem hdb he hpl) q
theorem we_bltn {id : String} (hm : X.mg x = none) (hg : Gl X x) (hv : BB x (.builtin id)) (q : QA X (e :: es) σ H fun vs H1 => CallW X (.builtin id) vs H1 Q) (hn : x ≠ "__name__" := by decide) (hdb : (x == ("__debug__" : Str)) = false := by decide)
    (he : starEach (e :: es) X.env = (false, eval e X.env) :: starEach es X.env := by rfl) (hpl : (backTo pos (starEach es X.env)).any (·.1) = false := by rfl) : QE X (.Call (.Name x p) (e :: es) [] pos) σ H Q :=
  we_of (pe_callB call_sem hg hm hv.h pa_sem hn hdb he hpl) q
theorem we_type {T : String} (hm : X.mg x = none) (hg : Gl X x) (hv : BB x (.type T)) (q : QA X (e :: es) σ H fun vs H1 => CallW X (.type T) vs H1 Q) (hn : x ≠ "__name__" := by decide) (hdb : (x == ("__debug__" : Str)) = false := by decide)
    (he : starEach (e :: es) X.env = (false, eval e X.env) :: starEach es X.env := by rfl) (hpl : (backTo pos (starEach es X.env)).any (·.1) = false := by rfl) : QE X (.Call (.Name x p) (e :: es) [] pos) σ H Q :=
  we_of (pe_callTy call_sem hg hm hv.h pa_sem hn hdb he hpl) q
/-- a built-in's name as a value (isinstance's second argument) -/
theorem we_bval {u : Value} {v : V} (hm : X.mg x = none) (hg : Gl X x) (hv : BB x u) (r : RelV v u) (q : Q v H) (hn : x ≠ "__name__" := by decide) (hdb : (x == ("__debug__" : Str)) = false := by decide) : QE X (.Name x pos) σ H Q :=
  we_of (pe_bltn hg hm hv.h r hn hdb) q
theorem we_tyval {T : String} (hm : X.mg x = none) (hg : Gl X x) (hv : BB x (.type T)) (q : Q (.ty T) H) (hn : x ≠ "__name__" := by decide) (hdb : (x == ("__debug__" : Str)) = false := by decide) : QE X (.Name x pos) σ H Q :=
  we_of (pe_bltn hg hm hv.h (v := .ty T) rfl hn hdb) q
theorem we_gval {u : Value} {v : V} (hm : X.mg x = some u) (hg : Gl X x) (r : RelV v u) (q : Q v H) (hdb : (x == ("__debug__" : Str)) = false := by decide) : QE X (.Name x pos) σ H Q :=
  we_of (C8.pe_gc hg ⟨u, hm, r⟩ hdb) q

/-! ### tests -/
theorem wt_cmp {op : CmpOp} {Q : Bool → Hp → Prop} (hm : behindInMarks op b = false) (q : QE X a σ H fun x H1 => QE X b σ H1 fun y H2 => OpW X (compareOp op) x y H2 fun z H3 => ∃ k, z = .bl k ∧ Q k H3) : QT X (.Compare a [op] [b] pos) σ H Q := wt_of (pt_cmpR op_sem pe_sem pe_sem hm) q
theorem wt_chain {op op' : CmpOp} {Q : Bool → Hp → Prop} (hm : lastMarks [op, op'] [b, c] = false)
    (q : QE X a σ H fun x H1 => QE X b σ H1 fun y H2 => OpW X (compareOp op) x y H2 fun z H3 => ∃ k, z = .bl k ∧ (if k = true then QE X c σ H3 fun w H4 => OpW X (compareOp op') y w H4 fun z H5 => ∃ k, z = .bl k ∧ Q k H5 else ∃ k, V.bl false = .bl k ∧ Q k H3)) :
    QT X (.Compare a [op, op'] [b, c] pos) σ H Q := wt_of (pt_chain op_sem op_sem pe_sem pe_sem pe_sem hm) q
theorem wt_not {Q : Bool → Hp → Prop} (q : QT X a σ H fun k H1 => Q (!k) H1) : QT X (.UnaryOp .Not a pos) σ H Q := wt_of (pt_not pt_sem) q
theorem wt_boolop {op : BoolOp} {Q : Bool → Hp → Prop} (q : QW X (.BoolOp op es pos) σ H Q) : QT X (.BoolOp op es pos) σ H Q := wt_of pw_sem.pt q
theorem ww_and {rest : List Expr} {Q : Bool → Hp → Prop} (q : QT X a σ H fun k H1 => if k = true then QW X (.BoolOp .And (b :: rest) pos) σ H1 Q else Q false H1) : QW X (.BoolOp .And (a :: b :: rest) pos) σ H Q := ww_of (pw_and pt_sem pw_sem) q
theorem ww_or {rest : List Expr} {Q : Bool → Hp → Prop} (q : QT X a σ H fun k H1 => if k = true then Q true H1 else QW X (.BoolOp .Or (b :: rest) pos) σ H1 Q) : QW X (.BoolOp .Or (a :: b :: rest) pos) σ H Q := ww_of (pw_or pt_sem pw_sem) q
theorem ww_and1 {Q : Bool → Hp → Prop} (q : QT X a σ H Q) : QW X (.BoolOp .And [a] pos) σ H Q := ww_of (pw_and1 pt_sem) q
theorem ww_or1 {Q : Bool → Hp → Prop} (q : QT X a σ H Q) : QW X (.BoolOp .Or [a] pos) σ H Q := ww_of (pw_or1 pt_sem) q
theorem wt_val {Q : Bool → Hp → Prop} (he : ∀ whole, isTrue e X.env whole = (do let v ← whole; standAt e.pos; holding [v] (truthy v))) (q : QE X e σ H fun x H1 => ∃ k, x = .bl k ∧ Q k H1) : QT X e σ H Q := wt_of (pt_val pe_sem he) q

/-! ### operations at values -/
theorem opw_add {i j : Int} (q : Q (.int (i + j)) H) : OpW X (binaryOp .Add) (.int i) (.int j) H Q := opw_of op_add ⟨i, j, rfl, rfl, q⟩
theorem opw_sub {i j : Int} (q : Q (.int (i - j)) H) : OpW X (binaryOp .Sub) (.int i) (.int j) H Q := opw_of op_sub ⟨i, j, rfl, rfl, q⟩
theorem opw_mul {i j : Int} (hc : CMul i j) (q : Q (.int (i * j)) H) : OpW X (binaryOp .Mult) (.int i) (.int j) H Q := opw_of op_mul ⟨i, j, rfl, rfl, hc, q⟩
theorem opw_div {i j : Int} (hc : CDiv i j) (q : Q (.int (i / j)) H) : OpW X (binaryOp .FloorDiv) (.int i) (.int j) H Q := opw_of op_fdiv ⟨i, j, rfl, rfl, hc, q⟩
theorem opw_divN {i j : Int} (hc : CDivN i j) (q : Q (.int (i.fdiv j)) H) : OpW X (binaryOp .FloorDiv) (.int i) (.int j) H Q := opw_of op_fdivN ⟨i, j, rfl, rfl, hc, q⟩
theorem opw_mod {i j : Int} (hc : 0 < j) (q : Q (.int (i % j)) H) : OpW X (binaryOp .Mod) (.int i) (.int j) H Q := opw_of op_mod ⟨i, j, rfl, rfl, hc, q⟩
theorem opw_modN {i j : Int} (hc : j ≠ 0) (q : Q (.int (i.fmod j)) H) : OpW X (binaryOp .Mod) (.int i) (.int j) H Q := opw_of op_modN ⟨i, j, rfl, rfl, hc, q⟩
theorem unw_neg {i : Int} (q : Q (.int (-i)) H) : UnW X (unaryOp .USub) (.int i) H Q := unw_of un_neg ⟨i, rfl, q⟩
theorem opw_lt {i j : Int} (q : Q (.bl (decide (i < j))) H) : OpW X (compareOp .Lt) (.int i) (.int j) H Q := opw_of op_lt ⟨i, j, rfl, rfl, q⟩
theorem opw_le {i j : Int} (q : Q (.bl (decide (i ≤ j))) H) : OpW X (compareOp .LtE) (.int i) (.int j) H Q := opw_of op_le ⟨i, j, rfl, rfl, q⟩
theorem opw_gt {i j : Int} (q : Q (.bl (decide (j < i))) H) : OpW X (compareOp .Gt) (.int i) (.int j) H Q := opw_of op_gt ⟨i, j, rfl, rfl, q⟩
theorem opw_ge {i j : Int} (q : Q (.bl (decide (j ≤ i))) H) : OpW X (compareOp .GtE) (.int i) (.int j) H Q := opw_of op_ge ⟨i, j, rfl, rfl, q⟩
theorem opw_eq {i j : Int} (q : Q (.bl (decide (i = j))) H) : OpW X (compareOp .Eq) (.int i) (.int j) H Q := opw_of op_eq ⟨rfl, by rw [show decide (V.int i = V.int j) = decide (i = j) from by simp]; exact q⟩
theorem opw_ne {i j : Int} (q : Q (.bl (!decide (i = j))) H) : OpW X (compareOp .NotEq) (.int i) (.int j) H Q := opw_of op_ne ⟨rfl, by rw [show decide (V.int i = V.int j) = decide (i = j) from by simp]; exact q⟩
theorem opw_eqb {i j : Bool} (q : Q (.bl (decide (i = j))) H) : OpW X (compareOp .Eq) (.bl i) (.bl j) H Q := opw_of op_eq ⟨rfl, by rw [show decide (V.bl i = V.bl j) = decide (i = j) from by simp]; exact q⟩
theorem opw_neb {i j : Bool} (q : Q (.bl (!decide (i = j))) H) : OpW X (compareOp .NotEq) (.bl i) (.bl j) H Q := opw_of op_ne ⟨rfl, by rw [show decide (V.bl i = V.bl j) = decide (i = j) from by simp]; exact q⟩
theorem opw_eqs {i j : Str} (q : Q (.bl (decide (i = j))) H) : OpW X (compareOp .Eq) (.str i) (.str j) H Q := opw_of op_eq ⟨rfl, by rw [show decide (V.str i = V.str j) = decide (i = j) from by simp]; exact q⟩
theorem opw_nes {i j : Str} (q : Q (.bl (!decide (i = j))) H) : OpW X (compareOp .NotEq) (.str i) (.str j) H Q := opw_of op_ne ⟨rfl, by rw [show decide (V.str i = V.str j) = decide (i = j) from by simp]; exact q⟩
theorem callw_abs {i : Int} (q : Q (.int (if i < 0 then -i else i)) H) : CallW X (.builtin "abs") [.int i] H Q := callw_of call_abs ⟨i, rfl, q⟩
theorem callw_int {i : Int} (q : Q (.int i) H) : CallW X (.type "int") [.int i] H Q := callw_of call_int1 (.inl ⟨i, rfl, q⟩)
theorem callw_intb {k : Bool} (q : Q (.int (if k then 1 else 0)) H) : CallW X (.type "int") [.bl k] H Q := callw_of call_int1 (.inr ⟨k, rfl, q⟩)
end

/-! ### statements -/
section
variable {X : Cx} {e c : Expr} {st : Stmt} {sts rest body orelse : List Stmt} {σ σ' : Sl} {H : Hp} {D : Ends} {pos p : Pos} {x : Str} {v : V}
theorem wss_nil (q : D.nx σ H) : QB X [] D σ H := wss_of pss_nil q
theorem wss_cons (q : QS X st { D with nx := fun σ' H' => QB X rest D σ' H' } σ H) : QB X (st :: rest) D σ H := wss_of (pss_cons ps_sem pss_sem) q
theorem wss_one (q : QS X st D σ H) : QB X [st] D σ H := wss_of (pss_one ps_sem) q
theorem ws_ret (q : QE X e σ H D.rt) : QS X (.Return (some e) pos) D σ H := ws_of (ps_ret pe_sem) q
theorem ws_retN (q : D.rt .non H) : QS X (.Return none pos) D σ H := ws_of ps_retN q
theorem ws_if (q : QT X c σ H fun k H1 => if k = true then QB X body D σ H1 else QB X orelse D σ H1) : QS X (.If c body orelse pos) D σ H := ws_of (ps_if pt_sem pss_sem pss_sem) q
theorem ws_expr (hs : swapsWith e none pos.line X.env = pure false) (q : QE X e σ H fun _ H1 => D.nx σ H1) : QS X (.Expr e pos) D σ H := ws_of (ps_expr pe_sem hs) q
theorem wg_name {N : List Str} {i : Nat} {Q : Sl → Hp → Prop} (h : Put N σ x v σ' i) (hN : X.N = N) (nd : X.N.Nodup) (hx : Loc X.env.scope x) (hf : X.fn x = true ∨ X.env.scope.names.lookup x = some .local) (q : Q σ' H) : QG X (.Name x pos) v σ H Q :=
  wg_of (pg_name (i := i) nd (hN ▸ h.n) hx hf) (by show Q (σ.set i (some v)) H; rw [h.v]; exact q)
theorem wgs_nil {Q : Sl → Hp → Prop} (q : Q σ H) : QGs X [] [] σ H Q := wgs_of pgs_nil ⟨rfl, q⟩
theorem wgs_cons {es : List Expr} {vs : List V} {Q : Sl → Hp → Prop} (hs : (assignEach (e :: es) X.env).map (·.2) = assign e X.env :: (assignEach es X.env).map (·.2)) (q : QG X e v σ H fun σ' H' => QGs X es vs σ' H' Q) : QGs X (e :: es) (v :: vs) σ H Q :=
  wgs_of (pgs_cons pg_sem pgs_sem hs) ⟨v, vs, rfl, q⟩
theorem wg_tup {es : List Expr} {k : Nat} {a : Addr} {xs : List V} {Q : Sl → Hp → Prop} (hc : X.calm = true) (ht : SqT X.K H a xs) (hl : xs.length = (assignEach es X.env).length) (hst : (assignEach es X.env).findIdx? (·.1) = none) (q : QGs X es xs σ H Q) : QG X (.Tuple es k pos) (.ref a) σ H Q :=
  wg_of (pg_tup hc pgs_sem rfl hst) ⟨a, xs, rfl, ht, hl, q⟩
theorem ws_asg {tg : Expr} (hs : swapsWithSole [tg] e pos.line X.env = pure false) (hw : swappedStores [tg] e X.env = pure none) (h1 : (assignEach [tg] X.env).map (·.2) = [assign tg X.env]) (q : QE X e σ H fun v H1 => QG X tg v σ H1 D.nx) : QS X (.Assign [tg] e pos) D σ H :=
  ws_of (ps_asg pe_sem pg_sem hs hw h1) q
theorem ws_set (hs : swapsWith e (some (.Name x p)) pos.line X.env = pure false) (nd : X.N.Nodup) (hx : Loc X.env.scope x) (hf : X.fn x = true ∨ X.env.scope.names.lookup x = some .local) {N : List Str} (hN : X.N = N) {i : Nat} (hi : N[i]? = some x)
    (q : QE X e σ H fun v H1 => D.nx (σ.set i (some v)) H1) : QS X (.Assign [.Name x p] e pos) D σ H :=
  ws_of (ps_set (i := i) nd (hN ▸ hi) hx pe_sem hs hf) q
theorem ws_par {y : Str} {a b : Expr} {px py pt : Pos} {kt k2 pt2} {N : List Str} {i j : Nat} (hN : X.N = N) (hi : Ix N i x) (hj : Ix N j y) (hij : i ≠ j) (hc : X.calm = true) (nd : X.N.Nodup)
    (hx : X.env.scope.names.lookup x = some .local) (hy : X.env.scope.names.lookup y = some .local)
    (hw : swappedStores [.Tuple [.Name x px, .Name y py] kt pt] (.Tuple [a, b] k2 pt2) X.env = pure (some [x, y]))
    (hs : swapsWithSole [.Tuple [.Name x px, .Name y py] kt pt] (.Tuple [a, b] k2 pt2) pos.line X.env = pure false)
    (q : QA X [a, b] σ H fun vs H1 => ∃ v w, vs = [v, w] ∧ ∃ σ1 σ2, Put N σ x v σ1 i ∧ Put N σ1 y w σ2 j ∧ D.nx σ2 H1) : QS X (.Assign [.Tuple [.Name x px, .Name y py] kt pt] (.Tuple [a, b] k2 pt2) pos) D σ H :=
  ws_of (ps_par hc nd (hN ▸ hi.n) (hN ▸ hj.n) hij hx hy pa_sem hw hs) (fun pos pins s I => thn (q pos pins s I) fun us s' ⟨vs, H', J, r, v, w, e, σ1, σ2, p1, p2, z⟩ => ⟨vs, H', J, r, v, w, e, by rw [p1.v, p2.v]; exact z⟩)
theorem ws_par3 {y z : Str} {a b c : Expr} {px py pz pt : Pos} {kt k2 pt2} {N : List Str} {i j l : Nat} (hN : X.N = N) (hi : Ix N i x) (hj : Ix N j y) (hl : Ix N l z) (hij : i ≠ j) (hil : i ≠ l) (hjl : j ≠ l) (hc : X.calm = true) (nd : X.N.Nodup)
    (hx : X.env.scope.names.lookup x = some .local) (hy : X.env.scope.names.lookup y = some .local) (hz : X.env.scope.names.lookup z = some .local)
    (hw : swappedStores [.Tuple [.Name x px, .Name y py, .Name z pz] kt pt] (.Tuple [a, b, c] k2 pt2) X.env = pure (some [x, y, z]))
    (hs : swapsWithSole [.Tuple [.Name x px, .Name y py, .Name z pz] kt pt] (.Tuple [a, b, c] k2 pt2) pos.line X.env = pure false)
    (q : QA X [a, b, c] σ H fun vs H1 => ∃ u v w, vs = [u, v, w] ∧ ∃ σ1 σ2 σ3, Put N σ x u σ1 i ∧ Put N σ1 y v σ2 j ∧ Put N σ2 z w σ3 l ∧ D.nx σ3 H1) : QS X (.Assign [.Tuple [.Name x px, .Name y py, .Name z pz] kt pt] (.Tuple [a, b, c] k2 pt2) pos) D σ H :=
  ws_of (ps_par3 hc nd (hN ▸ hi.n) (hN ▸ hj.n) (hN ▸ hl.n) hij hil hjl hx hy hz pa_sem hw hs) (fun pos pins s I => thn (q pos pins s I) fun us s' ⟨vs, H', J, r, u, v, w, e, σ1, σ2, σ3, p1, p2, p3, zz⟩ => ⟨vs, H', J, r, u, v, w, e, by rw [p1.v, p2.v, p3.v]; exact zz⟩)
theorem ifd {c A B : Prop} [Decidable c] (h1 : c → A) (h2 : ¬ c → B) : if decide c = true then A else B := by
  by_cases h : c
  · rw [if_pos (decide_eq_true h)]
    exact h1 h
  · rw [if_neg (by simpa using h)]
    exact h2 h
theorem ifn {c A B : Prop} [Decidable c] (h1 : ¬ c → A) (h2 : c → B) : if (!decide c) = true then A else B := by
  by_cases h : c
  · rw [if_neg (by simpa using h)]
    exact h2 h
  · rw [if_pos (by simpa using h)]
    exact h1 h
theorem ifb {b : Bool} {A B : Prop} (h1 : b = true → A) (h2 : b = false → B) : if b = true then A else B := by
  cases b with
  | true => exact h1 rfl
  | false => rw [if_neg Bool.false_ne_true]; exact h2 rfl
theorem ifnb {b : Bool} {A B : Prop} (h1 : b = false → A) (h2 : b = true → B) : if (!b) = true then A else B := by
  cases b with
  | false => exact h1 rfl
  | true => rw [if_neg (by decide)]; exact h2 rfl
/-- while, by an invariant and a measure -/
theorem ws_while (I : Sl → Hp → Prop) (μ : Sl → Hp → Nat) (hp : PassesOwn (model X.prog X.w) X.A X.env X.xe) (h0 : I σ H)
    (h : ∀ σ1 H1, I σ1 H1 → QT X c σ1 H1 fun k H2 => if k = true then QB X body { D with nx := fun σ3 H3 => I σ3 H3 ∧ μ σ3 H3 < μ σ1 H1, ct := fun σ3 H3 => I σ3 H3 ∧ μ σ3 H3 < μ σ1 H1, bk := D.nx } σ1 H2 else D.nx σ1 H2) : QS X (.While c body [] pos) D σ H := by
  refine ws_of (ps_while hp pt_sem pss_sem) ⟨fun m σ1 H1 => I σ1 H1 ∧ μ σ1 H1 = m, ⟨_, h0, rfl⟩, fun m σ1 H1 hm => ?_⟩
  obtain ⟨i1, rfl⟩ := hm
  intro pins s J
  refine thn (h σ1 H1 i1 pins s J) fun k s2 ⟨H2, J2, q2⟩ => ⟨H2, J2, ?_⟩
  cases k with
  | true =>
    rw [if_pos rfl] at q2 ⊢
    exact ⟨fun σ3 H3 => I σ3 H3 ∧ μ σ3 H3 < μ σ1 H1, fun σ3 H3 q => ⟨_, q.2, q.1, rfl⟩, q2⟩
  | false =>
    rw [if_neg Bool.false_ne_true] at q2 ⊢
    exact q2
end
end Sx

/-! Sd: data as a whole, and what stands for it. -/
namespace Sx
open PySem PySem.Spec PyProof.Rows L2

inductive D where
  | non | bl (b : Bool) | int (i : Int) | str (x : Str) | tup (ds : List D) | lst (ds : List D) | obj (c : Addr) (ns : List Str) (ds : List D)

mutual
/-- no list inside -/
def D.im : D → Bool
  | .lst _ => false
  | .tup ds => imAll ds
  | .obj _ _ ds => imAll ds
  | _ => true
def imAll : List D → Bool
  | [] => true
  | d :: r => d.im && imAll r
end
mutual
inductive Rp (K : PySem.W.Frag) (H : Hp) : V → D → Prop
  | non : Rp K H .non .non
  | bl (b : Bool) : Rp K H (.bl b) (.bl b)
  | int (i : Int) : Rp K H (.int i) (.int i)
  | str (x : Str) : Rp K H (.str x) (.str x)
  | tup {a : Addr} {xs : List V} {ds : List D} : SqT K H a xs → RpAll K H xs ds → Rp K H (.ref a) (.tup ds)
  | lst {a : Addr} {xs : List V} {ds : List D} : SqL K H a xs → RpAll K H xs ds → Rp K H (.ref a) (.lst ds)
  | obj {a c dx : Addr} {fs : List (Str × V)} {ns : List Str} {ds : List D} : H a = some (.ins c dx fs) → fs.map (·.1) = ns → RpAll K H (fs.map (·.2)) ds → Rp K H (.ref a) (.obj c ns ds)
inductive RpAll (K : PySem.W.Frag) (H : Hp) : List V → List D → Prop
  | nil : RpAll K H [] []
  | cons {v : V} {vs : List V} {d : D} {ds : List D} : Rp K H v d → RpAll K H vs ds → RpAll K H (v :: vs) (d :: ds)
end
section
variable {K : PySem.W.Frag} {H H' : Hp}
theorem Same.tupR {a : Addr} {xs : List V} (e : Same H H') (h : SqT K H a xs) : SqT K H' a xs := by
  rcases h with (h | ⟨o, h⟩) | h
  · exact .inl (.inl (e _ _ h))
  · exact .inl (.inr ⟨o, e _ _ h⟩)
  · exact .inr h
mutual
theorem Rp.mono (s : Same H H') : ∀ (d : D) (v : V), Rp K H v d → Rp K H' v d
  | .non, _, h => by cases h; exact .non
  | .bl _, _, h => by cases h; exact .bl _
  | .int _, _, h => by cases h; exact .int _
  | .str _, _, h => by cases h; exact .str _
  | .tup ds, _, h => by
    cases h with
    | tup h1 h2 => exact .tup (Same.tupR s h1) (RpAll.mono s ds _ h2)
  | .lst ds, _, h => by
    cases h with
    | lst h1 h2 => exact .lst (s.seq h1) (RpAll.mono s ds _ h2)
  | .obj c ns ds, _, h => by
    cases h with
    | obj h1 h2 h3 => exact .obj (s _ _ h1) h2 (RpAll.mono s ds _ h3)
theorem RpAll.mono (s : Same H H') : ∀ (ds : List D) (vs : List V), RpAll K H vs ds → RpAll K H' vs ds
  | [], _, h => by cases h; exact .nil
  | d :: ds, _, h => by
    cases h with
    | cons h1 h2 => exact .cons (Rp.mono s d _ h1) (RpAll.mono s ds _ h2)
end
theorem Rp.to {d : D} {v : V} (h : Rp K H v d) (s : Same H H') : Rp K H' v d := Rp.mono s d v h
theorem RpAll.to {ds : List D} {vs : List V} (h : RpAll K H vs ds) (s : Same H H') : RpAll K H' vs ds := RpAll.mono s ds vs h
/-- a list is written: what holds no list stands -/
def Lst (H : Hp) (p : Addr) : Prop := ∃ xs, H p = some (.lst xs)
mutual
theorem Rp.keep {p : Addr} (l : Lst H p) (s : ∀ b o, b ≠ p → H b = some o → H' b = some o) : ∀ (d : D) (v : V), d.im = true → Rp K H v d → Rp K H' v d
  | .non, _, _, h => by cases h; exact .non
  | .bl _, _, _, h => by cases h; exact .bl _
  | .int _, _, _, h => by cases h; exact .int _
  | .str _, _, _, h => by cases h; exact .str _
  | .tup ds, _, m, h => by
    obtain ⟨zs, hz⟩ := l
    cases h with
    | tup h1 h2 =>
      refine .tup ?_ (RpAll.keep ⟨zs, hz⟩ s ds _ (by simpa [D.im] using m) h2)
      rcases h1 with (h1 | ⟨o, h1⟩) | h1
      · exact .inl (.inl (s _ _ (ne_of h1 hz (by intro z; cases z)) h1))
      · exact .inl (.inr ⟨o, s _ _ (ne_of h1 hz (by intro z; cases z)) h1⟩)
      · exact .inr h1
  | .lst _, _, m, _ => by simp [D.im] at m
  | .obj c ns ds, _, m, h => by
    obtain ⟨zs, hz⟩ := l
    cases h with
    | obj h1 h2 h3 => exact .obj (s _ _ (ne_of h1 hz (by intro z; cases z)) h1) h2 (RpAll.keep ⟨zs, hz⟩ s ds _ (by simpa [D.im] using m) h3)
theorem RpAll.keep {p : Addr} (l : Lst H p) (s : ∀ b o, b ≠ p → H b = some o → H' b = some o) : ∀ (ds : List D) (vs : List V), imAll ds = true → RpAll K H vs ds → RpAll K H' vs ds
  | [], _, _, h => by cases h; exact .nil
  | d :: ds, _, m, h => by
    have m' : d.im = true ∧ imAll ds = true := by simpa [imAll] using m
    cases h with
    | cons h1 h2 => exact .cons (Rp.keep l s d _ m'.1 h1) (RpAll.keep l s ds _ m'.2 h2)
end
theorem RpAll.len : ∀ {vs : List V} {ds : List D}, RpAll K H vs ds → vs.length = ds.length
  | _, _, .nil => rfl
  | _, _, .cons _ t => by simp [RpAll.len t]
theorem RpAll.get : ∀ {vs : List V} {ds : List D} {i : Nat} {v : V}, RpAll K H vs ds → vs[i]? = some v → ∃ d, ds[i]? = some d ∧ Rp K H v d
  | _, _, _, _, .nil, e => by simp at e
  | _, _, 0, _, .cons r _, e => by simp at e; subst e; exact ⟨_, rfl, r⟩
  | _, _, i + 1, v, .cons _ t, e => by
    obtain ⟨d, h1, h2⟩ := RpAll.get (i := i) (v := v) t (by simpa using e)
    exact ⟨d, by simpa using h1, h2⟩
theorem RpAll.getD' : ∀ {vs : List V} {ds : List D} {i : Nat} {d : D}, RpAll K H vs ds → ds[i]? = some d → ∃ v, vs[i]? = some v ∧ Rp K H v d
  | _, _, _, _, .nil, e => by simp at e
  | _, _, 0, _, .cons r _, e => by simp at e; subst e; exact ⟨_, rfl, r⟩
  | _, _, i + 1, v, .cons _ t, e => by
    obtain ⟨d, h1, h2⟩ := RpAll.getD' (i := i) (d := v) t (by simpa using e)
    exact ⟨d, by simpa using h1, h2⟩
theorem RpAll.snoc : ∀ {vs : List V} {ds : List D} {v : V} {d : D}, RpAll K H vs ds → Rp K H v d → RpAll K H (vs ++ [v]) (ds ++ [d])
  | _, _, _, _, .nil, h => .cons h .nil
  | _, _, _, _, .cons r t, h => .cons r (RpAll.snoc t h)
theorem RpAll.app : ∀ {vs ws : List V} {ds es : List D}, RpAll K H vs ds → RpAll K H ws es → RpAll K H (vs ++ ws) (ds ++ es)
  | _, _, _, _, .nil, h => h
  | _, _, _, _, .cons r t, h => .cons r (RpAll.app t h)
theorem imAll_iff : ∀ {ds : List D}, imAll ds = true ↔ ∀ d ∈ ds, d.im = true
  | [] => by simp [imAll]
  | d :: r => by simp [imAll, imAll_iff (ds := r)]
theorem RpAll.ints : ∀ (ns : List Int), RpAll K H (ns.map V.int) (ns.map D.int)
  | [] => .nil
  | n :: r => .cons (.int n) (RpAll.ints r)
theorem RpAll.ints_inv : ∀ {ns : List Int} {vs : List V}, RpAll K H vs (ns.map D.int) → vs = ns.map V.int
  | [], _, h => by cases h; rfl
  | n :: r, _, h => by
    cases h with
    | cons h1 h2 => cases h1; rw [RpAll.ints_inv h2]; rfl
theorem RpAll.bls_inv : ∀ {ns : List Bool} {vs : List V}, RpAll K H vs (ns.map D.bl) → vs = ns.map V.bl
  | [], _, h => by cases h; rfl
  | n :: r, _, h => by
    cases h with
    | cons h1 h2 => cases h1; rw [RpAll.bls_inv h2]; rfl
theorem RpAll.strs_inv : ∀ {ns : List Str} {vs : List V}, RpAll K H vs (ns.map D.str) → vs = ns.map V.str
  | [], _, h => by cases h; rfl
  | n :: r, _, h => by
    cases h with
    | cons h1 h2 => cases h1; rw [RpAll.strs_inv h2]; rfl
mutual
/-- .. as the library's data, where no object is inside -/
def D.py : D → Option PyData
  | .non => some .none
  | .bl b => some (.bool b)
  | .int i => some (.int i)
  | .str x => some (.str x)
  | .tup ds => (pyAll ds).map .tuple
  | .lst ds => (pyAll ds).map .list
  | .obj _ _ _ => none
def pyAll : List D → Option (List PyData)
  | [] => some []
  | d :: r => match d.py, pyAll r with
    | some x, some xs => some (x :: xs)
    | _, _ => none
end
mutual
theorem Rp.py : ∀ (d : D) (v : V) (e : PyData), Rp K H v d → d.py = some e → Dp K H v e
  | .non, _, _, h, q => by cases h; cases q; exact .non
  | .bl _, _, _, h, q => by cases h; cases q; exact .bl _
  | .int _, _, _, h, q => by cases h; cases q; exact .int _
  | .str _, _, _, h, q => by cases h; cases q; exact .str _
  | .tup ds, _, _, h, q => by
    cases h with
    | tup h1 h2 =>
      unfold D.py at q
      cases w : pyAll ds with
      | none => rw [w] at q; cases q
      | some xs => rw [w] at q; cases q; exact .tup h1 (RpAll.py ds _ xs h2 w)
  | .lst ds, _, _, h, q => by
    cases h with
    | lst h1 h2 =>
      unfold D.py at q
      cases w : pyAll ds with
      | none => rw [w] at q; cases q
      | some xs => rw [w] at q; cases q; exact .lst h1 (RpAll.py ds _ xs h2 w)
  | .obj _ _ _, _, _, _, q => by unfold D.py at q; cases q
theorem RpAll.py : ∀ (ds : List D) (vs : List V) (es : List PyData), RpAll K H vs ds → pyAll ds = some es → DpAll K H vs es
  | [], _, _, h, q => by cases h; unfold pyAll at q; cases q; exact .nil
  | d :: ds, _, _, h, q => by
    cases h with
    | cons h1 h2 =>
      unfold pyAll at q
      cases w1 : d.py with
      | none => rw [w1] at q; cases q
      | some x =>
        cases w2 : pyAll ds with
        | none => rw [w1, w2] at q; cases q
        | some xs => rw [w1, w2] at q; cases q; exact .cons (Rp.py d _ x h1 w1) (RpAll.py ds _ xs h2 w2)
end
/-! ### a datum's type -/
def D.ty : D → Option String
  | .non => some "NoneType"
  | .bl _ => some "bool"
  | .int _ => some "int"
  | .str _ => some "str"
  | .tup _ => some "tuple"
  | .lst _ => some "list"
  | .obj .. => none
theorem Rp.tyx : ∀ {d : D} {v : V} {n : String}, Rp K H v d → d.ty = some n → TyX K H v (.type n)
  | _, _, _, .non, e => by cases e; exact .base .non
  | _, _, _, .bl _, e => by cases e; exact .base (.bl _)
  | _, _, _, .int _, e => by cases e; exact .base (.int _)
  | _, _, _, .str _, e => by cases e; exact .base (.str _)
  | _, _, _, .tup h _, e => by
    cases e
    rcases h with (h | ⟨o, h⟩) | ⟨o, its, n, h1, h2, _⟩
    · exact .base (.tup h)
    · exact .fTuple h
    · exact .kTuple h1 h2
  | _, _, _, .lst h _, e => by
    cases e
    rcases h with (h | ⟨o, h⟩) | ⟨o, its, n, h1, h2, _⟩
    · exact .base (.lst h)
    · exact .base (.frz h)
    · exact .kList h1 h2
  | _, _, _, .obj .., e => by cases e
end
def D.isI : D → Bool
  | .int _ => true
  | .bl _ => true
  | _ => false
def D.whole : D → Bool
  | .int _ => true
  | _ => false
def D.isB : D → Bool
  | .bl _ => true
  | _ => false
def D.isS : D → Bool
  | .str _ => true
  | _ => false
def D.isT : D → Bool
  | .tup _ => true
  | _ => false
def D.isL : D → Bool
  | .lst _ => true
  | _ => false
theorem D.whole_eq (d : D) : d.whole = (d.isI && !d.isB) := by cases d <;> rfl
section
variable {X : Cx} {H : Hp} {Q : VK} {v : V} {d : D}
theorem callw_isi {n c : String} {b : Bool} (h : Rp X.K H v d) (e : d.ty = some n) (k : kitB n c = some b) (q : Q (.bl b) H) : CallW X (.builtin "isinstance") [v, .ty c] H Q :=
  callw_of call_isi ⟨v, .ty c, .type n, .type c, b, rfl, .ty c, h.tyx e, kit_ty k, q⟩
theorem isi_int (h : Rp X.K H v d) (o : d.ty.isSome = true) (q : Q (.bl d.isI) H) : CallW X (.builtin "isinstance") [v, .ty "int"] H Q := by
  cases d <;> first | exact callw_isi (b := true) h rfl (by decide +kernel) q | exact callw_isi (b := false) h rfl (by decide +kernel) q | cases o
theorem isi_bool (h : Rp X.K H v d) (o : d.ty.isSome = true) (q : Q (.bl d.isB) H) : CallW X (.builtin "isinstance") [v, .ty "bool"] H Q := by
  cases d <;> first | exact callw_isi (b := true) h rfl (by decide +kernel) q | exact callw_isi (b := false) h rfl (by decide +kernel) q | cases o
theorem isi_str (h : Rp X.K H v d) (o : d.ty.isSome = true) (q : Q (.bl d.isS) H) : CallW X (.builtin "isinstance") [v, .ty "str"] H Q := by
  cases d <;> first | exact callw_isi (b := true) h rfl (by decide +kernel) q | exact callw_isi (b := false) h rfl (by decide +kernel) q | cases o
theorem isi_tuple (h : Rp X.K H v d) (o : d.ty.isSome = true) (q : Q (.bl d.isT) H) : CallW X (.builtin "isinstance") [v, .ty "tuple"] H Q := by
  cases d <;> first | exact callw_isi (b := true) h rfl (by decide +kernel) q | exact callw_isi (b := false) h rfl (by decide +kernel) q | cases o
end
end Sx

/-! Sc: what loops and comprehensions walk; containers. -/
namespace Sx
open PySem PySem.Spec PyProof.Rows L2

section
variable (X : Cx)
def QI (tg iter : Expr) (σ : Sl) (H : Hp) (R : It → Hp → Prop) : Prop := ∀ (pins : List (Addr × Obj)) (s : Shared), Inv X pins σ H s → wpAny (model X.prog X.w) X.A (eval iter X.env) (fun v s1 => wpAny (model X.prog X.w) X.A (pyIter v) (PIE X pins σ tg R) X.xe s1) X.xe s
/-- in a comprehension's block, wherever it begins -/
def BG (scope : Scope) (tg : Expr) (v : V) (σ : Sl) (H : Hp) (Q : Sl → Hp → Prop) : Prop := ∀ (s : Shared) (H0 : Hp) (C : Addr) (cl : List (Str × Addr)) (fp : List Addr), QG (X.blk s H0 scope (compEnvC scope cl C X.env) fp) tg v σ H Q
def BE (scope : Scope) (e : Expr) (σ : Sl) (H : Hp) (Q : VK) : Prop := ∀ (s : Shared) (H0 : Hp) (C : Addr) (cl : List (Str × Addr)) (fp : List Addr), QE (X.blk s H0 scope (compEnvC scope cl C X.env) fp) e σ H Q
def BT (scope : Scope) (e : Expr) (σ : Sl) (H : Hp) (Q : Bool → Hp → Prop) : Prop := ∀ (s : Shared) (H0 : Hp) (C : Addr) (cl : List (Str × Addr)) (fp : List Addr), QT (X.blk s H0 scope (compEnvC scope cl C X.env) fp) e σ H Q
end
section
variable {X : Cx} {tg iter e a b l : Expr} {σ : Sl} {H : Hp} {R : It → Hp → Prop} {pos p : Pos}
theorem pi_sem : PI X tg iter (QI X tg iter) := ⟨fun pins s _ _ _ I h => h pins s I⟩
theorem qi_of {wi : TI} (h : PI X tg iter wi) (q : wi σ H R) : QI X tg iter σ H R := fun pins s I => h.run pins s σ H R I q
theorem qi_list (q : QE X l σ H fun x H1 => ∃ a, x = .ref a ∧ (∃ xs, SqL X.K H1 a xs) ∧ R (Itl X.K a) H1) : QI X tg l σ H R := qi_of (pi_list pe_sem) q
theorem qi_tup (q : QE X l σ H fun x H1 => ∃ a, x = .ref a ∧ (∃ xs, SqT X.K H1 a xs) ∧ R (Itt X.K a) H1) : QI X tg l σ H R := qi_of (pi_tup pe_sem) q
theorem qi_range1 (hm : X.mg "range" = none) (hg : Gl X "range") (hs : starEach [a] X.env = [(false, eval a X.env)]) (q : QE X a σ H fun x H1 => ∃ j : Int, x = .int j ∧ (-(2 ^ 62) ≤ j ∧ j < 2 ^ 62) ∧ R (Itr 0 j.toNat) H1) : QI X tg (.Call (.Name "range" p) [a] [] pos) σ H R :=
  qi_of (pi_range1 hg hm pa_sem hs) (wa_cons hs (by exact fun pins s I => thn (q pins s I) fun u s1 ⟨v, H1, J, r, j, e, ⟨h1, h2⟩, z⟩ => ⟨v, H1, J, r, wa_nil ⟨j, by rw [e], h1, h2, z⟩⟩))
theorem qi_range2 (hm : X.mg "range" = none) (hg : Gl X "range") (hs : starEach [a, b] X.env = [(false, eval a X.env), (false, eval b X.env)]) (hs2 : starEach [b] X.env = [(false, eval b X.env)])
    (q : QE X a σ H fun x H1 => QE X b σ H1 fun y H2 => ∃ i j : Int, x = .int i ∧ y = .int j ∧ (-(2 ^ 62) ≤ i ∧ i < 2 ^ 62 ∧ -(2 ^ 62) ≤ j ∧ j < 2 ^ 62) ∧ R (Itr i (j - i).toNat) H2) : QI X tg (.Call (.Name "range" p) [a, b] [] pos) σ H R :=
  qi_of (pi_range2 hg hm pa_sem hs hs2) (wa_cons (by rw [hs, hs2]) (by
    exact fun pins s I => thn (q pins s I) fun u s1 ⟨v, H1, J, r, z⟩ => ⟨v, H1, J, r, wa_cons hs2 (by
      exact fun pins s I => thn (z pins s I) fun u s1 ⟨v2, H2, J2, r2, i, j, e1, e2, h, z2⟩ => ⟨v2, H2, J2, r2, wa_nil ⟨i, j, by rw [e1, e2], h, z2⟩⟩)⟩))
theorem QI.imp {R' : It → Hp → Prop} (h : QI X tg iter σ H R) (k : ∀ J H1, R J H1 → R' J H1) : QI X tg iter σ H R' := fun pins s I => thn (h pins s I) fun v s1 h1 => thn h1 fun itv s2 ⟨it, fp, tn, J, H', e, J1, T, t0, f, r⟩ => ⟨it, fp, tn, J, H', e, J1, T, t0, f, k _ _ r⟩
/-- for: what it walks, Pv by the turn, the slots and the heap -/
theorem qs_for {body : List Stmt} {E : Ends} (hp : PassesOwn (model X.prog X.w) X.A X.env X.xe) (hc : X.calm = true) (hfs : ∀ x, foldedSetIterable iter X.env x = pure x)
    (q : QI X tg iter σ H fun J H1 => ∃ (n : Nat) (G : Hp → Prop) (Y : Nat → Hp → V → Hp → Prop), Walk J n G Y ∧ ∃ Pv : Nat → Sl → Hp → Prop, Pv 0 σ H1 ∧ (∀ i σ H, i ≤ n → Pv i σ H → G H) ∧
      (∀ i x σ H H', i < n → Pv i σ H → Y i H x H' → QG X tg x σ H' fun σ2 H2 => QB X body { E with nx := Pv (i + 1), ct := Pv (i + 1), bk := E.nx } σ2 H2) ∧ (∀ σ H, Pv n σ H → E.nx σ H)) : QS X (.For tg iter body [] pos) E σ H :=
  ws_of (ps_for hp hc pi_sem pg_sem pss_sem hfs) (q.imp fun J H1 ⟨n, G, Y, w, Pv, h0, hG, hs, hd⟩ => for_it w Pv h0 hG hs hd)
/-! ### comprehensions -/
def bits (n : Nat) (F : Nat → Option D) : List D := (List.range n).filterMap F
theorem bits_succ (n : Nat) (F : Nat → Option D) : bits (n + 1) F = bits n F ++ (F n).toList := by
  unfold bits
  rw [List.range_succ, List.filterMap_append]
  cases e : F n <;> simp [e]
theorem bits_len (n : Nat) (F : Nat → Option D) : (bits n F).length ≤ n := by
  unfold bits
  exact Nat.le_trans (List.length_filterMap_le _ _) (by simp)
/-- what a comprehension has made behind i turns -/
structure LcAt (K : PySem.W.Frag) (H1 : Hp) (Dl : Addr) (F : Nat → Option D) (i : Nat) (H : Hp) : Prop where
  s : Same H1 H
  l : ∃ acc, H Dl = some (.lst acc) ∧ RpAll K H acc (bits i F)
theorem LcAt.zero {K : PySem.W.Frag} {H1 : Hp} {Dl : Addr} {F : Nat → Option D} (h : H1 Dl = none) : LcAt K H1 Dl F 0 (upd H1 Dl (.lst [])) := ⟨same_new h, [], upd_same, .nil⟩
theorem LcAt.skip {K : PySem.W.Frag} {H1 H H' : Hp} {Dl : Addr} {F : Nat → Option D} {i : Nat} (h : LcAt K H1 Dl F i H) (s : Same H H') (e : F i = none) : LcAt K H1 Dl F (i + 1) H' := by
  obtain ⟨acc, h1, h2⟩ := h.l
  exact ⟨h.s.trans s, acc, s _ _ h1, by rw [bits_succ, e]; simpa using h2.to s⟩
theorem LcAt.more {K : PySem.W.Frag} {H1 H H' : Hp} {Dl : Addr} {F : Nat → Option D} {i : Nat} {y : V} {d : D} (h : LcAt K H1 Dl F i H) (h0 : H1 Dl = none) (s : Same H H') (e : F i = some d) (him : ∀ i d, F i = some d → d.im = true) (r : Rp K H' y d) :
    ∃ acc, H' Dl = some (.lst acc) ∧ acc.length = (bits i F).length ∧ LcAt K H1 Dl F (i + 1) (upd H' Dl (.lst (acc ++ [y]))) := by
  obtain ⟨acc, h1, h2⟩ := h.l
  have hk : ∀ b o, b ≠ Dl → H' b = some o → (upd H' Dl (.lst (acc ++ [y]))) b = some o := fun b o n q => by rw [upd_ne n]; exact q
  have hall : imAll (bits i F) = true := by
    rw [imAll_iff]
    intro d hd
    unfold bits at hd
    rw [List.mem_filterMap] at hd
    obtain ⟨j, _, hj⟩ := hd
    exact him j d hj
  refine ⟨acc, s _ _ h1, h2.len, ⟨fun b o q => ?_, acc ++ [y], upd_same, ?_⟩⟩
  · rw [upd_ne (ne_of_none q h0)]
    exact s _ _ (h.s _ _ q)
  · rw [bits_succ, e]
    exact (RpAll.keep ⟨acc, s _ _ h1⟩ hk _ _ hall (h2.to s)).snoc (Rp.keep ⟨acc, s _ _ h1⟩ hk _ _ (him i d e) r)
/-- a comprehension with at most one test, from its parts -/
def QT1 (X : Cx) (scope : Scope) : List Expr → Sl → Hp → (Bool → Hp → Prop) → Prop
  | [] => tYes
  | [c] => BT X scope c
  | _ => fun _ _ _ => False
def QL (X : Cx) (elt tg iter : Expr) (ifs : List Expr) (scope : Scope) (vs : List Nat) (σ : Sl) (H : Hp) (Q : VK) : Prop := tLc (QI X tg iter) (BG X scope tg) (QT1 X scope ifs) (BE X scope elt) vs σ H Q
theorem pts_1 {scope : Scope} : ∀ (ifs : List Expr) (s : Shared) (H : Hp) (C : Addr) (cl : List (Str × Addr)) (fp : List Addr), PTs (X.blk s H scope (compEnvC scope cl C X.env) fp) ifs (QT1 X scope ifs)
  | [], _, _, _, _, _ => pts_nil
  | [c], s, H, C, cl, fp => pts_one ⟨fun pins s1 σ1 H2 Q1 I h => h s H C cl fp pins s1 I⟩
  | _ :: _ :: _, _, _, _, _, _ => by
    exact ⟨fun _ _ _ _ _ _ h => h.elim⟩
theorem we_lc {elt : Expr} {ifs : List Expr} {scope : Scope} {own : List (Str × Nat)} {vs : List Nat} {Q : VK} (hv : own.map (·.2) = vs) (hc : X.calm = true) (nd : X.N.Nodup) (ok : BlkOk X.N X.env.scope scope own) (hs : ∀ x, foldedSetIterable iter X.env x = pure x)
    (q : QL X elt tg iter ifs scope vs σ H Q) : QE X (.ListComp elt [⟨tg, iter, ifs, 0⟩] scope pos) σ H Q := by
  subst hv
  exact we_of (pe_lc hc nd pi_sem ok (g := BG X scope tg) (tt := QT1 X scope ifs) (te := BE X scope elt) (fun s H0 C cl fp => ⟨fun pins s1 σ1 H2 v u Q1 I r h => h s H0 C cl fp pins s1 u I r⟩) (pts_1 ifs) (fun s H0 C cl fp => ⟨fun pins s1 σ1 H2 Q1 I h => h s H0 C cl fp pins s1 I⟩) hs) q
/-- name = [..] in a def -/
theorem ws_setLc {elt : Expr} {ifs : List Expr} {scope : Scope} {own : List (Str × Nat)} {vs : List Nat} {D : Ends} {y : Str} {j : Nat} {py spos : Pos} (hv : own.map (·.2) = vs) (hc : X.calm = true) (nd : X.N.Nodup) (hy : X.N[j]? = some y) (hyl : X.env.scope.names.lookup y = some .local)
    (hsw : swapsWith (.ListComp elt [⟨tg, iter, ifs, 0⟩] scope pos) (some (.Name y py)) spos.line X.env = pure true) (ok : BlkOk X.N X.env.scope scope own) (hs : ∀ x, foldedSetIterable iter X.env x = pure x)
    (q : QL X elt tg iter ifs scope vs σ H fun v H1 => D.nx (σ.set j (some v)) H1) : QS X (.Assign [.Name y py] (.ListComp elt [⟨tg, iter, ifs, 0⟩] scope pos) spos) D σ H := by
  subst hv
  exact ws_of (ps_setLc hc nd hy hyl hsw pi_sem ok (g := BG X scope tg) (tt := QT1 X scope ifs) (te := BE X scope elt) (fun s H0 C cl fp => ⟨fun pins s1 σ1 H2 v u Q1 I r h => h s H0 C cl fp pins s1 u I r⟩) (pts_1 ifs) (fun s H0 C cl fp => ⟨fun pins s1 σ1 H2 Q1 I h => h s H0 C cl fp pins s1 I⟩) hs) q
/-- [elt for tg in iter]: F tells what turn i brings -/
theorem ql_lc {elt : Expr} {scope : Scope} {vs : List Nat} {Q : VK} {σw : Sl} (hw : wipe σ vs = σw)
    (q : QI X tg iter σ H fun J H1 => ∃ (n : Nat) (G : Hp → Prop) (Y : Nat → Hp → V → Hp → Prop), Walk J n G Y ∧ n < sizeLine ∧ (∀ H', Same H1 H' → G H') ∧ ∃ F : Nat → Option D, (∀ i d, F i = some d → d.im = true) ∧
      (∀ i x H2 H3, i < n → Same H1 H2 → Y i H2 x H3 → BG X scope tg x σw H3 fun σ2 H4 => wipe σ2 vs = σw ∧ BE X scope elt σ2 H4 fun y H5 => Same H2 H5 ∧ ∃ d, F i = some d ∧ Rp X.K H5 y d) ∧
      (∀ p H2 ys, Same H1 H2 → H1 p = none → H2 p = some (.lst ys) → RpAll X.K H2 ys (bits n F) → Q (.ref p) H2)) : QL X elt tg iter [] scope vs σ H Q := by
  show QI X tg iter σ H _
  refine q.imp fun J H1 ⟨n, G, Y, w, hn, hG, F, him, hb, hq⟩ Dl hD => ?_
  refine lc_it w (LcAt X.K H1 Dl F) (LcAt.zero hD) (fun i H _ h => hG H h.s) (fun i x H2 H3 hi h y => ?_) (fun H2 h => ?_)
  · rw [hw]
    have hb' := hb i x H2 H3 hi h.s y
    intro s H0 C cl fp pins s1 u I r
    refine thn (hb' s H0 C cl fp pins s1 u I r) fun _ s2 ⟨σ2, H4, I4, e4, b4⟩ => ⟨σ2, H4, I4, e4, ?_⟩
    delta QT1 tYes
    dsimp only
    rw [if_pos rfl]
    intro s H0 C cl fp pins s1 I
    refine thn (b4 s H0 C cl fp pins s1 I) fun u s3 ⟨v, H5, I5, r5, s5, d, e5, rp⟩ => ⟨v, H5, I5, r5, ?_⟩
    obtain ⟨acc, h1, h2, h3⟩ := h.more hD s5 e5 him rp
    exact ⟨acc, h1, by rw [h2]; exact Nat.lt_of_le_of_lt (bits_len _ _) (by omega), h3⟩
  · obtain ⟨acc, h1, h2⟩ := h.l
    exact hq Dl H2 acc h.s hD h1 h2
/-- [elt for tg in iter if c] -/
theorem ql_lcT {elt c : Expr} {scope : Scope} {vs : List Nat} {Q : VK} {σw : Sl} (hw : wipe σ vs = σw)
    (q : QI X tg iter σ H fun J H1 => ∃ (n : Nat) (G : Hp → Prop) (Y : Nat → Hp → V → Hp → Prop), Walk J n G Y ∧ n < sizeLine ∧ (∀ H', Same H1 H' → G H') ∧ ∃ F : Nat → Option D, (∀ i d, F i = some d → d.im = true) ∧
      (∀ i x H2 H3, i < n → Same H1 H2 → Y i H2 x H3 → BG X scope tg x σw H3 fun σ2 H4 => wipe σ2 vs = σw ∧ BT X scope c σ2 H4 fun b H5 => (b = true → BE X scope elt σ2 H5 fun y H6 => Same H2 H6 ∧ ∃ d, F i = some d ∧ Rp X.K H6 y d) ∧ (b = false → Same H2 H5 ∧ F i = none)) ∧
      (∀ p H2 ys, Same H1 H2 → H1 p = none → H2 p = some (.lst ys) → RpAll X.K H2 ys (bits n F) → Q (.ref p) H2)) : QL X elt tg iter [c] scope vs σ H Q := by
  show QI X tg iter σ H _
  refine q.imp fun J H1 ⟨n, G, Y, w, hn, hG, F, him, hb, hq⟩ Dl hD => ?_
  refine lc_it w (LcAt X.K H1 Dl F) (LcAt.zero hD) (fun i H _ h => hG H h.s) (fun i x H2 H3 hi h y => ?_) (fun H2 h => ?_)
  · rw [hw]
    have hb' := hb i x H2 H3 hi h.s y
    intro s H0 C cl fp pins s1 u I r
    refine thn (hb' s H0 C cl fp pins s1 u I r) fun _ s2 ⟨σ2, H4, I4, e4, b4⟩ => ⟨σ2, H4, I4, e4, ?_⟩
    intro s H0 C cl fp pins s1 I
    refine thn (b4 s H0 C cl fp pins s1 I) fun b s3 ⟨H5, I5, t5, f5⟩ => ⟨H5, I5, ?_⟩
    cases b with
    | true =>
      rw [if_pos rfl]
      have t5 := t5 rfl
      intro s H0 C cl fp pins s1 I
      refine thn (t5 s H0 C cl fp pins s1 I) fun u s3 ⟨v, H5, I5, r5, s5, d, e5, rp⟩ => ⟨v, H5, I5, r5, ?_⟩
      obtain ⟨acc, h1, h2, h3⟩ := h.more hD s5 e5 him rp
      exact ⟨acc, h1, by rw [h2]; exact Nat.lt_of_le_of_lt (bits_len _ _) (by omega), h3⟩
    | false =>
      rw [if_neg Bool.false_ne_true]
      obtain ⟨s5, e5⟩ := f5 rfl
      exact h.skip s5 e5
  · obtain ⟨acc, h1, h2⟩ := h.l
    exact hq Dl H2 acc h.s hD h1 h2
/-! ### two clauses -/
def BI (X : Cx) (scope : Scope) (tg iter : Expr) (σ : Sl) (H : Hp) (R : It → Hp → Prop) : Prop := ∀ (s : Shared) (H0 : Hp) (C : Addr) (cl : List (Str × Addr)) (fp : List Addr), QI (X.blk s H0 scope (compEnvC scope cl C X.env) fp) tg iter σ H R
def QL2 (X : Cx) (elt tg iter tg1 iter1 : Expr) (ifs ifs1 : List Expr) (scope : Scope) (vs vs1 : List Nat) (σ : Sl) (H : Hp) (Q : VK) : Prop :=
  tLc2 (QI X tg iter) (BG X scope tg) (QT1 X scope ifs) (BI X scope tg1 iter1) (BG X scope tg1) (QT1 X scope ifs1) (BE X scope elt) vs vs1 σ H Q
theorem we_lc2 {elt tg1 iter1 : Expr} {ifs ifs1 : List Expr} {scope : Scope} {own : List (Str × Nat)} {vs vs1 : List Nat} {Q : VK} (hv : own.map (·.2) = vs) (hv1 : ∀ i ∈ vs1, i ∈ own.map (·.2)) (hc : X.calm = true) (nd : X.N.Nodup) (ok : BlkOk X.N X.env.scope scope own) (hs : ∀ x, foldedSetIterable iter X.env x = pure x) (hs1 : ∀ env x, foldedSetIterable iter1 env x = pure x)
    (q : QL2 X elt tg iter tg1 iter1 ifs ifs1 scope vs vs1 σ H Q) : QE X (.ListComp elt [⟨tg, iter, ifs, 0⟩, ⟨tg1, iter1, ifs1, 0⟩] scope pos) σ H Q := by
  subst hv
  exact we_of (pe_lc2 hc nd pi_sem ok hv1 (g := BG X scope tg) (tt := QT1 X scope ifs) (wi1 := BI X scope tg1 iter1) (g1 := BG X scope tg1) (tt1 := QT1 X scope ifs1) (te := BE X scope elt) (fun s H0 C cl fp => ⟨fun pins s1 σ1 H2 v u Q1 I r h => h s H0 C cl fp pins s1 u I r⟩) (pts_1 ifs)
    (fun s H0 C cl fp => ⟨fun pins s1 σ1 H2 R I h => h s H0 C cl fp pins s1 I⟩) (fun s H0 C cl fp => ⟨fun pins s1 σ1 H2 v u Q1 I r h => h s H0 C cl fp pins s1 u I r⟩) (pts_1 ifs1) (fun s H0 C cl fp => ⟨fun pins s1 σ1 H2 Q1 I h => h s H0 C cl fp pins s1 I⟩) hs hs1) q
theorem ws_setLc2 {elt tg1 iter1 : Expr} {ifs ifs1 : List Expr} {scope : Scope} {own : List (Str × Nat)} {vs vs1 : List Nat} {D : Ends} {y : Str} {j : Nat} {py spos : Pos} (hv : own.map (·.2) = vs) (hv1 : ∀ i ∈ vs1, i ∈ own.map (·.2)) (hc : X.calm = true) (nd : X.N.Nodup) (hy : X.N[j]? = some y) (hyl : X.env.scope.names.lookup y = some .local)
    (hsw : swapsWith (.ListComp elt [⟨tg, iter, ifs, 0⟩, ⟨tg1, iter1, ifs1, 0⟩] scope pos) (some (.Name y py)) spos.line X.env = pure true) (ok : BlkOk X.N X.env.scope scope own) (hs : ∀ x, foldedSetIterable iter X.env x = pure x) (hs1 : ∀ env x, foldedSetIterable iter1 env x = pure x)
    (q : QL2 X elt tg iter tg1 iter1 ifs ifs1 scope vs vs1 σ H fun v H1 => D.nx (σ.set j (some v)) H1) : QS X (.Assign [.Name y py] (.ListComp elt [⟨tg, iter, ifs, 0⟩, ⟨tg1, iter1, ifs1, 0⟩] scope pos) spos) D σ H := by
  subst hv
  exact ws_of (ps_setLc2 hc nd hy hyl hsw pi_sem ok hv1 (g := BG X scope tg) (tt := QT1 X scope ifs) (wi1 := BI X scope tg1 iter1) (g1 := BG X scope tg1) (tt1 := QT1 X scope ifs1) (te := BE X scope elt) (fun s H0 C cl fp => ⟨fun pins s1 σ1 H2 v u Q1 I r h => h s H0 C cl fp pins s1 u I r⟩) (pts_1 ifs)
    (fun s H0 C cl fp => ⟨fun pins s1 σ1 H2 R I h => h s H0 C cl fp pins s1 I⟩) (fun s H0 C cl fp => ⟨fun pins s1 σ1 H2 v u Q1 I r h => h s H0 C cl fp pins s1 u I r⟩) (pts_1 ifs1) (fun s H0 C cl fp => ⟨fun pins s1 σ1 H2 Q1 I h => h s H0 C cl fp pins s1 I⟩) hs hs1) q
/-- what the outer turns before i have made -/
def flat (m : Nat → Nat) (F : Nat → Nat → Option D) (i : Nat) : List D := (List.range i).flatMap fun i => bits (m i) (F i)
theorem flat_succ (m : Nat → Nat) (F : Nat → Nat → Option D) (i : Nat) : flat m F (i + 1) = flat m F i ++ bits (m i) (F i) := by
  unfold flat
  rw [List.range_succ, List.flatMap_append]
  simp
theorem flat_len (m : Nat → Nat) (F : Nat → Nat → Option D) (M : Nat) : ∀ i, (∀ k, k < i → m k ≤ M) → (flat m F i).length ≤ i * M
  | 0, _ => by simp [flat]
  | i + 1, h => by
    rw [flat_succ, List.length_append, Nat.succ_mul]
    have := flat_len m F M i fun k hk => h k (by omega)
    have := bits_len (m i) (F i)
    have := h i (by omega)
    omega
theorem flat_im {m : Nat → Nat} {F : Nat → Nat → Option D} (him : ∀ i j d, F i j = some d → d.im = true) (i j k : Nat) : imAll (flat m F i ++ bits j (F k)) = true := by
  rw [imAll_iff]
  intro d hd
  have aux : ∀ n i, d ∈ bits n (F i) → d.im = true := fun n i h => by
    unfold bits at h
    rw [List.mem_filterMap] at h
    obtain ⟨j, _, hj⟩ := h
    exact him i j d hj
  rw [List.mem_append] at hd
  rcases hd with hd | hd
  · unfold flat at hd
    rw [List.mem_flatMap] at hd
    obtain ⟨i, _, h⟩ := hd
    exact aux _ _ h
  · exact aux _ _ hd
structure LcL (K : PySem.W.Frag) (H1 : Hp) (Dl : Addr) (L : List D) (H : Hp) : Prop where
  s : Same H1 H
  l : ∃ acc, H Dl = some (.lst acc) ∧ RpAll K H acc L
theorem LcL.to {K : PySem.W.Frag} {H1 H H' : Hp} {Dl : Addr} {L : List D} (h : LcL K H1 Dl L H) (s : Same H H') : LcL K H1 Dl L H' := by
  obtain ⟨acc, h1, h2⟩ := h.l
  exact ⟨h.s.trans s, acc, s _ _ h1, h2.to s⟩
theorem LcL.more {K : PySem.W.Frag} {H1 H : Hp} {Dl : Addr} {L : List D} {y : V} {d : D} (h : LcL K H1 Dl L H) (h0 : H1 Dl = none) (him : imAll L = true) (hd : d.im = true) (r : Rp K H y d) :
    ∃ acc, H Dl = some (.lst acc) ∧ acc.length = L.length ∧ LcL K H1 Dl (L ++ [d]) (upd H Dl (.lst (acc ++ [y]))) := by
  obtain ⟨acc, h1, h2⟩ := h.l
  have hk : ∀ b o, b ≠ Dl → H b = some o → (upd H Dl (.lst (acc ++ [y]))) b = some o := fun b o n q => by rw [upd_ne n]; exact q
  refine ⟨acc, h1, h2.len, ⟨fun b o q => ?_, acc ++ [y], upd_same, ?_⟩⟩
  · rw [upd_ne (ne_of_none q h0)]
    exact h.s _ _ q
  · exact (RpAll.keep ⟨acc, h1⟩ hk _ _ him h2).snoc (Rp.keep ⟨acc, h1⟩ hk _ _ hd r)
/-- all but one list as it was -/
def Kp (H H' : Hp) : Prop := ∃ p, Lst H p ∧ ∀ b o, b ≠ p → H b = some o → H' b = some o
theorem Kp.rp {K : PySem.W.Frag} {H H' : Hp} {v : V} {d : D} (k : Kp H H') (h : Rp K H v d) (m : d.im = true) : Rp K H' v d := by
  obtain ⟨p, l, s⟩ := k
  exact Rp.keep l s d v m h
theorem Kp.rpA {K : PySem.W.Frag} {H H' : Hp} {v : List V} {d : List D} (k : Kp H H') (h : RpAll K H v d) (m : imAll d = true) : RpAll K H' v d := by
  obtain ⟨p, l, s⟩ := k
  exact RpAll.keep l s d v m h
/-- [elt for tg in iter for tg1 in iter1 (if c)]: F i j tells what the turn j in turn i brings -/
theorem ql_lc2 {elt tg1 iter1 : Expr} {ifs1 : List Expr} {scope : Scope} {vs vs1 : List Nat} {Q : VK} {σw : Sl} (hw : wipe σ vs = σw)
    (q : QI X tg iter σ H fun J H1 => ∃ (n : Nat) (G : Hp → Prop) (Y : Nat → Hp → V → Hp → Prop), Walk J n G Y ∧ (∀ H', Same H1 H' → G H') ∧ ∃ (m : Nat → Nat) (M : Nat) (F : Nat → Nat → Option D), n * M < sizeLine ∧ (∀ i, i < n → m i ≤ M) ∧ (∀ i j d, F i j = some d → d.im = true) ∧
      (∀ i x H2 H3, i < n → Same H1 H2 → Y i H2 x H3 → BG X scope tg x σw H3 fun σ2 H4 => wipe σ2 vs = σw ∧ BI X scope tg1 iter1 σ2 H4 fun J1 H5 => Same H2 H5 ∧ ∃ (G1 : Hp → Prop) (Y1 : Nat → Hp → V → Hp → Prop), Walk J1 (m i) G1 Y1 ∧ (∀ H', Same H1 H' → Kp H5 H' → G1 H') ∧
        ∀ j y H6 H7, j < m i → Same H1 H6 → Kp H5 H6 → Y1 j H6 y H7 → BG X scope tg1 y (wipe σ2 vs1) H7 fun σ3 H8 => wipe σ3 vs1 = wipe σ2 vs1 ∧
          QT1 X scope ifs1 σ3 H8 fun b H9 => (b = true → BE X scope elt σ3 H9 fun z H10 => Same H6 H10 ∧ ∃ d, F i j = some d ∧ Rp X.K H10 z d) ∧ (b = false → Same H6 H9 ∧ F i j = none)) ∧
      (∀ p H2 ys, Same H1 H2 → H1 p = none → H2 p = some (.lst ys) → RpAll X.K H2 ys (flat m F n) → Q (.ref p) H2)) : QL2 X elt tg iter tg1 iter1 [] ifs1 scope vs vs1 σ H Q := by
  show QI X tg iter σ H _
  refine q.imp fun J H1 ⟨n, G, Y, w, hG, m, M, F, hz, hm, him, hb, hq⟩ Dl hD => ?_
  refine ⟨fun i k H => k = n - i ∧ i ≤ n ∧ LcL X.K H1 Dl (flat m F i) H, ⟨n, by simp, Nat.zero_le _, ⟨same_new hD, [], upd_same, .nil⟩⟩, ?_⟩
  rintro i k H2 ⟨rfl, hi, p⟩
  by_cases hlt : i < n
  · refine .inr ⟨w.goes i H2 hlt (hG _ p.s), fun H' => LcL X.K H1 Dl (flat m F (i + 1)) H', fun H' p' => ⟨n - (i + 1), by omega, rfl, hlt, p'⟩, fun x H3 y => ?_⟩
    rw [hw]
    have hb' := hb i x H2 H3 hlt p.s (w.yields i H2 x H3 hlt (hG _ p.s) y)
    intro s H0 C cl fp pins s1 u I r
    refine thn (hb' s H0 C cl fp pins s1 u I r) fun _ s2 ⟨σ2, H4, I4, e4, b4⟩ => ⟨σ2, H4, I4, e4, ?_⟩
    delta QT1 tYes
    dsimp only
    rw [if_pos rfl]
    intro s H0 C cl fp pins s1 I
    refine thn (b4 s H0 C cl fp pins s1 I) fun v s3 h3 => ?_
    refine thn h3 fun itv s4 ⟨it, fp', tn, J1, H5, e, J2, T, t0, f, s5, G1, Y1, w1, hG1, hb1⟩ => ⟨it, fp', tn, J1, H5, e, J2, T, t0, f, ?_⟩
    obtain ⟨acc5, l5, _⟩ := (p.to s5).l
    refine ⟨fun j k H => k = m i - j ∧ j ≤ m i ∧ (∀ b o, b ≠ Dl → H5 b = some o → H b = some o) ∧ LcL X.K H1 Dl (flat m F i ++ bits j (F i)) H, ⟨m i, by simp, Nat.zero_le _, fun _ _ _ e => e, by simpa [bits] using p.to s5⟩, ?_⟩
    rintro j k H6 ⟨rfl, hj, s6, p6⟩
    by_cases hjlt : j < m i
    · refine .inr ⟨w1.goes j H6 hjlt (hG1 _ p6.s ⟨Dl, ⟨_, l5⟩, s6⟩), fun H' => (∀ b o, b ≠ Dl → H5 b = some o → H' b = some o) ∧ LcL X.K H1 Dl (flat m F i ++ bits (j + 1) (F i)) H', fun H' p' => ⟨m i - (j + 1), by omega, rfl, hjlt, p'.1, p'.2⟩, fun y H7 yy => ?_⟩
      have hb2 := hb1 j y H6 H7 hjlt p6.s ⟨Dl, ⟨_, l5⟩, s6⟩ (w1.yields j H6 y H7 hjlt (hG1 _ p6.s ⟨Dl, ⟨_, l5⟩, s6⟩) yy)
      intro s H0 C cl fp pins s1 u I r
      refine thn (hb2 s H0 C cl fp pins s1 u I r) fun _ s2 ⟨σ3, H8, I8, e8, b8⟩ => ⟨σ3, H8, I8, e8, ?_⟩
      have go : ∀ (b : Bool) (H9 : Hp), ((b = true → BE X scope elt σ3 H9 fun z H10 => Same H6 H10 ∧ ∃ d, F i j = some d ∧ Rp X.K H10 z d) ∧ (b = false → Same H6 H9 ∧ F i j = none)) →
          if b = true then BE X scope elt σ3 H9 fun y H7 => ∃ acc, H7 Dl = some (.lst acc) ∧ acc.length < sizeLine ∧ ((∀ b o, b ≠ Dl → H5 b = some o → (upd H7 Dl (.lst (acc ++ [y]))) b = some o) ∧ LcL X.K H1 Dl (flat m F i ++ bits (j + 1) (F i)) (upd H7 Dl (.lst (acc ++ [y])))) else ((∀ b o, b ≠ Dl → H5 b = some o → H9 b = some o) ∧ LcL X.K H1 Dl (flat m F i ++ bits (j + 1) (F i)) H9) := by
        intro b H9 ⟨t9, f9⟩
        cases b with
        | true =>
          rw [if_pos rfl]
          have t9 := t9 rfl
          intro s H0 C cl fp pins s1 I
          refine thn (t9 s H0 C cl fp pins s1 I) fun u s3 ⟨z, H10, I10, r10, s10, d, ed, rp⟩ => ⟨z, H10, I10, r10, ?_⟩
          obtain ⟨acc, g1, g2, g3⟩ := (p6.to s10).more hD (flat_im him i j i) (him _ _ _ ed) rp
          refine ⟨acc, g1, ?_, ?_, ?_⟩
          · rw [g2, List.length_append]
            have a1 := flat_len m F M i fun k hk => hm k (by omega)
            have a2 := bits_len j (F i)
            have a3 := hm i hlt
            have a4 : i * M + M ≤ n * M := by
              rw [← Nat.succ_mul]
              exact Nat.mul_le_mul_right _ hlt
            omega
          · intro b o hb e
            rw [upd_ne hb]
            exact s10 _ _ (s6 b o hb e)
          · rw [bits_succ, ed, ← List.append_assoc]
            exact g3
        | false =>
          rw [if_neg Bool.false_ne_true]
          obtain ⟨s9, e9⟩ := f9 rfl
          refine ⟨fun b o hb e => s9 _ _ (s6 b o hb e), ?_⟩
          rw [bits_succ, e9]
          simpa using p6.to s9
      cases ifs1 with
      | nil => exact go true H8 b8
      | cons c r =>
        cases r with
        | nil =>
          intro s H0 C cl fp pins s1 I
          refine thn (b8 s H0 C cl fp pins s1 I) fun b s3 ⟨H9, I9, b9⟩ => ⟨H9, I9, go b H9 b9⟩
        | cons _ _ => exact b8.elim
    · have e : j = m i := by omega
      subst e
      refine .inl ⟨w1.stops H6 (hG1 _ p6.s ⟨Dl, ⟨_, l5⟩, s6⟩), ?_⟩
      rw [flat_succ]
      exact p6
  · have e : i = n := by omega
    subst e
    obtain ⟨acc, h1, h2⟩ := p.l
    exact .inl ⟨w.stops H2 (hG _ p.s), hq Dl H2 acc p.s hD h1 h2⟩
end
end Sx

/-! St: try with several clauses, some of them with a name; raise. -/
namespace Sx
open PySem PySem.Spec PyProof.Rows L2

abbrev TSu := Addr → Value → Option Addr → TS
/-- the ends of a suite whose name (slot i) is struck behind it -/
def Ends.strike (E : Ends) (i : Nat) : Ends := { nx := fun σ H => E.nx (σ.set i none) H, rt := E.rt, bk := fun σ H => E.bk (σ.set i none) H, ct := fun σ H => E.ct (σ.set i none) H }
/-- what the clauses wish of an exception, one after another -/
def wMix (K : PySem.W.Frag) (W0 : WX) (E : Ends) : List (Value × Option Nat × TSu) → WX
  | [] => W0
  | (c, none, ts) :: r => fun k d σ H => ∃ b, PySem.W.exmOne K k c = some b ∧ (b = true → ∀ a, H a = none → ts a k d E σ H) ∧ (b = false → wMix K W0 E r k d σ H)
  | (c, some i, ts) :: r => fun k d σ H => ∃ b, PySem.W.exmOne K k c = some b ∧ (b = true → ∀ a, H a = none → ts a k d (Ends.strike E i) (σ.set i (some (.ref a))) H) ∧ (b = false → wMix K W0 E r k d σ H)
inductive Clauses (X : Cx) : List ExceptHandler → List (Value × Option Nat × TSu) → Prop
  | nil : Clauses X [] []
  | bare {x : Str} {c : Value} {ts : TSu} {b0 : Stmt} {su : List Stmt} {np ps : Pos} {hs : List ExceptHandler} {l : List (Value × Option Nat × TSu)} (hc : Names X x c)
      (hu : ∀ (a : Addr) (o : Obj) (k : Value) (d : Option Addr) (pn : List (Addr × Obj)), Zc k d o → (∃ vs, o.data = .fields vs) → PSs (X.suite a ((a, o) :: pn)) (b0 :: su) (ts a k d)) (r : Clauses X hs l) :
      Clauses X (.ExceptHandler (some (.Name x np)) none (b0 :: su) ps :: hs) ((c, none, ts) :: l)
  | as {x n : Str} {i : Nat} {c : Value} {ts : TSu} {b0 : Stmt} {su : List Stmt} {np ps : Pos} {hs : List ExceptHandler} {l : List (Value × Option Nat × TSu)} (hc : Names X x c) (nd : X.N.Nodup) (hi : X.N[i]? = some n) (hl : X.env.kindOf n = some .local)
      (hu : ∀ (a : Addr) (o : Obj) (k : Value) (d : Option Addr) (pn : List (Addr × Obj)), Zc k d o → (∃ vs, o.data = .fields vs) → PSs (X.suite a ((a, o) :: pn)) (b0 :: su) (ts a k d)) (r : Clauses X hs l) :
      Clauses X (.ExceptHandler (some (.Name x np)) (some n) (b0 :: su) ps :: hs) ((c, some i, ts) :: l)
section
variable {X : Cx} {body : List Stmt} {h1 : ExceptHandler} {hs : List ExceptHandler} {l : List (Value × Option Nat × TSu)} {pos : Pos} {tb : WX → TS} {W0 : WX}
theorem ps_mix (hst : X.stack = X.env :: X.outer) (hfr0 : X.env.frame = some X.env.locals) (tk : Takes X W0)
    (hb : ∀ (W : WX) (pn : List (Addr × Obj)) (xe : Value → Shared → Prop), Takes (X.tr pn xe) W → PassesOwn (model X.prog X.w) X.A X.env xe → PSs (X.tr pn xe) body (tb W))
    (hh : Clauses X (h1 :: hs) l) : PS X (.Try body (h1 :: hs) [] [] pos) (fun E σ H => tb (wMix X.K W0 E l) E σ H) := by
  refine ⟨fun pins s σ H E I hw => ?_⟩
  have ok := I.ok
  have fr : X.A.frames = some (X.env :: X.outer) := ok.frames.trans (by rw [hst])
  refine wpAny_Try_except (wpAny_mono ((hb (wMix X.K W0 E l) (X.pn ++ pins) (fun e z1 => wpAny (model X.prog X.w) X.A (noteFrame e X.env) (fun _ z2 => wpAny (model X.prog X.w) X.A (setFlight e none) (fun _ z3 =>
    wpAny (model X.prog X.w) X.A (handleBy e X.env (h1 :: hs)) (SP X pins E) X.xe z3) X.xe z2) X.xe z1) (fun u z xx => ?_) PassesOwn.looking).run [] s σ H E (I.toTry _) hw) (fun f z hz => ?_) fun _ _ he => he)
  · obtain ⟨a, B, sI, pi2, τ, H', k, d, rfl, J', nb, up, sky, na, os, ag, wi⟩ := xx
    have J : Inv X pins τ H' sI := J'.ofTry ok
    have sky2 : Sky B (X.env :: X.outer) a (Zc k d) X.env.locals z.heap := by rw [hst] at sky; exact sky
    show wpAny (model X.prog X.w) X.A (noteFrame (.ref a) X.env) _ _ _
    refine Sky.land Zc.steady fr hfr0 sky2 fun g fl upg => ?_
    have Jg : Inv X pins τ H' { z with heap := g } := J.landed nb fl.1 (up.trans upg) os ag
    obtain ⟨og, vg, hog, hzg, hdg⟩ := fl.there
    have noFrame : a ∉ frs (X.env :: X.outer) := fun hm => by
      obtain ⟨_, o', e', q⟩ := fl.2.2.1.mem hm
      rw [hog] at e'
      cases e'
      exact q _ hdg
    have nL : a ≠ X.env.locals := fun q => noFrame (List.mem_filterMap.mpr ⟨X.env, List.mem_cons_self, by rw [hfr0, q]⟩)
    have nF : a ∉ X.fs := fun hm => by
      obtain ⟨e, he, q⟩ := List.mem_filterMap.mp hm
      exact noFrame (List.mem_filterMap.mpr ⟨e, List.mem_cons_of_mem _ he, q⟩)
    have Sg := Jg.suite hog hdg na nL nF
    have LT : PySem.W.Looks (model X.prog X.w) g (typeOf (.ref a)) k := fun A Q E' s' kk q => wpAny_typeOf_ref (kk _ _ hog) (by rw [hzg.1]; exact q)
    have look : ∀ {x : Str} {c : Value} {np : Pos} {Q : Value → Shared → Prop} {E' : Value → Shared → Prop}, Names X x c → Q c { z with heap := g } → wpAny (model X.prog X.w) (X.A.mark (some (.ref a))) (eval (.Name x np) X.env) Q E' { z with heap := g } := fun {x c np Q E'} hc q => by
      obtain ⟨hg, hdb, hm | ⟨hm, hv, hnn⟩⟩ := hc
      · exact ld_glob (X := X.suite a ((a, og) :: (X.pn ++ pins))) Sg hg hm q hdb
      · exact ld_blt (X := X.suite a ((a, og) :: (X.pn ++ pins))) Sg hg hm hv q hnn hdb
    have go : ∀ {hs' : List ExceptHandler} {l' : List (Value × Option Nat × TSu)}, Clauses X hs' l' → wMix X.K W0 E l' k d τ H' → wpAny (model X.prog X.w) X.A (handleBy (.ref a) X.env hs') (SP X pins E) X.xe { z with heap := g } := by
      intro hs' l' hk
      induction hk with
      | nil =>
        intro wi
        refine wpAny_handleBy_nil ?_
        obtain ⟨_, _, _, oe, vs, T, _, _, he, _, hd, hT, _⟩ := id fl
        unfold PySem.passOn
        refine wpAny_bind (wpAny_field he hd hT ?_)
        rw [if_neg (show ¬ ((Value.ref T == Value.none) = true) from by simp)]
        have fin : wpAny (model X.prog X.w) X.A (setFlight (.ref a) X.env.frame) (fun _ z4 => wpAny (model X.prog X.w) X.A (throw (.ref a) : Sem Flow) (SP X pins E) X.xe z4) X.xe { z with heap := g } := by
          rw [hfr0]
          exact HandSPX.setFlight_upZ fl fun h4 hh4 up4 => wpAny_throw (tk _ _ ⟨a, B, sI, pins, τ, H', k, d, rfl, J, nb, (up.trans upg).trans up4, .inr (.inr (by rw [hst]; exact hh4)), na, os, ag, wi⟩)
        first | exact wpAny_bind (wpAny_pure (wpAny_bind fin)) | exact wpAny_bind fin
      | @bare x c ts b0 su np ps hs2 l2 hc hu r ih =>
        intro wi
        obtain ⟨b, e1, yes, no⟩ := wi
        refine wpAny_handleBy_cons (codeAny_handlers_test (look hc ((PySem.W.exm_one (M := model X.prog X.w) Jg.kIn LT e1).here ?_))) (fun q => by cases q)
        cases b with
        | false => exact ih (no rfl)
        | true =>
          refine codeAny_handlers_suite (HandSPX.lands_againZ fl fun h4 fl4 up4 => ?_)
          have J4 : Inv X pins τ H' { z with heap := h4 } := J.landed nb fl4.1 ((up.trans upg).trans up4) os ag
          obtain ⟨o4, v4, he4, hz4, hd4⟩ := fl4.there
          refine wpAny_mono ((hu a o4 k d (X.pn ++ pins) hz4 ⟨_, hd4⟩).run [] _ _ H' _ (J4.suite he4 hd4 na nL nF) (yes rfl a na)) (fun f z6 hz6 => ?_) fun _ _ q => q.elim
          cases f with
          | next => obtain ⟨σ6, H6, S6, q6⟩ := hz6; exact ⟨_, _, S6.unsuite ok, q6⟩
          | brk => obtain ⟨σ6, H6, S6, q6⟩ := hz6; exact ⟨_, _, S6.unsuite ok, q6⟩
          | cont => obtain ⟨σ6, H6, S6, q6⟩ := hz6; exact ⟨_, _, S6.unsuite ok, q6⟩
          | ret u => obtain ⟨v6, σ6, H6, S6, r6, q6⟩ := hz6; exact ⟨_, _, _, S6.unsuite ok, r6, q6⟩
      | @as x n i c ts b0 su np ps hs2 l2 hc nd hi hl hu r ih =>
        intro wi
        obtain ⟨b, e1, yes, no⟩ := wi
        refine wpAny_handleBy_cons (codeAny_handlers_test (look hc ((PySem.W.exm_one (M := model X.prog X.w) Jg.kIn LT e1).here ?_))) (fun q => by cases q)
        cases b with
        | false => exact ih (no rfl)
        | true =>
          refine codeAny_handlers_suite_as (HandSPX.lands_againZ fl fun h4 fl4 up4 => ?_)
          have J4 : Inv X pins τ H' { z with heap := h4 } := J.landed nb fl4.1 ((up.trans upg).trans up4) os ag
          obtain ⟨o4, v4, he4, hz4, hd4⟩ := fl4.there
          refine store_ok (X := X.suite a ((a, o4) :: (X.pn ++ pins))) (v := .ref a) (J4.suite he4 hd4 na nL nF) nd hi (.inl hl) rfl (fun s5 S5 => ?_) (.inr hl)
          refine wpAny_mono ((hu a o4 k d (X.pn ++ pins) hz4 ⟨_, hd4⟩).run [] s5 _ H' _ S5 (yes rfl a na)) (fun f z6 hz6 => ?_) fun _ _ q => q.elim
          have off : ∀ {σ6 : Sl} {H6 : Hp} {Q : Shared → Prop}, Inv (X.suite a ((a, o4) :: (X.pn ++ pins))) [] σ6 H6 z6 → (∀ z7, Inv X pins (σ6.set i none) H6 z7 → Q z7) →
              wpAny (model X.prog X.w) X.A (do bindName X.env n .none; unbindBehindTheSuite X.env n ps) (fun _ z7 => Q z7) X.xe z6 := fun {σ6 H6 Q} S6 q => gone_ok (S6.unsuite ok) nd hi hl q
          cases f with
          | next => obtain ⟨σ6, H6, S6, q6⟩ := hz6; exact off S6 fun z7 J7 => ⟨_, _, J7, q6⟩
          | brk => obtain ⟨σ6, H6, S6, q6⟩ := hz6; exact off S6 fun z7 J7 => ⟨_, _, J7, q6⟩
          | cont => obtain ⟨σ6, H6, S6, q6⟩ := hz6; exact off S6 fun z7 J7 => ⟨_, _, J7, q6⟩
          | ret u => obtain ⟨v6, σ6, H6, S6, r6, q6⟩ := hz6; exact off S6 fun z7 J7 => ⟨_, _, _, J7, r6, q6⟩
    exact go hh wi
  · cases f with
    | next => obtain ⟨τ, H', J', q⟩ := hz; exact wpAny_execs_nil ⟨τ, H', J'.ofTry ok, q⟩
    | brk => obtain ⟨τ, H', J', q⟩ := hz; exact ⟨τ, H', J'.ofTry ok, q⟩
    | cont => obtain ⟨τ, H', J', q⟩ := hz; exact ⟨τ, H', J'.ofTry ok, q⟩
    | ret u => obtain ⟨v, τ, H', J', r, q⟩ := hz; exact ⟨v, τ, H', J'.ofTry ok, r, q⟩
end
end Sx

/-! Sr: rules for containers, subscripts, calls that raise. -/
namespace Sx
open PySem PySem.Spec PyProof.Rows L2

section
variable {K : PySem.W.Frag} {H : Hp}
theorem RpAll.ats : ∀ {vs : List V} {ds : List D} {i : Int} {d : D}, RpAll K H vs ds → atI ds i = some d → ∃ v, atI vs i = some v ∧ Rp K H v d := by
  intro vs ds i d h e
  unfold atI at e ⊢
  rw [h.len]
  cases w : ixN ds.length i with
  | none => rw [w] at e; cases e
  | some j =>
    rw [w] at e
    exact h.getD' e
theorem Rp.tup_inv {v : V} {ds : List D} (h : Rp K H v (.tup ds)) : ∃ a xs, v = .ref a ∧ SqT K H a xs ∧ RpAll K H xs ds := by
  cases h with
  | tup h1 h2 => exact ⟨_, _, rfl, h1, h2⟩
theorem Rp.lst_inv {v : V} {ds : List D} (h : Rp K H v (.lst ds)) : ∃ a xs, v = .ref a ∧ SqL K H a xs ∧ RpAll K H xs ds := by
  cases h with
  | lst h1 h2 => exact ⟨_, _, rfl, h1, h2⟩
theorem Rp.int_inv {v : V} {i : Int} (h : Rp K H v (.int i)) : v = .int i := by cases h; rfl
theorem Rp.bl_inv {v : V} {i : Bool} (h : Rp K H v (.bl i)) : v = .bl i := by cases h; rfl
theorem Rp.str_inv {v : V} {i : Str} (h : Rp K H v (.str i)) : v = .str i := by cases h; rfl
theorem Rp.non_inv {v : V} (h : Rp K H v .non) : v = .non := by cases h; rfl
theorem Rp.tupOf {a : Addr} {xs : List V} {ds : List D} (h : H a = some (.tup xs)) (r : RpAll K H xs ds) : Rp K H (.ref a) (.tup ds) := .tup (.inl (.inl h)) r
theorem Rp.lstOf {a : Addr} {xs : List V} {ds : List D} (h : H a = some (.lst xs)) (r : RpAll K H xs ds) : Rp K H (.ref a) (.lst ds) := .lst (.inl (.inl h)) r
end

section
variable (X : Cx)
def IxW (x y : V) (H : Hp) (Q : VK) : Prop := ∀ (value slice : Expr) (pins : List (Addr × Obj)) (s : Shared) (σ : Sl) (v u : Value), Inv X pins σ H s → RelV x v → RelV y u →
  subscripted slice false v u = operate [v, u] (getItem v u) → wpAny (model X.prog X.w) X.A (subscriptTail value slice v u) (EP X pins σ Q) X.xe s
def SetW (o i v : V) (H : Hp) (Q : Hp → Prop) : Prop := ∀ (pins : List (Addr × Obj)) (s : Shared) (σ : Sl) (ov iv u : Value), Inv X pins σ H s → RelV o ov → RelV i iv → RelV v u → wpAny (model X.prog X.w) X.A (setItem ov iv u) (fun _ s' => ∃ H', Inv X pins σ H' s' ∧ Q H') X.xe s
end
section
variable {X : Cx} {a b : Expr} {σ : Sl} {H : Hp} {Q : VK} {x y v w : V} {pos p : Pos} {d d' : D} {ds es : List D}
theorem ix_sem : IxR X (IxW X) := fun value slice pins s σ _ _ _ v u _ I rx ry h hs => h value slice pins s σ v u I rx ry hs
theorem we_ix (hs : PlainIx b) (q : QE X a σ H fun x H1 => QE X b σ H1 fun y H2 => IxW X x y H2 Q) : QE X (.Subscript a b pos) σ H Q := we_of (pe_ix ix_sem pe_sem pe_sem hs) q
theorem ixw_of {r : R2} (h : IxR X r) (q : r x y H Q) : IxW X x y H Q := fun value slice pins s σ v u I rx ry hs => h value slice pins s σ H x y v u Q I rx ry q hs
theorem ixw_tup {i : Int} (h : Rp X.K H x (.tup ds)) (e : atI ds i = some d) (q : ∀ v, Rp X.K H v d → Q v H) : IxW X x (.int i) H Q := by
  obtain ⟨a, xs, rfl, h1, h2⟩ := h.tup_inv
  obtain ⟨v, h3, h4⟩ := h2.ats e
  exact ixw_of ix_tup ⟨a, xs, i, v, rfl, rfl, h1, h3, q v h4⟩
theorem ixw_lst {i : Int} (h : Rp X.K H x (.lst ds)) (e : atI ds i = some d) (q : ∀ v, Rp X.K H v d → Q v H) : IxW X x (.int i) H Q := by
  obtain ⟨a, xs, rfl, h1, h2⟩ := h.lst_inv
  obtain ⟨v, h3, h4⟩ := h2.ats e
  exact ixw_of ix_list ⟨a, xs, i, v, rfl, rfl, h1, h3, q v h4⟩
theorem ixw_sl {i : Int} {a : Addr} {xs : List V} {v : V} (h : SqL X.K H a xs) (e : atI xs i = some v) (q : Q v H) : IxW X (.ref a) (.int i) H Q := ixw_of ix_list ⟨a, xs, i, v, rfl, rfl, h, e, q⟩
theorem ixw_st {i : Int} {a : Addr} {xs : List V} {v : V} (h : SqT X.K H a xs) (e : atI xs i = some v) (q : Q v H) : IxW X (.ref a) (.int i) H Q := ixw_of ix_tup ⟨a, xs, i, v, rfl, rfl, h, e, q⟩
/-! xs[i] = v -/
theorem set_sem : PSet X (SetW X) := fun pins s σ H o i v ov iv u Q I ro ri rv h => h pins s σ ov iv u I ro ri rv
theorem wg_sub {o i : Expr} {Q : Sl → Hp → Prop} (ha : ∀ v, assign (.Subscript o i pos) X.env v = (do
      let ov ← holding [v] (eval o X.env)
      let iv ← holding [v, ov] (eval i X.env)
      standAt pos
      holding [v, ov, iv] (setItem ov iv v)
      release [v, ov, iv] [])) (q : QE X o σ H fun x H1 => QE X i σ H1 fun y H2 => SetW X x y v H2 (Q σ)) : QG X (.Subscript o i pos) v σ H Q :=
  wg_of (pg_sub pe_sem pe_sem set_sem ha) q
theorem setw_lst {o : Addr} {xs : List V} {k : Int} {j : Nat} {Q : Hp → Prop} (h : H o = some (.lst xs)) (e : ixN xs.length k = some j) (q : Q (upd H o (.lst (xs.set j v)))) : SetW X (.ref o) (.int k) v H Q :=
  fun pins s σ ov iv u I ro ri rv => set_list pins s σ H (.ref o) (.int k) v ov iv u Q I ro ri rv ⟨o, xs, k, j, rfl, rfl, h, e, q⟩
/-! ### len, concat, conversions, all, any, sum -/
theorem callw_len_t (h : Rp X.K H x (.tup ds)) (q : Q (.int ds.length) H) : CallW X (.builtin "len") [x] H Q := by
  obtain ⟨a, xs, rfl, h1, h2⟩ := h.tup_inv
  refine callw_of call_len ⟨.ref a, xs.length, rfl, ?_, by rw [h2.len]; exact q⟩
  exact .inr ⟨xs, h1, rfl⟩
theorem callw_len_l (h : Rp X.K H x (.lst ds)) (q : Q (.int ds.length) H) : CallW X (.builtin "len") [x] H Q := by
  obtain ⟨a, xs, rfl, h1, h2⟩ := h.lst_inv
  refine callw_of call_len ⟨.ref a, xs.length, rfl, ?_, by rw [h2.len]; exact q⟩
  exact .inl ⟨xs, h1, rfl⟩
theorem callw_all {a : Addr} {xs : List V} {bs : List Bool} (hc : X.calm = true) (h : H a = some (.lst xs)) (r : RpAll X.K H xs (bs.map D.bl)) (q : Q (.bl (bs.all id)) H) : CallW X (.builtin "all") [.ref a] H Q := by
  refine callw_of (cr_all hc) ⟨a, bs, rfl, ?_, q⟩
  rw [← r.bls_inv]
  exact .inl (.inl h)
theorem callw_any {a : Addr} {xs : List V} {bs : List Bool} (hc : X.calm = true) (h : H a = some (.lst xs)) (r : RpAll X.K H xs (bs.map D.bl)) (q : Q (.bl (bs.any id)) H) : CallW X (.builtin "any") [.ref a] H Q := by
  refine callw_of (cr_any hc) ⟨a, bs, rfl, ?_, q⟩
  rw [← r.bls_inv]
  exact .inl (.inl h)
theorem callw_sum {a : Addr} {xs : List V} {ns : List Int} (hc : X.calm = true) (h : H a = some (.lst xs)) (r : RpAll X.K H xs (ns.map D.int)) (q : Q (.int ns.sum) H) : CallW X (.builtin "sum") [.ref a] H Q := by
  refine callw_of (cr_sum hc) ⟨a, ns, rfl, ?_, q⟩
  rw [← r.ints_inv]
  exact .inl (.inl h)
theorem callw_tuple_t (h : Rp X.K H x (.tup ds)) (q : Q x H) : CallW X (.type "tuple") [x] H Q := by
  obtain ⟨a, xs, rfl, h1, h2⟩ := h.tup_inv
  exact callw_of call_tuple_of ⟨a, xs, rfl, .inr ⟨h1, q⟩⟩
theorem callw_tuple_l (h : Rp X.K H x (.lst ds)) (q : ∀ v H', Same H H' → Rp X.K H' v (.tup ds) → Q v H') : CallW X (.type "tuple") [x] H Q := by
  obtain ⟨a, xs, rfl, h1, h2⟩ := h.lst_inv
  exact callw_of call_tuple_of ⟨a, xs, rfl, .inl ⟨h1, fun l hl => q _ _ (same_new hl) (.tupOf upd_same (h2.to (same_new hl)))⟩⟩
theorem opw_catT (h1 : Rp X.K H x (.tup ds)) (h2 : Rp X.K H y (.tup es)) (hl : ds.length + es.length ≤ sizeLine) (q : ∀ v H', Same H H' → Rp X.K H' v (.tup (ds ++ es)) → Q v H') : OpW X (binaryOp .Add) x y H Q := by
  obtain ⟨a, xs, rfl, h3, h4⟩ := h1.tup_inv
  obtain ⟨b, ys, rfl, h5, h6⟩ := h2.tup_inv
  refine opw_of op_catA ⟨a, b, xs, ys, rfl, rfl, h3, h5, by rw [h4.len, h6.len]; exact hl, fun e => ?_, fun _ e => ?_, fun _ _ p hp => ?_⟩
  · subst e
    cases h4
    exact q _ _ (Same.refl _) h2
  · subst e
    cases h6
    rw [List.append_nil] at q
    exact q _ _ (Same.refl _) h1
  · exact q _ _ (same_new hp) (.tupOf upd_same ((h4.app h6).to (same_new hp)))
theorem opw_catL {a b : Addr} {xs ys : List V} (h1 : H a = some (.lst xs)) (h2 : H b = some (.lst ys)) (hl : xs.length + ys.length ≤ sizeLine) (q : ∀ p H', H p = none → Same H H' → H' p = some (.lst (xs ++ ys)) → Q (.ref p) H') : OpW X (binaryOp .Add) (.ref a) (.ref b) H Q :=
  opw_of op_cat ⟨a, b, xs, ys, rfl, rfl, h1, h2, hl, fun p hp => q _ _ hp (same_new hp) upd_same⟩
theorem callw_strI {i : Int} (hb : i.natAbs.log2 < 1920) (q : Q (.str (toString i)) H) : CallW X (.type "str") [.int i] H Q := callw_of call_str_int ⟨i, rfl, hb, q⟩
theorem we_join {o e : Expr} {apos : Pos} {z : Str} (q : QE X o σ H fun x H1 => x = .str z ∧ QE X e σ H1 fun y H2 => ∃ ys : List Str, (Rp X.K H2 y (.lst (ys.map D.str)) ∨ Rp X.K H2 y (.tup (ys.map D.str))) ∧ (ys.map (·.length)).sum + ys.length * z.length ≤ 16777216 ∧ Q (.str (Txt.join z ys)) H2)
    (hs : starEach [e] X.env = [(false, eval e X.env)]) (hbase : attributeBase o "join" X.env (eval o X.env) = eval o X.env) (hline : (apos.endLine == pos.line) = true) : QE X (.Call (.Attribute o "join" apos) [e] [] pos) σ H Q := by
  refine we_of (pe_join pe_sem pe_sem hs hbase hline) ?_
  intro pins s I
  refine thn (q pins s I) fun u s1 ⟨x, H1, I1, r1, ex, q1⟩ => ⟨x, H1, I1, r1, ⟨z, ex⟩, ?_⟩
  intro pins s I
  refine thn (q1 pins s I) fun u s1 ⟨y, H2, I2, r2, ys, h, hz, q2⟩ => ⟨y, H2, I2, r2, ?_⟩
  rcases h with h | h
  · obtain ⟨a, xs, rfl, h1, h2⟩ := h.lst_inv
    rw [h2.strs_inv] at h1
    exact ⟨z, a, ys, ex, rfl, .inl h1, hz, q2⟩
  · obtain ⟨a, xs, rfl, h1, h2⟩ := h.tup_inv
    rw [h2.strs_inv] at h1
    exact ⟨z, a, ys, ex, rfl, .inr h1, hz, q2⟩
end
/-! ### equality of data: ints, texts, tuples and lists of such -/
mutual
def D.pure : D → Bool
  | .non => true
  | .int _ => true
  | .str x => PyData.strOk x
  | .tup ds => pureAll ds
  | .lst ds => pureAll ds
  | _ => false
def pureAll : List D → Bool
  | [] => true
  | d :: r => d.pure && pureAll r
end
mutual
def D.dep : D → Nat
  | .tup ds => depAll ds + 1
  | .lst ds => depAll ds + 1
  | _ => 0
def depAll : List D → Nat
  | [] => 0
  | d :: r => max d.dep (depAll r)
end
mutual
theorem D.pure_py : ∀ d : D, d.pure = true → ∃ e, d.py = some e ∧ e.canLay0 = true ∧ e.depth = d.dep
  | .non, _ => ⟨_, rfl, rfl, rfl⟩
  | .int _, _ => ⟨_, rfl, rfl, rfl⟩
  | .str _, h => ⟨_, rfl, h, rfl⟩
  | .tup ds, h => by
    obtain ⟨es, h1, h2, h3⟩ := pureAll_py ds (by simpa [D.pure] using h)
    exact ⟨.tuple es, by simp [D.py, h1], by simpa [PyData.canLay0] using h2, by simp [PyData.depth, D.dep, h3]⟩
  | .lst ds, h => by
    obtain ⟨es, h1, h2, h3⟩ := pureAll_py ds (by simpa [D.pure] using h)
    exact ⟨.list es, by simp [D.py, h1], by simpa [PyData.canLay0] using h2, by simp [PyData.depth, D.dep, h3]⟩
  | .bl _, h => by simp [D.pure] at h
  | .obj _ _ _, h => by simp [D.pure] at h
theorem pureAll_py : ∀ ds : List D, pureAll ds = true → ∃ es, pyAll ds = some es ∧ PyData.canLayAll0 es = true ∧ PyData.depthAll es = depAll ds
  | [], _ => ⟨[], rfl, rfl, rfl⟩
  | d :: r, h => by
    have h' : d.pure = true ∧ pureAll r = true := by simpa [pureAll] using h
    obtain ⟨e, h1, h2, h3⟩ := D.pure_py d h'.1
    obtain ⟨es, g1, g2, g3⟩ := pureAll_py r h'.2
    exact ⟨e :: es, by simp [pyAll, h1, g1], by simp [PyData.canLayAll0, h2, g2], by simp [PyData.depthAll, depAll, h3, g3]⟩
end
mutual
theorem D.eqv_iff : ∀ (d1 d2 : D) (e1 e2 : PyData), d1.pure = true → d2.pure = true → d1.py = some e1 → d2.py = some e2 → (PyData.eqv e1 e2 = true ↔ d1 = d2)
  | .bl _, _, _, _, h, _, _, _ => by simp [D.pure] at h
  | .obj _ _ _, _, _, _, h, _, _, _ => by simp [D.pure] at h
  | .non, d2, e1, e2, _, p2, q1, q2 => by
    cases q1
    cases d2 <;> simp [D.py, D.pure] at q2 p2 <;> first | (subst q2; simp [PyData.eqv]) | (obtain ⟨_, _, rfl⟩ := q2; simp [PyData.eqv])
  | .int _, d2, e1, e2, _, p2, q1, q2 => by
    cases q1
    cases d2 <;> simp [D.py, D.pure] at q2 p2 <;> first | (subst q2; simp [PyData.eqv]) | (obtain ⟨_, _, rfl⟩ := q2; simp [PyData.eqv])
  | .str _, d2, e1, e2, _, p2, q1, q2 => by
    cases q1
    cases d2 <;> simp [D.py, D.pure] at q2 p2 <;> first | (subst q2; simp [PyData.eqv]) | (obtain ⟨_, _, rfl⟩ := q2; simp [PyData.eqv])
  | .tup ds, d2, e1, e2, p1, p2, q1, q2 => by
    simp only [D.py, Option.map_eq_some_iff] at q1
    obtain ⟨es, h1, rfl⟩ := q1
    cases d2 with
    | tup ds2 =>
      simp only [D.py, Option.map_eq_some_iff] at q2
      obtain ⟨es2, h2, rfl⟩ := q2
      have := pureAll_iff ds ds2 es es2 (by simpa [D.pure] using p1) (by simpa [D.pure] using p2) h1 h2
      simp [PyData.eqv, this]
    | lst ds2 =>
      simp only [D.py, Option.map_eq_some_iff] at q2
      obtain ⟨es2, h2, rfl⟩ := q2
      simp [PyData.eqv]
    | non => cases q2; simp [PyData.eqv]
    | int => cases q2; simp [PyData.eqv]
    | str => cases q2; simp [PyData.eqv]
    | bl => cases q2; simp [PyData.eqv]
    | obj => simp [D.pure] at p2
  | .lst ds, d2, e1, e2, p1, p2, q1, q2 => by
    simp only [D.py, Option.map_eq_some_iff] at q1
    obtain ⟨es, h1, rfl⟩ := q1
    cases d2 with
    | lst ds2 =>
      simp only [D.py, Option.map_eq_some_iff] at q2
      obtain ⟨es2, h2, rfl⟩ := q2
      have := pureAll_iff ds ds2 es es2 (by simpa [D.pure] using p1) (by simpa [D.pure] using p2) h1 h2
      simp [PyData.eqv, this]
    | tup ds2 =>
      simp only [D.py, Option.map_eq_some_iff] at q2
      obtain ⟨es2, h2, rfl⟩ := q2
      simp [PyData.eqv]
    | non => cases q2; simp [PyData.eqv]
    | int => cases q2; simp [PyData.eqv]
    | str => cases q2; simp [PyData.eqv]
    | bl => cases q2; simp [PyData.eqv]
    | obj => simp [D.pure] at p2
theorem pureAll_iff : ∀ (d1 d2 : List D) (e1 e2 : List PyData), pureAll d1 = true → pureAll d2 = true → pyAll d1 = some e1 → pyAll d2 = some e2 → (PyData.eqvAll e1 e2 = true ↔ d1 = d2)
  | [], d2, e1, e2, _, p2, q1, q2 => by
    cases q1
    cases d2 with
    | nil => cases q2; simp [PyData.eqvAll]
    | cons a r =>
      unfold pyAll at q2
      cases w1 : a.py <;> cases w2 : pyAll r <;> rw [w1, w2] at q2 <;> cases q2
      simp [PyData.eqvAll]
  | d :: ds, d2, e1, e2, p1, p2, q1, q2 => by
    have p1' : d.pure = true ∧ pureAll ds = true := by simpa [pureAll] using p1
    unfold pyAll at q1
    cases v1 : d.py <;> cases v2 : pyAll ds <;> rw [v1, v2] at q1 <;> cases q1
    cases d2 with
    | nil => cases q2; simp [PyData.eqvAll]
    | cons a r =>
      have p2' : a.pure = true ∧ pureAll r = true := by simpa [pureAll] using p2
      unfold pyAll at q2
      cases w1 : a.py <;> cases w2 : pyAll r <;> rw [w1, w2] at q2 <;> cases q2
      have g1 := D.eqv_iff d a _ _ p1'.1 p2'.1 v1 w1
      have g2 := pureAll_iff ds r _ _ p1'.2 p2'.2 v2 w2
      simp [PyData.eqvAll, g1, g2]
end
section
variable {X : Cx} {σ : Sl} {H : Hp} {Q : VK} {x y v w : V} {d d' : D}
theorem shaped_of {d : D} {e : PyData} (h : d.py = some e) (p : d.pure = true) (z : d.dep ≤ 64) : SeqAt.shaped e = true := by
  obtain ⟨e', h1, h2, h3⟩ := d.pure_py p
  rw [h] at h1
  cases h1
  unfold SeqAt.shaped
  rw [h2, h3]
  simpa using z
theorem opw_eqd {j : Nat} (hr : Room j X.A) (h1 : Rp X.K H x d) (h2 : Rp X.K H y d') (p1 : d.pure = true) (p2 : d'.pure = true) (z1 : d.dep ≤ 64) (z2 : d'.dep ≤ 64) (q : ∀ b : Bool, (b = true ↔ d = d') → Q (.bl b) H) : OpW X (compareOp .Eq) x y H Q := by
  obtain ⟨e1, a1, b1, c1⟩ := d.pure_py p1
  obtain ⟨e2, a2, b2, c2⟩ := d'.pure_py p2
  exact opw_of (op_eqD hr.units) ⟨e1, e2, Rp.py _ _ _ h1 a1, Rp.py _ _ _ h2 a2, shaped_of a1 p1 z1, shaped_of a2 p2 z2, q _ (D.eqv_iff _ _ _ _ p1 p2 a1 a2)⟩
theorem opw_ned {j : Nat} (hr : Room j X.A) (h1 : Rp X.K H x d) (h2 : Rp X.K H y d') (p1 : d.pure = true) (p2 : d'.pure = true) (z1 : d.dep ≤ 64) (z2 : d'.dep ≤ 64) (q : ∀ b : Bool, (b = true ↔ d = d') → Q (.bl (!b)) H) : OpW X (compareOp .NotEq) x y H Q := by
  obtain ⟨e1, a1, b1, c1⟩ := d.pure_py p1
  obtain ⟨e2, a2, b2, c2⟩ := d'.pure_py p2
  exact opw_of (op_neD hr.units) ⟨e1, e2, Rp.py _ _ _ h1 a1, Rp.py _ _ _ h2 a2, shaped_of a1 p1 z1, shaped_of a2 p2 z2, q _ (D.eqv_iff _ _ _ _ p1 p2 a1 a2)⟩
end
/-! ### calls that may raise, raise, try -/
section
variable {X : Cx} {e : Expr} {es : List Expr} {body : List Stmt} {st : Stmt} {σ : Sl} {H : Hp} {Q : VK} {E : Ends} {pos p : Pos} {x : Str} {W : WX}
theorem passX (tk : Takes X W) (σ : Sl) : Passes (L2.CX X.prog X.w) X fun c d H' => ∀ σ, W c d σ H' := fun pins σ H s u s' I c => tk u s' (XE.of_call I (fun _ _ _ h => h σ) c)
theorem we_callX {j k : Nat} {sp : Sp} {dvs : List V} (c : CalX X.prog X.w X.K X.mg X.base k x sp dvs) (tk : Takes X W) (hr : Room j X.A) (hk : k ≤ j) (hg : Gl X x)
    (q : QA X (e :: es) σ H fun vs H1 => sp (vs ++ dvs) H1 Q fun c d H' => ∀ σ, W c d σ H')
    (hdb : (x == ("__debug__" : Str)) = false := by decide) (he : starEach (e :: es) X.env = (false, eval e X.env) :: starEach es X.env := by rfl) (hpl : (backTo pos (starEach es X.env)).any (·.1) = false := by rfl) :
    QE X (.Call (.Name x p) (e :: es) [] pos) σ H Q := by
  obtain ⟨f, fd, ps, ds, F, hm, kp, b, d⟩ := c.ex
  exact we_of (pe_call F (hr.mono hk) hg hm kp b d (passX tk σ) pa_sem hdb he hpl) q
/-- a local name that holds a def -/
theorem we_callLX {N : List Str} {i j k : Nat} {f : Addr} {fd : FuncData} {ps : List Str} {sp : Sp} {dvs : List V} {ds : List Value} (F : FnOk X.prog X.w X.K X.mg X.base (L2.CX X.prog X.w) k f fd ps sp) (kp : PySem.W.keepIn X.K (.ref f) = true) (b : Binds X.K fd ps ds) (d : Vals dvs ds) (tk : Takes X W) (hr : Room j X.A) (hk : k ≤ j)
    (h : Var N σ x (.ref f) i) (hN : X.N = N) (hv : Vis X.env.scope x) (q : QA X (e :: es) σ H fun vs H1 => sp (vs ++ dvs) H1 Q fun c d H' => ∀ σ, W c d σ H')
    (hdb : (x == ("__debug__" : Str)) = false := by decide) (hcd : (x == ("__classdict__" : Str)) = false := by decide) (he : starEach (e :: es) X.env = (false, eval e X.env) :: starEach es X.env := by rfl) (hpl : (backTo pos (starEach es X.env)).any (·.1) = false := by rfl) :
    QE X (.Call (.Name x p) (e :: es) [] pos) σ H Q :=
  we_of (pe_callL (i := i) F (hr.mono hk) (hN ▸ h.n) hv kp b d (passX tk σ) pa_sem hdb hcd he hpl) ⟨h.v, q⟩
theorem ws_raise {C : Addr} {bmB : List Value} {B newId initId : String} {m : Str} {j : Nat} {p2 cpos : Pos} (hc : X.calm = true) (tk : Takes X W) (F : ExcBaseFacts B newId initId bmB) (c : PySem.W.excIn X.K C bmB newId = true) (gC : X.mg x = some (.ref C)) (kC : PySem.W.keepIn X.K (.ref C) = true) (r : Raises X (.ref C)) (hg : Gl X x)
    (q : W (.ref C) none σ H) (hdb : (x == ("__debug__" : Str)) = false := by decide) : QS X (.Raise (some (.Call (.Name x p) [.Constant (.str m) j p2] [] cpos)) none pos) E σ H :=
  ws_of (ps_raise hc tk (pmk_own F c gC kC r hg hdb)) q
/-- a tried body -/
def TB (X : Cx) (body : List Stmt) (W : WX) : TS := fun E σ H => ∀ (pn : List (Addr × Obj)) (xe : Value → Shared → Prop), Takes (X.tr pn xe) W → PassesOwn (model X.prog X.w) X.A X.env xe → QB (X.tr pn xe) body E σ H
theorem ws_try {h1 : ExceptHandler} {hs : List ExceptHandler} {l : List (Value × Option Nat × TSu)} (hst : X.stack = X.env :: X.outer) (hfr0 : X.env.frame = some X.env.locals) (tk : Takes X W)
    (hh : Clauses X (h1 :: hs) l) (q : TB X body (wMix X.K W E l) E σ H) : QS X (.Try body (h1 :: hs) [] [] pos) E σ H :=
  ws_of (ps_mix (tb := TB X body) hst hfr0 tk (fun W' pn xe tk' hp => ⟨fun pins s σ' H' E' I h => h pn xe tk' hp pins s I⟩) hh) q
end
end Sx

/-! Sq: comprehensions and loops over data, with one name as the target. -/
namespace Sx
open PySem PySem.Spec PyProof.Rows L2

/-- the slots when x is forgotten (σ'), and when it holds v (S v) -/
class inductive Tgt : List Str → Sl → Str → outParam Sl → outParam (V → Sl) → outParam Nat → Prop
  | z {N : List Str} {σ : Sl} {x : Str} {o : Option V} : Tgt (x :: N) (o :: σ) x (none :: σ) (fun v => some v :: σ) 0
  | s {N : List Str} {σ σ' : Sl} {S : V → Sl} {x y : Str} {o : Option V} {i : Nat} (h : Tgt N σ x σ' S i) : Tgt (y :: N) (o :: σ) x (o :: σ') (fun v => o :: S v) (i + 1)
instance (priority := high) Tgt.iz {N : List Str} {σ : Sl} {x : Str} {o : Option V} : Tgt (x :: N) (o :: σ) x (none :: σ) (fun v => some v :: σ) 0 := .z
instance (priority := low) Tgt.is {N : List Str} {σ σ' : Sl} {S : V → Sl} {x y : Str} {o : Option V} {i : Nat} [h : Tgt N σ x σ' S i] : Tgt (y :: N) (o :: σ) x (o :: σ') (fun v => o :: S v) (i + 1) := .s h
theorem Tgt.n {N : List Str} {σ σ' : Sl} {S : V → Sl} {x : Str} {i : Nat} (h : Tgt N σ x σ' S i) : N[i]? = some x := by
  induction h with
  | z => rfl
  | s _ ih => simpa using ih
theorem Tgt.w {N : List Str} {σ σ' : Sl} {S : V → Sl} {x : Str} {i : Nat} (h : Tgt N σ x σ' S i) : σ.set i none = σ' := by
  induction h with
  | z => rfl
  | s _ ih => simp [ih]
theorem Tgt.p {N : List Str} {σ σ' : Sl} {S : V → Sl} {x : Str} {i : Nat} (h : Tgt N σ x σ' S i) (v : V) : σ'.set i (some v) = S v := by
  induction h with
  | z => rfl
  | s _ ih => simp [ih]
theorem Tgt.b {N : List Str} {σ σ' : Sl} {S : V → Sl} {x : Str} {i : Nat} (h : Tgt N σ x σ' S i) (v : V) : (S v).set i none = σ' := by
  induction h with
  | z => rfl
  | s _ ih => simp [ih]
theorem bits_take (ds : List D) (g : D → Option D) : ∀ n, n ≤ ds.length → bits n (fun k => (ds[k]?).bind g) = (ds.take n).filterMap g
  | 0, _ => rfl
  | n + 1, h => by
    rw [bits_succ, bits_take ds g n (by omega), List.take_succ, List.filterMap_append]
    congr 1
    rw [List.getElem?_eq_getElem (by omega)]
    cases w : g ds[n] <;> simp [w]
theorem bits_map (ds : List D) (g : D → Option D) : bits ds.length (fun k => (ds[k]?).bind g) = ds.filterMap g := by
  rw [bits_take ds g _ (Nat.le_refl _), List.take_length]
theorem bits_rg (n : Nat) (f : Nat → D) : bits n (fun k => some (f k)) = (List.range n).map f := by
  unfold bits
  rw [List.filterMap_eq_map']
theorem fm_congr {α β : Type} {f g : α → Option β} : ∀ {l : List α}, (∀ x ∈ l, f x = g x) → l.filterMap f = l.filterMap g
  | [], _ => rfl
  | a :: r, h => by
    rw [List.filterMap_cons, List.filterMap_cons, h a (by simp), fm_congr fun x hx => h x (by simp [hx])]
theorem fm_map (ds : List D) (f : D → D) : ds.filterMap (fun d => some (f d)) = ds.map f := by
  rw [List.filterMap_eq_map']
section
variable (X : Cx)
def LCb (scope : Scope) (elt : Expr) (S : V → Sl) (H1 : Hp) (ds : List D) (f : D → D) : Prop :=
  (∀ d ∈ ds, (f d).im = true) ∧ ∀ d w H2, d ∈ ds → Same H1 H2 → Rp X.K H2 w d → BE X scope elt (S w) H2 fun y H3 => Same H2 H3 ∧ Rp X.K H3 y (f d)
def LCc (scope : Scope) (elt c : Expr) (S : V → Sl) (H1 : Hp) (ds : List D) (g : D → Option D) : Prop :=
  (∀ d ∈ ds, ∀ e, g d = some e → e.im = true) ∧ ∀ d w H2, d ∈ ds → Same H1 H2 → Rp X.K H2 w d → BT X scope c (S w) H2 fun b H3 => (b = true → BE X scope elt (S w) H3 fun y H4 => Same H2 H4 ∧ ∃ e, g d = some e ∧ Rp X.K H4 y e) ∧ (b = false → Same H2 H3 ∧ g d = none)
end
section
variable {X : Cx} {elt iter c : Expr} {scope : Scope} {N : List Str} {σ σw : Sl} {S : V → Sl} {H : Hp} {Q : VK} {x : Str} {i : Nat} {px pos rp rpos : Pos} {a b : Expr}
theorem ql_seq (h : Tgt N σ x σw S i) (hN : X.N = N) (nd : X.N.Nodup)
    (hl : ∀ s H0 C cl fp, Loc (X.blk s H0 scope (compEnvC scope cl C X.env) fp).env.scope x) (hf : ∀ s H0 C cl fp, (X.blk s H0 scope (compEnvC scope cl C X.env) fp).fn x = true ∨ (X.blk s H0 scope (compEnvC scope cl C X.env) fp).env.scope.names.lookup x = some .local)
    (q : QI X (.Name x px) iter σ H fun J H1 => ∃ (n : Nat) (G : Hp → Prop) (Y : Nat → Hp → V → Hp → Prop), Walk J n G Y ∧ n < sizeLine ∧ (∀ H', Same H1 H' → G H') ∧ ∃ F : Nat → Option D, (∀ i d, F i = some d → d.im = true) ∧
      (∀ i v H2 H3, i < n → Same H1 H2 → Y i H2 v H3 → BE X scope elt (S v) H3 fun y H5 => Same H2 H5 ∧ ∃ d, F i = some d ∧ Rp X.K H5 y d) ∧
      (∀ p H2 ys, Same H1 H2 → H1 p = none → H2 p = some (.lst ys) → RpAll X.K H2 ys (bits n F) → Q (.ref p) H2)) : QL X elt (.Name x px) iter [] scope [i] σ H Q := by
  refine ql_lc (σw := σw) (by show (wipe σ []).set i none = σw; exact h.w) (q.imp fun J H1 ⟨n, G, Y, w, hn, hG, F, him, hb, hq⟩ => ⟨n, G, Y, w, hn, hG, F, him, fun k v H2 H3 hk s2 y => ?_, hq⟩)
  intro s H0 C cl fp
  refine wg_of (pg_name (i := i) nd (by show X.N[i]? = some x; rw [hN]; exact h.n) (hl s H0 C cl fp) (hf s H0 C cl fp)) ?_
  show wipe (σw.set i (some v)) [i] = σw ∧ _
  rw [h.p]
  exact ⟨by show (S v).set i none = σw; exact h.b v, hb k v H2 H3 hk s2 y⟩
theorem ql_seqT (h : Tgt N σ x σw S i) (hN : X.N = N) (nd : X.N.Nodup)
    (hl : ∀ s H0 C cl fp, Loc (X.blk s H0 scope (compEnvC scope cl C X.env) fp).env.scope x) (hf : ∀ s H0 C cl fp, (X.blk s H0 scope (compEnvC scope cl C X.env) fp).fn x = true ∨ (X.blk s H0 scope (compEnvC scope cl C X.env) fp).env.scope.names.lookup x = some .local)
    (q : QI X (.Name x px) iter σ H fun J H1 => ∃ (n : Nat) (G : Hp → Prop) (Y : Nat → Hp → V → Hp → Prop), Walk J n G Y ∧ n < sizeLine ∧ (∀ H', Same H1 H' → G H') ∧ ∃ F : Nat → Option D, (∀ i d, F i = some d → d.im = true) ∧
      (∀ i v H2 H3, i < n → Same H1 H2 → Y i H2 v H3 → BT X scope c (S v) H3 fun b H5 => (b = true → BE X scope elt (S v) H5 fun y H6 => Same H2 H6 ∧ ∃ d, F i = some d ∧ Rp X.K H6 y d) ∧ (b = false → Same H2 H5 ∧ F i = none)) ∧
      (∀ p H2 ys, Same H1 H2 → H1 p = none → H2 p = some (.lst ys) → RpAll X.K H2 ys (bits n F) → Q (.ref p) H2)) : QL X elt (.Name x px) iter [c] scope [i] σ H Q := by
  refine ql_lcT (σw := σw) (by show (wipe σ []).set i none = σw; exact h.w) (q.imp fun J H1 ⟨n, G, Y, w, hn, hG, F, him, hb, hq⟩ => ⟨n, G, Y, w, hn, hG, F, him, fun k v H2 H3 hk s2 y => ?_, hq⟩)
  intro s H0 C cl fp
  refine wg_of (pg_name (i := i) nd (by show X.N[i]? = some x; rw [hN]; exact h.n) (hl s H0 C cl fp) (hf s H0 C cl fp)) ?_
  show wipe (σw.set i (some v)) [i] = σw ∧ _
  rw [h.p]
  exact ⟨by show (S v).set i none = σw; exact h.b v, hb k v H2 H3 hk s2 y⟩
/-- two clauses, a name each -/
theorem ql2_seq {y : Str} {py : Pos} {j : Nat} {σ1 : Sl} {S1 : V → Sl} {σi : V → Sl} {S2 : V → V → Sl} {iter1 : Expr} {ifs1 : List Expr} (h1 : Tgt N σ y σ1 S1 j) (h : Tgt N σ1 x σw S i) (h2 : ∀ v, Tgt N (S v) y (σi v) (S2 v) j) (hij : i ≠ j) (hN : X.N = N) (nd : X.N.Nodup)
    (hl : ∀ s H0 C cl fp, Loc (X.blk s H0 scope (compEnvC scope cl C X.env) fp).env.scope x) (hf : ∀ s H0 C cl fp, (X.blk s H0 scope (compEnvC scope cl C X.env) fp).fn x = true ∨ (X.blk s H0 scope (compEnvC scope cl C X.env) fp).env.scope.names.lookup x = some .local)
    (hl1 : ∀ s H0 C cl fp, Loc (X.blk s H0 scope (compEnvC scope cl C X.env) fp).env.scope y) (hf1 : ∀ s H0 C cl fp, (X.blk s H0 scope (compEnvC scope cl C X.env) fp).fn y = true ∨ (X.blk s H0 scope (compEnvC scope cl C X.env) fp).env.scope.names.lookup y = some .local)
    (q : QI X (.Name x px) iter σ H fun J H1 => ∃ (n : Nat) (G : Hp → Prop) (Y : Nat → Hp → V → Hp → Prop), Walk J n G Y ∧ (∀ H', Same H1 H' → G H') ∧ ∃ (m : Nat → Nat) (M : Nat) (F : Nat → Nat → Option D), n * M < sizeLine ∧ (∀ i, i < n → m i ≤ M) ∧ (∀ i j d, F i j = some d → d.im = true) ∧
      (∀ i v H2 H3, i < n → Same H1 H2 → Y i H2 v H3 → BI X scope (.Name y py) iter1 (S v) H3 fun J1 H5 => Same H2 H5 ∧ ∃ (G1 : Hp → Prop) (Y1 : Nat → Hp → V → Hp → Prop), Walk J1 (m i) G1 Y1 ∧ (∀ H', Same H1 H' → Kp H5 H' → G1 H') ∧
        ∀ j u H6 H7, j < m i → Same H1 H6 → Kp H5 H6 → Y1 j H6 u H7 → QT1 X scope ifs1 (S2 v u) H7 fun b H9 => (b = true → BE X scope elt (S2 v u) H9 fun z H10 => Same H6 H10 ∧ ∃ d, F i j = some d ∧ Rp X.K H10 z d) ∧ (b = false → Same H6 H9 ∧ F i j = none)) ∧
      (∀ p H2 ys, Same H1 H2 → H1 p = none → H2 p = some (.lst ys) → RpAll X.K H2 ys (flat m F n) → Q (.ref p) H2)) : QL2 X elt (.Name x px) iter (.Name y py) iter1 [] ifs1 scope [i, j] [j] σ H Q := by
  have e1 : σ1.set j none = σ1 := by rw [← h1.w, List.set_set]
  have e2 : σw.set j none = σw := by
    rw [← h.w, List.set_comm _ _ hij, e1]
  have e3 : ∀ v, (S v).set j none = S v := fun v => by rw [← h.p, List.set_comm _ _ hij, e2]
  refine ql_lc2 (σw := σw) (by show ((wipe σ []).set j none).set i none = σw; show (σ.set j none).set i none = σw; rw [h1.w, h.w]) (q.imp fun J H1 ⟨n, G, Y, w, hG, m, M, F, hz, hm, him, hb, hq⟩ => ⟨n, G, Y, w, hG, m, M, F, hz, hm, him, fun k v H2 H3 hk s2 yy => ?_, hq⟩)
  intro s H0 C cl fp
  refine wg_of (pg_name (i := i) nd (by show X.N[i]? = some x; rw [hN]; exact h.n) (hl s H0 C cl fp) (hf s H0 C cl fp)) ?_
  show wipe (σw.set i (some v)) [i, j] = σw ∧ _
  rw [h.p]
  refine ⟨by show ((S v).set j none).set i none = σw; rw [e3, h.b], ?_⟩
  intro s H0 C cl fp
  refine (hb k v H2 H3 hk s2 yy s H0 C cl fp).imp fun J1 H5 ⟨s5, G1, Y1, w1, hG1, hb1⟩ => ⟨s5, G1, Y1, w1, hG1, fun l u H6 H7 hl6 s6 k6 y6 => ?_⟩
  intro s H0 C cl fp
  refine wg_of (pg_name (i := j) nd (by show X.N[j]? = some y; rw [hN]; exact h1.n) (hl1 s H0 C cl fp) (hf1 s H0 C cl fp)) ?_
  have eS : List.set (wipe (S v) [j]) j (some u) = S2 v u := by
    show ((S v).set j none).set j (some u) = S2 v u
    rw [List.set_set, ← (h2 v).p, ← (h2 v).w, List.set_set]
  show wipe (List.set (wipe (S v) [j]) j (some u)) [j] = wipe (S v) [j] ∧ _
  rw [eS]
  exact ⟨by show (S2 v u).set j none = (S v).set j none; rw [(h2 v).b, (h2 v).w], hb1 l u H6 H7 hl6 s6 k6 y6⟩
end
section
variable {X : Cx} {elt iter c : Expr} {scope : Scope} {N : List Str} {σ σw : Sl} {S : V → Sl} {H : Hp} {Q : VK} {x : Str} {i : Nat} {px pos rp rpos : Pos} {a b : Expr}
/-- what a clause wants of its elements -/
theorem same_im {ds : List D} {f : D → D} (h : ∀ d ∈ ds, (f d).im = true) : ∀ i d, (fun k : Nat => (ds[k]?).bind fun d => some (f d)) i = some d → d.im = true := by
  intro i d e
  dsimp only at e
  cases w : ds[i]? with
  | none => rw [w] at e; cases e
  | some z => rw [w] at e; cases e; exact h z (List.mem_of_getElem? w)
theorem same_imT {ds : List D} {g : D → Option D} (h : ∀ d ∈ ds, ∀ e, g d = some e → e.im = true) : ∀ i d, (fun k : Nat => (ds[k]?).bind g) i = some d → d.im = true := by
  intro i d e
  dsimp only at e
  cases w : ds[i]? with
  | none => rw [w] at e; cases e
  | some z => rw [w] at e; exact h z (List.mem_of_getElem? w) d e
theorem ql_lct (h : Tgt N σ x σw S i) (hN : X.N = N) (nd : X.N.Nodup)
    (hl : ∀ s H0 C cl fp, Loc (X.blk s H0 scope (compEnvC scope cl C X.env) fp).env.scope x) (hf : ∀ s H0 C cl fp, (X.blk s H0 scope (compEnvC scope cl C X.env) fp).fn x = true ∨ (X.blk s H0 scope (compEnvC scope cl C X.env) fp).env.scope.names.lookup x = some .local)
    (q : QE X iter σ H fun v H1 => ∃ ds, Rp X.K H1 v (.tup ds) ∧ ds.length < sizeLine ∧ ∃ f : D → D, LCb X scope elt S H1 ds f ∧
      ∀ p H2 ys, Same H1 H2 → H1 p = none → H2 p = some (.lst ys) → RpAll X.K H2 ys (ds.map f) → Q (.ref p) H2) : QL X elt (.Name x px) iter [] scope [i] σ H Q := by
  refine ql_seq h hN nd hl hf (qi_tup (q.imp fun v H1 ⟨ds, r, hz, f, ⟨him, hb⟩, hq⟩ => ?_))
  obtain ⟨a, xs, rfl, h1, h2⟩ := r.tup_inv
  refine ⟨a, rfl, ⟨xs, h1⟩, xs.length, _, _, walk_tup (xs := xs), by rw [h2.len]; exact hz, fun H' s => Same.tupR s h1, fun k => (ds[k]?).bind fun d => some (f d), same_im him, ?_, ?_⟩
  · rintro k v H2 H3 hk s2 ⟨rfl, e⟩
    obtain ⟨d, e1, r1⟩ := (h2.to s2).get e
    intro s H0 C cl fp
    refine (hb d v H3 (List.mem_of_getElem? e1) s2 r1 s H0 C cl fp).imp fun y H5 ⟨s5, r5⟩ => ⟨s5, f d, by simp [e1], r5⟩
  · intro p H2 ys s2 hp hp2 r
    rw [h2.len, bits_map, fm_map] at r
    exact hq p H2 ys s2 hp hp2 r
theorem ql_lcl (h : Tgt N σ x σw S i) (hN : X.N = N) (nd : X.N.Nodup)
    (hl : ∀ s H0 C cl fp, Loc (X.blk s H0 scope (compEnvC scope cl C X.env) fp).env.scope x) (hf : ∀ s H0 C cl fp, (X.blk s H0 scope (compEnvC scope cl C X.env) fp).fn x = true ∨ (X.blk s H0 scope (compEnvC scope cl C X.env) fp).env.scope.names.lookup x = some .local)
    (q : QE X iter σ H fun v H1 => ∃ ds, Rp X.K H1 v (.lst ds) ∧ ds.length < sizeLine ∧ ∃ f : D → D, LCb X scope elt S H1 ds f ∧
      ∀ p H2 ys, Same H1 H2 → H1 p = none → H2 p = some (.lst ys) → RpAll X.K H2 ys (ds.map f) → Q (.ref p) H2) : QL X elt (.Name x px) iter [] scope [i] σ H Q := by
  refine ql_seq h hN nd hl hf (qi_list (q.imp fun v H1 ⟨ds, r, hz, f, ⟨him, hb⟩, hq⟩ => ?_))
  obtain ⟨a, xs, rfl, h1, h2⟩ := r.lst_inv
  refine ⟨a, rfl, ⟨xs, h1⟩, xs.length, _, _, walk_list (xs := xs), by rw [h2.len]; exact hz, fun H' s => s.seq h1, fun k => (ds[k]?).bind fun d => some (f d), same_im him, ?_, ?_⟩
  · rintro k v H2 H3 hk s2 ⟨rfl, e⟩
    obtain ⟨d, e1, r1⟩ := (h2.to s2).get e
    intro s H0 C cl fp
    refine (hb d v H3 (List.mem_of_getElem? e1) s2 r1 s H0 C cl fp).imp fun y H5 ⟨s5, r5⟩ => ⟨s5, f d, by simp [e1], r5⟩
  · intro p H2 ys s2 hp hp2 r
    rw [h2.len, bits_map, fm_map] at r
    exact hq p H2 ys s2 hp hp2 r
/-- over range(a) -/
def LRb (X : Cx) (scope : Scope) (elt : Expr) (S : V → Sl) (H1 : Hp) (lo : Int) (n : Nat) (f : Int → D) : Prop :=
  (∀ k : Nat, k < n → (f (lo + k)).im = true) ∧ ∀ (k : Nat) H2, k < n → Same H1 H2 → BE X scope elt (S (.int (lo + k))) H2 fun y H3 => Same H2 H3 ∧ Rp X.K H3 y (f (lo + k))
theorem rg_aux (h : Tgt N σ x σw S i) (hN : X.N = N) (nd : X.N.Nodup)
    (hl : ∀ s H0 C cl fp, Loc (X.blk s H0 scope (compEnvC scope cl C X.env) fp).env.scope x) (hf : ∀ s H0 C cl fp, (X.blk s H0 scope (compEnvC scope cl C X.env) fp).fn x = true ∨ (X.blk s H0 scope (compEnvC scope cl C X.env) fp).env.scope.names.lookup x = some .local)
    (q : QI X (.Name x px) iter σ H fun J H1 => ∃ (lo : Int) (n : Nat), J = Itr lo n ∧ n < sizeLine ∧ ∃ f : Int → D, LRb X scope elt S H1 lo n f ∧
      ∀ p H2 ys, Same H1 H2 → H1 p = none → H2 p = some (.lst ys) → RpAll X.K H2 ys ((List.range n).map fun k : Nat => f (lo + k)) → Q (.ref p) H2) : QL X elt (.Name x px) iter [] scope [i] σ H Q := by
  refine ql_seq h hN nd hl hf (q.imp fun J H1 ⟨lo, n, e, hz, f, ⟨him, hb⟩, hq⟩ => ?_)
  subst e
  refine ⟨n, _, _, walk_range, hz, fun _ _ => trivial, fun k => if k < n then some (f (lo + k)) else none, fun k d e => ?_, ?_, ?_⟩
  · dsimp only at e
    by_cases hk : k < n
    · rw [if_pos hk] at e; cases e; exact him k hk
    · rw [if_neg hk] at e; cases e
  · rintro k v H2 H3 hk s2 ⟨rfl, rfl⟩
    intro s H0 C cl fp
    exact (hb k H3 hk s2 s H0 C cl fp).imp fun y H5 ⟨s5, r5⟩ => ⟨s5, _, by dsimp only; rw [if_pos hk], r5⟩
  · intro p H2 ys s2 hp hp2 r
    refine hq p H2 ys s2 hp hp2 ?_
    rw [← bits_rg]
    have : bits n (fun k => some (f (lo + (k : Nat)))) = bits n (fun k => if k < n then some (f (lo + k)) else none) := by
      unfold bits
      refine fm_congr fun k hk => ?_
      rw [if_pos (List.mem_range.mp hk)]
    rw [this]
    exact r
def LRc (X : Cx) (scope : Scope) (elt c : Expr) (S : V → Sl) (H1 : Hp) (lo : Int) (n : Nat) (g : Int → Option D) : Prop :=
  (∀ k : Nat, k < n → ∀ e, g (lo + k) = some e → e.im = true) ∧ ∀ (k : Nat) H2, k < n → Same H1 H2 → BT X scope c (S (.int (lo + k))) H2 fun b H3 => (b = true → BE X scope elt (S (.int (lo + k))) H3 fun y H4 => Same H2 H4 ∧ ∃ e, g (lo + k) = some e ∧ Rp X.K H4 y e) ∧ (b = false → Same H2 H3 ∧ g (lo + k) = none)
theorem rg_auxT (h : Tgt N σ x σw S i) (hN : X.N = N) (nd : X.N.Nodup)
    (hl : ∀ s H0 C cl fp, Loc (X.blk s H0 scope (compEnvC scope cl C X.env) fp).env.scope x) (hf : ∀ s H0 C cl fp, (X.blk s H0 scope (compEnvC scope cl C X.env) fp).fn x = true ∨ (X.blk s H0 scope (compEnvC scope cl C X.env) fp).env.scope.names.lookup x = some .local)
    (q : QI X (.Name x px) iter σ H fun J H1 => ∃ (lo : Int) (n : Nat), J = Itr lo n ∧ n < sizeLine ∧ ∃ g : Int → Option D, LRc X scope elt c S H1 lo n g ∧
      ∀ p H2 ys, Same H1 H2 → H1 p = none → H2 p = some (.lst ys) → RpAll X.K H2 ys ((List.range n).filterMap fun k : Nat => g (lo + k)) → Q (.ref p) H2) : QL X elt (.Name x px) iter [c] scope [i] σ H Q := by
  refine ql_seqT h hN nd hl hf (q.imp fun J H1 ⟨lo, n, e, hz, g, ⟨him, hb⟩, hq⟩ => ?_)
  subst e
  refine ⟨n, _, _, walk_range, hz, fun _ _ => trivial, fun k => if k < n then g (lo + k) else none, fun k d e => ?_, ?_, ?_⟩
  · dsimp only at e
    by_cases hk : k < n
    · rw [if_pos hk] at e; exact him k hk d e
    · rw [if_neg hk] at e; cases e
  · rintro k v H2 H3 hk s2 ⟨rfl, rfl⟩
    intro s H0 C cl fp
    have z := hb k H3 hk s2 s H0 C cl fp
    intro pins s I
    refine thn (z pins s I) fun b s1 ⟨H5, I5, t5, f5⟩ => ⟨H5, I5, fun hb s H0 C cl fp => ?_, fun hb => ?_⟩
    · exact (t5 hb s H0 C cl fp).imp fun y H5 ⟨s5, d, e, r5⟩ => ⟨s5, d, by dsimp only; rw [if_pos hk, e], r5⟩
    · exact ⟨(f5 hb).1, by dsimp only; rw [if_pos hk]; exact (f5 hb).2⟩
  · intro p H2 ys s2 hp hp2 r
    refine hq p H2 ys s2 hp hp2 ?_
    have : (List.range n).filterMap (fun k : Nat => g (lo + k)) = bits n (fun k => if k < n then g (lo + k) else none) := by
      unfold bits
      refine fm_congr fun k hk => ?_
      rw [if_pos (List.mem_range.mp hk)]
    rw [this]
    exact r
theorem ql_lcr1 (hm : X.mg "range" = none) (hg : Gl X "range") (h : Tgt N σ x σw S i) (hN : X.N = N) (nd : X.N.Nodup)
    (hl : ∀ s H0 C cl fp, Loc (X.blk s H0 scope (compEnvC scope cl C X.env) fp).env.scope x) (hf : ∀ s H0 C cl fp, (X.blk s H0 scope (compEnvC scope cl C X.env) fp).fn x = true ∨ (X.blk s H0 scope (compEnvC scope cl C X.env) fp).env.scope.names.lookup x = some .local)
    (hs1 : starEach [a] X.env = [(false, eval a X.env)])
    (q : QE X a σ H fun v H1 => ∃ j : Int, v = .int j ∧ (-(2 ^ 62) ≤ j ∧ j < sizeLine) ∧ ∃ f : Int → D, LRb X scope elt S H1 0 j.toNat f ∧
      ∀ p H2 ys, Same H1 H2 → H1 p = none → H2 p = some (.lst ys) → RpAll X.K H2 ys ((List.range j.toNat).map fun k : Nat => f k) → Q (.ref p) H2) : QL X elt (.Name x px) (.Call (.Name "range" rp) [a] [] rpos) [] scope [i] σ H Q := by
  refine rg_aux h hN nd hl hf (qi_range1 hm hg hs1 (q.imp fun v H1 ⟨j, e, hj, f, hb, hq⟩ => ⟨j, e, ?_, 0, _, rfl, ?_, f, hb, fun p H2 ys s2 hp hp2 r => hq p H2 ys s2 hp hp2 ?_⟩))
  · have := sizeLine_eq
    omega
  · have := sizeLine_eq
    omega
  · simpa using r
theorem ql_lcr2 (hm : X.mg "range" = none) (hg : Gl X "range") (h : Tgt N σ x σw S i) (hN : X.N = N) (nd : X.N.Nodup)
    (hl : ∀ s H0 C cl fp, Loc (X.blk s H0 scope (compEnvC scope cl C X.env) fp).env.scope x) (hf : ∀ s H0 C cl fp, (X.blk s H0 scope (compEnvC scope cl C X.env) fp).fn x = true ∨ (X.blk s H0 scope (compEnvC scope cl C X.env) fp).env.scope.names.lookup x = some .local)
    (hs1 : starEach [a, b] X.env = [(false, eval a X.env), (false, eval b X.env)]) (hs2 : starEach [b] X.env = [(false, eval b X.env)])
    (q : QE X a σ H fun v H0 => QE X b σ H0 fun w H1 => ∃ i j : Int, v = .int i ∧ w = .int j ∧ (-(2 ^ 30) ≤ i ∧ i < 2 ^ 30 ∧ -(2 ^ 30) ≤ j ∧ j < 2 ^ 30 ∧ j - i < sizeLine) ∧ ∃ f : Int → D, LRb X scope elt S H1 i (j - i).toNat f ∧
      ∀ p H2 ys, Same H1 H2 → H1 p = none → H2 p = some (.lst ys) → RpAll X.K H2 ys ((List.range (j - i).toNat).map fun k : Nat => f (i + k)) → Q (.ref p) H2) : QL X elt (.Name x px) (.Call (.Name "range" rp) [a, b] [] rpos) [] scope [i] σ H Q := by
  refine rg_aux h hN nd hl hf (qi_range2 hm hg hs1 hs2 (q.imp fun v H0 q1 => q1.imp fun w H1 ⟨i, j, e1, e2, hj, f, hb, hq⟩ => ⟨i, j, e1, e2, ?_, i, _, rfl, ?_, f, hb, hq⟩))
  · omega
  · have := sizeLine_eq
    omega
theorem ql_lcr2T (hm : X.mg "range" = none) (hg : Gl X "range") (h : Tgt N σ x σw S i) (hN : X.N = N) (nd : X.N.Nodup)
    (hl : ∀ s H0 C cl fp, Loc (X.blk s H0 scope (compEnvC scope cl C X.env) fp).env.scope x) (hf : ∀ s H0 C cl fp, (X.blk s H0 scope (compEnvC scope cl C X.env) fp).fn x = true ∨ (X.blk s H0 scope (compEnvC scope cl C X.env) fp).env.scope.names.lookup x = some .local)
    (hs1 : starEach [a, b] X.env = [(false, eval a X.env), (false, eval b X.env)]) (hs2 : starEach [b] X.env = [(false, eval b X.env)])
    (q : QE X a σ H fun v H0 => QE X b σ H0 fun w H1 => ∃ i j : Int, v = .int i ∧ w = .int j ∧ (-(2 ^ 30) ≤ i ∧ i < 2 ^ 30 ∧ -(2 ^ 30) ≤ j ∧ j < 2 ^ 30 ∧ j - i < sizeLine) ∧ ∃ g : Int → Option D, LRc X scope elt c S H1 i (j - i).toNat g ∧
      ∀ p H2 ys, Same H1 H2 → H1 p = none → H2 p = some (.lst ys) → RpAll X.K H2 ys ((List.range (j - i).toNat).filterMap fun k : Nat => g (i + k)) → Q (.ref p) H2) : QL X elt (.Name x px) (.Call (.Name "range" rp) [a, b] [] rpos) [c] scope [i] σ H Q := by
  refine rg_auxT h hN nd hl hf (qi_range2 hm hg hs1 hs2 (q.imp fun v H0 q1 => q1.imp fun w H1 ⟨i, j, e1, e2, hj, f, hb, hq⟩ => ⟨i, j, e1, e2, ?_, i, _, rfl, ?_, f, hb, hq⟩))
  · omega
  · have := sizeLine_eq
    omega
theorem Tgt.q {N : List Str} {σ σ' : Sl} {S : V → Sl} {x : Str} {i : Nat} (h : Tgt N σ x σ' S i) (v : V) : σ.set i (some v) = S v := by
  rw [← h.p, ← h.w, List.set_set]
theorem ws_set1 {tg : Expr} {ifs : List Expr} {own : List (Str × Nat)} {vs : List Nat} {D : Ends} {y : Str} {j : Nat} {py spos : Pos} {σ' : Sl} (h : Tgt N σ y σ' S j) (hN : X.N = N) (hv : own.map (·.2) = vs) (hc : X.calm = true) (nd : X.N.Nodup) (hyl : X.env.scope.names.lookup y = some .local)
    (hsw : swapsWith (.ListComp elt [⟨tg, iter, ifs, 0⟩] scope pos) (some (.Name y py)) spos.line X.env = pure true) (ok : BlkOk X.N X.env.scope scope own) (hs : ∀ x, foldedSetIterable iter X.env x = pure x)
    (q : QL X elt tg iter ifs scope vs σ H fun v H1 => D.nx (S v) H1) : QS X (.Assign [.Name y py] (.ListComp elt [⟨tg, iter, ifs, 0⟩] scope pos) spos) D σ H := by
  refine ws_setLc hv hc nd (hN ▸ h.n) hyl hsw ok hs ?_
  rw [show (fun v H1 => D.nx (σ.set j (some v)) H1) = fun v H1 => D.nx (S v) H1 from by funext v H1; rw [h.q]]
  exact q
theorem ws_set2 {tg tg1 iter1 : Expr} {ifs ifs1 : List Expr} {own : List (Str × Nat)} {vs vs1 : List Nat} {D : Ends} {y : Str} {j : Nat} {py spos : Pos} {σ' : Sl} (h : Tgt N σ y σ' S j) (hN : X.N = N) (hv : own.map (·.2) = vs) (hv1 : ∀ i ∈ vs1, i ∈ own.map (·.2)) (hc : X.calm = true) (nd : X.N.Nodup) (hyl : X.env.scope.names.lookup y = some .local)
    (hsw : swapsWith (.ListComp elt [⟨tg, iter, ifs, 0⟩, ⟨tg1, iter1, ifs1, 0⟩] scope pos) (some (.Name y py)) spos.line X.env = pure true) (ok : BlkOk X.N X.env.scope scope own) (hs : ∀ x, foldedSetIterable iter X.env x = pure x) (hs1 : ∀ env x, foldedSetIterable iter1 env x = pure x)
    (q : QL2 X elt tg iter tg1 iter1 ifs ifs1 scope vs vs1 σ H fun v H1 => D.nx (S v) H1) : QS X (.Assign [.Name y py] (.ListComp elt [⟨tg, iter, ifs, 0⟩, ⟨tg1, iter1, ifs1, 0⟩] scope pos) spos) D σ H := by
  refine ws_setLc2 hv hv1 hc nd (hN ▸ h.n) hyl hsw ok hs hs1 ?_
  rw [show (fun v H1 => D.nx (σ.set j (some v)) H1) = fun v H1 => D.nx (S v) H1 from by funext v H1; rw [h.q]]
  exact q
theorem we_lc1 {ifs : List Expr} (hi : Ix N i x) (hN : X.N = N) (hc : X.calm = true) (nd : X.N.Nodup) (ok : BlkOk X.N X.env.scope scope [(x, i)]) (hs : ∀ x, foldedSetIterable iter X.env x = pure x)
    (q : QL X elt (.Name x px) iter ifs scope [i] σ H Q) : QE X (.ListComp elt [⟨.Name x px, iter, ifs, 0⟩] scope pos) σ H Q := we_lc rfl hc nd ok hs q
theorem we_lcn2 {ifs ifs1 : List Expr} {y : Str} {j : Nat} {py : Pos} {iter1 : Expr} (hi : Ix N i x) (hj : Ix N j y) (hN : X.N = N) (hc : X.calm = true) (nd : X.N.Nodup) (ok : BlkOk X.N X.env.scope scope [(x, i), (y, j)]) (hs : ∀ x, foldedSetIterable iter X.env x = pure x) (hs1 : ∀ env x, foldedSetIterable iter1 env x = pure x)
    (q : QL2 X elt (.Name x px) iter (.Name y py) iter1 ifs ifs1 scope [i, j] [j] σ H Q) : QE X (.ListComp elt [⟨.Name x px, iter, ifs, 0⟩, ⟨.Name y py, iter1, ifs1, 0⟩] scope pos) σ H Q := we_lc2 rfl (by simp) hc nd ok hs hs1 q
theorem ws_lc1 {ifs : List Expr} {D : Ends} {y : Str} {j : Nat} {py spos : Pos} {σ' : Sl} (h : Tgt N σ y σ' S j) (hi : Ix N i x) (hN : X.N = N) (hc : X.calm = true) (nd : X.N.Nodup) (hyl : X.env.scope.names.lookup y = some .local)
    (hsw : swapsWith (.ListComp elt [⟨.Name x px, iter, ifs, 0⟩] scope pos) (some (.Name y py)) spos.line X.env = pure true) (ok : BlkOk X.N X.env.scope scope [(x, i)]) (hs : ∀ x, foldedSetIterable iter X.env x = pure x)
    (q : QL X elt (.Name x px) iter ifs scope [i] σ H fun v H1 => D.nx (S v) H1) : QS X (.Assign [.Name y py] (.ListComp elt [⟨.Name x px, iter, ifs, 0⟩] scope pos) spos) D σ H := ws_set1 h hN rfl hc nd hyl hsw ok hs q
theorem ws_lcn2 {ifs ifs1 : List Expr} {z : Str} {l : Nat} {D : Ends} {y : Str} {j : Nat} {py pz spos : Pos} {σ' : Sl} {iter1 : Expr} (h : Tgt N σ z σ' S l) (hi : Ix N i x) (hj : Ix N j y) (hN : X.N = N) (hc : X.calm = true) (nd : X.N.Nodup) (hyl : X.env.scope.names.lookup z = some .local)
    (hsw : swapsWith (.ListComp elt [⟨.Name x px, iter, ifs, 0⟩, ⟨.Name y py, iter1, ifs1, 0⟩] scope pos) (some (.Name z pz)) spos.line X.env = pure true) (ok : BlkOk X.N X.env.scope scope [(x, i), (y, j)]) (hs : ∀ x, foldedSetIterable iter X.env x = pure x) (hs1 : ∀ env x, foldedSetIterable iter1 env x = pure x)
    (q : QL2 X elt (.Name x px) iter (.Name y py) iter1 ifs ifs1 scope [i, j] [j] σ H fun v H1 => D.nx (S v) H1) : QS X (.Assign [.Name z pz] (.ListComp elt [⟨.Name x px, iter, ifs, 0⟩, ⟨.Name y py, iter1, ifs1, 0⟩] scope pos) spos) D σ H := ws_set2 h hN rfl (by simp) hc nd hyl hsw ok hs hs1 q
theorem flat_take {α : Type} (L : List α) (g : α → Nat → D) (m : Nat) : ∀ n, n ≤ L.length → flat (fun _ => m) (fun i j => (L[i]?).map fun r => g r j) n = (L.take n).flatMap fun r => (List.range m).map (g r)
  | 0, _ => rfl
  | n + 1, h => by
    rw [flat_succ, flat_take L g m n (by omega), List.take_succ, List.flatMap_append, List.getElem?_eq_getElem (by omega)]
    congr 1
    show bits m (fun j => some (g L[n] j)) = _
    rw [bits_rg]
    simp
theorem flat_map {α : Type} (L : List α) (g : α → Nat → D) (m : Nat) : flat (fun _ => m) (fun i j => (L[i]?).map fun r => g r j) L.length = L.flatMap fun r => (List.range m).map (g r) := by
  rw [flat_take L g m _ (Nat.le_refl _), List.take_length]
/-! ### loops -/
variable {body : List Stmt} {E : Ends} {tg : Expr}
/-- a turn -/
def Turn (X : Cx) (tg : Expr) (body : List Stmt) (E : Ends) (Pv : Nat → Sl → Hp → Prop) (k : Nat) (v : V) (σ : Sl) (H : Hp) : Prop :=
  QG X tg v σ H fun σ2 H2 => QB X body { E with nx := Pv (k + 1), ct := Pv (k + 1), bk := E.nx } σ2 H2
theorem ws_fort (hp : PassesOwn (model X.prog X.w) X.A X.env X.xe) (hc : X.calm = true) (hfs : ∀ x, foldedSetIterable iter X.env x = pure x)
    (q : QE X iter σ H fun v H1 => ∃ ds, Rp X.K H1 v (.tup ds) ∧ ∃ Pv : Nat → Sl → Hp → Prop, Pv 0 σ H1 ∧ (∀ k σ H', Pv k σ H' → Same H1 H') ∧
      (∀ k d w σ1 H2, ds[k]? = some d → Pv k σ1 H2 → Rp X.K H2 w d → Turn X tg body E Pv k w σ1 H2) ∧ (∀ σ1 H2, Pv ds.length σ1 H2 → E.nx σ1 H2)) : QS X (.For tg iter body [] pos) E σ H := by
  refine qs_for hp hc hfs (qi_tup (q.imp fun v H1 ⟨ds, r, Pv, h0, hS, hb, hd⟩ => ?_))
  obtain ⟨a, xs, rfl, h1, h2⟩ := r.tup_inv
  refine ⟨a, rfl, ⟨xs, h1⟩, xs.length, _, _, walk_tup (xs := xs), Pv, h0, fun k σ1 H2 _ p => Same.tupR (hS _ _ _ p) h1, ?_, by rw [h2.len]; exact hd⟩
  rintro k w σ1 H2 H3 hk p ⟨rfl, e⟩
  obtain ⟨d, e1, r1⟩ := (h2.to (hS _ _ _ p)).get e
  exact hb k d w σ1 H3 e1 p r1
theorem ws_forl (hp : PassesOwn (model X.prog X.w) X.A X.env X.xe) (hc : X.calm = true) (hfs : ∀ x, foldedSetIterable iter X.env x = pure x)
    (q : QE X iter σ H fun v H1 => ∃ ds, Rp X.K H1 v (.lst ds) ∧ ∃ Pv : Nat → Sl → Hp → Prop, Pv 0 σ H1 ∧ (∀ k σ H', Pv k σ H' → Same H1 H') ∧
      (∀ k d w σ1 H2, ds[k]? = some d → Pv k σ1 H2 → Rp X.K H2 w d → Turn X tg body E Pv k w σ1 H2) ∧ (∀ σ1 H2, Pv ds.length σ1 H2 → E.nx σ1 H2)) : QS X (.For tg iter body [] pos) E σ H := by
  refine qs_for hp hc hfs (qi_list (q.imp fun v H1 ⟨ds, r, Pv, h0, hS, hb, hd⟩ => ?_))
  obtain ⟨a, xs, rfl, h1, h2⟩ := r.lst_inv
  refine ⟨a, rfl, ⟨xs, h1⟩, xs.length, _, _, walk_list (xs := xs), Pv, h0, fun k σ1 H2 _ p => (hS _ _ _ p).seq h1, ?_, by rw [h2.len]; exact hd⟩
  rintro k w σ1 H2 H3 hk p ⟨rfl, e⟩
  obtain ⟨d, e1, r1⟩ := (h2.to (hS _ _ _ p)).get e
  exact hb k d w σ1 H3 e1 p r1
theorem ws_forr1 (hm : X.mg "range" = none) (hg : Gl X "range") (hp : PassesOwn (model X.prog X.w) X.A X.env X.xe) (hc : X.calm = true) (hfs : ∀ x, foldedSetIterable (.Call (.Name "range" rp) [a] [] rpos) X.env x = pure x) (hs1 : starEach [a] X.env = [(false, eval a X.env)])
    (q : QE X a σ H fun v H1 => ∃ j : Int, v = .int j ∧ (-(2 ^ 62) ≤ j ∧ j < 2 ^ 62) ∧ ∃ Pv : Nat → Sl → Hp → Prop, Pv 0 σ H1 ∧
      (∀ (k : Nat) σ1 H2, (k : Int) < j → Pv k σ1 H2 → Turn X tg body E Pv k (.int k) σ1 H2) ∧ (∀ σ1 H2, Pv j.toNat σ1 H2 → E.nx σ1 H2)) : QS X (.For tg (.Call (.Name "range" rp) [a] [] rpos) body [] pos) E σ H := by
  refine qs_for hp hc hfs (qi_range1 hm hg hs1 (q.imp fun v H1 ⟨j, e, hj, Pv, h0, hb, hd⟩ => ⟨j, e, hj, _, _, _, walk_range, Pv, h0, fun _ _ _ _ _ => trivial, ?_, hd⟩))
  rintro k w σ1 H2 H3 hk p ⟨rfl, rfl⟩
  have := hb k σ1 H3 (by omega) p
  dsimp only
  rw [show (0 : Int) + (k : Nat) = (k : Int) by omega]
  exact this
theorem ws_forr2 (hm : X.mg "range" = none) (hg : Gl X "range") (hp : PassesOwn (model X.prog X.w) X.A X.env X.xe) (hc : X.calm = true) (hfs : ∀ x, foldedSetIterable (.Call (.Name "range" rp) [a, b] [] rpos) X.env x = pure x) (hs1 : starEach [a, b] X.env = [(false, eval a X.env), (false, eval b X.env)]) (hs2 : starEach [b] X.env = [(false, eval b X.env)])
    (q : QE X a σ H fun v H0 => QE X b σ H0 fun w H1 => ∃ i j : Int, v = .int i ∧ w = .int j ∧ (-(2 ^ 62) ≤ i ∧ i < 2 ^ 62 ∧ -(2 ^ 62) ≤ j ∧ j < 2 ^ 62) ∧ ∃ Pv : Nat → Sl → Hp → Prop, Pv 0 σ H1 ∧
      (∀ (k : Nat) σ1 H2, i + (k : Int) < j → Pv k σ1 H2 → Turn X tg body E Pv k (.int (i + k)) σ1 H2) ∧ (∀ σ1 H2, Pv (j - i).toNat σ1 H2 → E.nx σ1 H2)) : QS X (.For tg (.Call (.Name "range" rp) [a, b] [] rpos) body [] pos) E σ H := by
  refine qs_for hp hc hfs (qi_range2 hm hg hs1 hs2 (q.imp fun v H0 q1 => q1.imp fun w H1 ⟨i, j, e, e2, hj, Pv, h0, hb, hd⟩ => ⟨i, j, e, e2, hj, _, _, _, walk_range, Pv, h0, fun _ _ _ _ _ => trivial, ?_, hd⟩))
  rintro k w σ1 H2 H3 hk p ⟨rfl, rfl⟩
  exact hb k σ1 H3 (by omega) p
end
end Sx

/-! Sw: a def by what its body is to bring. -/
namespace Sx
open PySem PySem.Spec PyProof.Rows L2
section
variable {P : Program} {w : World} {K : PySem.W.Frag} {mg : Str → Option Value} {base : Heap}
theorem okS {x qual : Str} {st : Stmt} {f : Addr} {fd : FuncData} {N ps : List Str} {k : Nat} {sp : Sp} (F : Fun K x qual st f fd) (S : FnScope N ps (defScope st)) (len : ∀ vs H Q E, sp vs H Q E → vs.length = ps.length)
    (hbody : ∀ (cdv : Value) (A : Around) (outer : List Env) (s : Shared) (H : Hp) (vs : List V) (Q : VK) (E : XK), Room k (A.deeper (envOfC qual (defScope st) s.heap.objs.size f cdv)) → sp vs H Q E →
      (cxOf CX0 P w K mg base N qual (defScope st) f cdv A outer s H E).nox.N = N → (cxOf CX0 P w K mg base N qual (defScope st) f cdv A outer s H E).nox.N.Nodup →
      QB (cxOf CX0 P w K mg base N qual (defScope st) f cdv A outer s H E).nox (defBody st) { nx := fun _ H' => Q .non H', rt := Q } (start N vs) H) : FnOk P w K mg base CX0 (k + 1) f fd ps sp :=
  F.ok S len fun cdv A outer s H vs Q E hr h => ⟨_, pss_sem, hbody cdv A outer s H vs Q E hr h rfl S.nd⟩
theorem okXS {x qual : Str} {st : Stmt} {f : Addr} {fd : FuncData} {N ps : List Str} {k : Nat} {sp : Sp} (F : Fun K x qual st f fd) (S : FnScope N ps (defScope st)) (len : ∀ vs H Q E, sp vs H Q E → vs.length = ps.length)
    (hbody : ∀ (cdv : Value) (A : Around) (outer : List Env) (s : Shared) (H : Hp) (vs : List V) (Q : VK) (E : XK), Room k (A.deeper (envOfC qual (defScope st) s.heap.objs.size f cdv)) → sp vs H Q E →
      (cxOf (L2.CX P w) P w K mg base N qual (defScope st) f cdv A outer s H E).N = N → (cxOf (L2.CX P w) P w K mg base N qual (defScope st) f cdv A outer s H E).N.Nodup →
      Takes (cxOf (L2.CX P w) P w K mg base N qual (defScope st) f cdv A outer s H E) (fun c d _ H' => E c d H') →
      QB (cxOf (L2.CX P w) P w K mg base N qual (defScope st) f cdv A outer s H E) (defBody st) { nx := fun _ H' => Q .non H', rt := Q } (start N vs) H) : FnOk P w K mg base (L2.CX P w) (k + 1) f fd ps sp :=
  F.okX S len fun cdv A outer s H vs Q E hr h => ⟨_, pss_sem, hbody cdv A outer s H vs Q E hr h rfl S.nd (takes_of rfl rfl rfl rfl)⟩
end
end Sx

/-! Sv: a list that is written (a law's state), slices, comprehensions that write it. -/
namespace Sx
open PySem PySem.Spec PyProof.Rows L2

def D.isN : D → Bool
  | .non => true
  | _ => false
section
variable {X : Cx} {e hi : Expr} {σ : Sl} {H : Hp} {Q : VK} {x y v : V} {pos p2 : Pos} {d : D}
theorem we_gref {x : Str} {a : Addr} (hm : X.mg x = some (.ref a)) (hg : Gl X x) (q : Q (.ref a) H) (hdb : (x == ("__debug__" : Str)) = false := by decide) : QE X (.Name x pos) σ H Q := we_gval hm hg (v := .ref a) rfl q hdb
theorem we_sliceHi (q : QE X e σ H fun x H1 => QE X hi σ H1 fun u H2 => ∃ a xs i, x = .ref a ∧ u = .int i ∧ SqL X.K H2 a xs ∧ ∀ p H3, H2 p = none → Same H2 H3 → H3 p = some (.lst (cutV xs none (some i))) → Q (.ref p) H3) : QE X (.Subscript e (.Slice none (some hi) none p2) pos) σ H Q := by
  refine we_of (pe_slice sl_list pe_sem po_none (po_some pe_sem)) ?_
  intro pins s I
  refine thn (q pins s I) fun u s1 ⟨x, H1, I1, r1, q1⟩ => ⟨x, H1, I1, r1, ?_⟩
  show QE X hi σ H1 _
  exact q1.imp fun u H2 ⟨a, xs, i, e1, e2, hq, z⟩ => ⟨i, e2, a, xs, e1, hq, fun p hp => z p _ hp (same_new hp) upd_same⟩
theorem cut_all {xs : List V} {k : Nat} (h : xs.length ≤ k) : cutV xs none (some (k : Int)) = xs := by
  unfold cutV
  rw [HT.sIx_none, HT.sIx_nat, Nat.min_eq_right h]
  simp
theorem opw_isN (h : Rp X.K H x d) (q : Q (.bl d.isN) H) : OpW X (compareOp .Is) x .non H Q := by
  refine opw_of op_isN ⟨rfl, ?_⟩
  have : decide (x = V.non) = d.isN := by cases h <;> simp [D.isN]
  rw [this]
  exact q
end
/-! ### the state: a list of two ints -/
def St (a : Addr) (H : Hp) : Prop := ∃ s t : Int, H a = some (.lst [.int s, .int t])
/-- all but the state as it was -/
structure Ke (a : Addr) (H H' : Hp) : Prop where
  s : ∀ b o, b ≠ a → H b = some o → H' b = some o
  t : St a H'
section
variable {K : PySem.W.Frag} {a : Addr} {H H' H2 : Hp}
theorem St.lst (h : St a H) : Lst H a := ⟨_, h.choose_spec.choose_spec⟩
theorem Ke.refl (h : St a H) : Ke a H H := ⟨fun _ _ _ e => e, h⟩
theorem Ke.trans (h : Ke a H H') (g : Ke a H' H2) : Ke a H H2 := ⟨fun b o n e => g.s b o n (h.s b o n e), g.t⟩
theorem Ke.of_same (h : St a H) (s : Same H H') : Ke a H H' := ⟨fun b o _ e => s b o e, h.choose, h.choose_spec.choose, s _ _ h.choose_spec.choose_spec⟩
theorem St.same (h : St a H) (s : Same H H') : St a H' := (Ke.of_same h s).t
theorem Ke.rp {v : V} {d : D} (k : Ke a H H') (h0 : St a H) (h : Rp K H v d) (m : d.im = true) : Rp K H' v d := Rp.keep h0.lst k.s d v m h
theorem Ke.rpA {v : List V} {d : List D} (k : Ke a H H') (h0 : St a H) (h : RpAll K H v d) (m : imAll d = true) : RpAll K H' v d := RpAll.keep h0.lst k.s d v m h
end
/-- what _law_take promises -/
def spTake : Sp := fun vs H Q _ => ∃ (a : Addr) (m : Int), vs = [.ref a, .int m] ∧ (0 < m ∧ m < 1073741824) ∧ St a H ∧ ∀ (r : Int) H', 0 ≤ r → r < m → Ke a H H' → Q (.int r) H'
section
variable {X : Cx} {elt b : Expr} {scope : Scope} {N : List Str} {σ σw : Sl} {S : V → Sl} {H : Hp} {Q : VK} {x : Str} {i : Nat} {px pos rp rpos : Pos} {a : Expr}
/-- [elt for x in range(a)], elt writes the state at A -/
theorem ql_st (hm : X.mg "range" = none) (hg : Gl X "range") (h : Tgt N σ x σw S i) (hN : X.N = N) (nd : X.N.Nodup)
    (hl : ∀ s H0 C cl fp, Loc (X.blk s H0 scope (compEnvC scope cl C X.env) fp).env.scope x) (hf : ∀ s H0 C cl fp, (X.blk s H0 scope (compEnvC scope cl C X.env) fp).fn x = true ∨ (X.blk s H0 scope (compEnvC scope cl C X.env) fp).env.scope.names.lookup x = some .local)
    (hs1 : starEach [a] X.env = [(false, eval a X.env)])
    (q : QE X a σ H fun v H1 => ∃ j : Int, v = .int j ∧ (-(2 ^ 62) ≤ j ∧ j < sizeLine) ∧ ∃ (A : Addr) (p : D → Prop), St A H1 ∧ (∀ d, p d → d.im = true) ∧
      (∀ (k : Nat) H2, (k : Int) < j → Ke A H1 H2 → BE X scope elt (S (.int k)) H2 fun y H3 => Ke A H2 H3 ∧ ∃ d, p d ∧ Rp X.K H3 y d) ∧
      ∀ P H2 ys ds, Ke A H1 H2 → H1 P = none → H2 P = some (.lst ys) → RpAll X.K H2 ys ds → ds.length = j.toNat → (∀ d ∈ ds, p d) → Q (.ref P) H2) : QL X elt (.Name x px) (.Call (.Name "range" rp) [a] [] rpos) [] scope [i] σ H Q := by
  refine qi_range1 hm hg hs1 (q.imp fun v H1 ⟨j, e, hj, A, p, hA, him, hb, hq⟩ => ⟨j, e, by have := sizeLine_eq; omega, ?_⟩)
  intro Dl hD
  have nA : A ≠ Dl := by
    obtain ⟨s, t, z⟩ := hA
    exact ne_of_none z hD
  have hw : wipe σ [i] = σw := by show (wipe σ []).set i none = σw; exact h.w
  refine lc_it walk_range (fun k H => Ke A H1 H ∧ ∃ acc ds, H Dl = some (.lst acc) ∧ RpAll X.K H acc ds ∧ ds.length = k ∧ ∀ d ∈ ds, p d) ⟨Ke.of_same hA (same_new hD), [], [], upd_same, .nil, rfl, by simp⟩ (fun _ _ _ _ => trivial) ?_ ?_
  · rintro k v H2 H3 hk ⟨k2, acc, ds, e1, r1, l1, p1⟩ ⟨rfl, rfl⟩
    rw [hw]
    intro s H0 C cl fp
    refine wg_of (pg_name (i := i) nd (by show X.N[i]? = some x; rw [hN]; exact h.n) (hl s H0 C cl fp) (hf s H0 C cl fp)) ?_
    show wipe (σw.set i (some _)) [i] = σw ∧ _
    rw [h.p]
    refine ⟨by show (S _).set i none = σw; exact h.b _, ?_⟩
    delta QT1 tYes
    dsimp only
    rw [if_pos rfl, show (0 : Int) + (k : Nat) = (k : Int) by omega]
    intro s H0 C cl fp
    refine (hb k H3 (by omega) k2 s H0 C cl fp).imp fun y H4 ⟨k4, d, pd, rd⟩ => ?_
    have e4 : H4 Dl = some (.lst acc) := k4.s _ _ nA.symm e1
    have im : imAll ds = true := imAll_iff.mpr fun d hd => him d (p1 d hd)
    have r4 := k4.rpA k2.t r1 im
    have hk' : ∀ b o, b ≠ Dl → H4 b = some o → (upd H4 Dl (.lst (acc ++ [y]))) b = some o := fun b o n q => by rw [upd_ne n]; exact q
    refine ⟨acc, e4, by rw [r1.len, l1]; omega, ⟨fun b o n z => ?_, ?_⟩, acc ++ [y], ds ++ [d], upd_same, ?_, by simp [l1], ?_⟩
    · rw [upd_ne (ne_of_none z hD)]
      exact k4.s _ _ n (k2.s _ _ n z)
    · obtain ⟨s, t, z⟩ := k4.t
      exact ⟨s, t, by rw [upd_ne nA]; exact z⟩
    · exact (RpAll.keep ⟨acc, e4⟩ hk' _ _ im r4).snoc (Rp.keep ⟨acc, e4⟩ hk' _ _ (him d pd) rd)
    · intro z hz
      rw [List.mem_append] at hz
      rcases hz with hz | hz
      · exact p1 z hz
      · simp at hz
        rw [hz]
        exact pd
  · rintro H2 ⟨k2, acc, ds, e1, r1, l1, p1⟩
    exact hq Dl H2 acc ds k2 hD e1 r1 l1 p1
end
/-! ### the suites of a try -/
def SU (X : Cx) (su : List Stmt) : TSu := fun a k d E σ H => ∀ (o : Obj) (pn : List (Addr × Obj)), Zc k d o → (∃ vs, o.data = .fields vs) → QB (X.suite a ((a, o) :: pn)) su E σ H
theorem su_sem {X : Cx} {su : List Stmt} : ∀ (a : Addr) (o : Obj) (k : Value) (d : Option Addr) (pn : List (Addr × Obj)), Zc k d o → (∃ vs, o.data = .fields vs) → PSs (X.suite a ((a, o) :: pn)) su (SU X su a k d) :=
  fun a o k d pn hz hf => ⟨fun pins s σ H E I h => h o pn hz hf pins s I⟩
end Sx

/-! So: own classes: fields, methods, instances made, operators, own errors with an own __init__. -/
namespace Sx
open PySem PySem.Spec PyProof.Rows L2

/-- a method of the class at C, as its callers see it -/
structure MetX (P : Program) (w : World) (K : PySem.W.Frag) (mg : Str → Option Value) (base : Heap) (CX : CXT) (k : Nat) (C : Addr) (m : Str) (sp : Sp) : Prop where
  ex : ∃ (f : Addr) (fd : FuncData) (ps : List Str), FnOk P w K mg base CX k f fd ps sp ∧ Meth K C m f ∧ Binds K fd ps []
/-- the class at C, made by its name x; dvs: defaults -/
structure MakX (P : Program) (w : World) (K : PySem.W.Frag) (mg : Str → Option Value) (base : Heap) (CX : CXT) (k : Nat) (x : Str) (C : Addr) (sp : Sp) : Prop where
  at_ : mg x = some (.ref C)
  ex : ∃ (f : Addr) (fd : FuncData) (ps : List Str), FnOk P w K mg base CX k f fd ps sp ∧ Mk K C f ∧ Binds K fd ps []
/-- the same with the last parameter's default -/
structure MakD (P : Program) (w : World) (K : PySem.W.Frag) (mg : Str → Option Value) (base : Heap) (CX : CXT) (k : Nat) (x : Str) (C : Addr) (sp : Sp) (dvs : List V) : Prop where
  at_ : mg x = some (.ref C)
  ex : ∃ (f : Addr) (fd : FuncData) (ps : List Str) (ds : List Value), FnOk P w K mg base CX k f fd ps sp ∧ Mk K C f ∧ Binds K fd ps ds ∧ Vals dvs ds

section
variable (X : Cx)
def FldW (x : V) (f : Str) (H : Hp) (Q : VK) : Prop := ∃ a C dx fs v, x = .ref a ∧ H a = some (.ins C dx fs) ∧ Cls X.K C ∧ NoAttr X.K C f ∧ fs.lookup f = some v ∧ Q v H
end
section
variable {K : PySem.W.Frag} {H : Hp}
theorem RpAll.look : ∀ {fs : List (Str × V)} {ds : List D} {f : Str} {d : D}, RpAll K H (fs.map (·.2)) ds → ((fs.map (·.1)).zip ds).lookup f = some d → ∃ v, fs.lookup f = some v ∧ Rp K H v d
  | [], _, _, _, _, e => by simp at e
  | (n, u) :: r, ds, f, d, h, e => by
    cases h with
    | @cons _ _ d0 ds0 h1 h2 =>
      rw [List.map_cons, List.zip_cons_cons, List.lookup_cons] at e
      rw [List.lookup_cons]
      by_cases hf : f == n
      · rw [hf] at e ⊢
        cases e
        exact ⟨u, rfl, h1⟩
      · rw [Bool.eq_false_iff.mpr hf] at e ⊢
        exact RpAll.look h2 e
end
section
variable {X : Cx} {e o : Expr} {es : List Expr} {σ : Sl} {H : Hp} {Q : VK} {x y : V} {f m : Str} {pos p apos : Pos} {C : Addr} {ns : List Str} {ds : List D} {d : D} {E : Ends} {W : WX} {j k : Nat} {sp : Sp}
theorem we_fld (hb : attributeBase e f X.env (eval e X.env) = eval e X.env) (q : QE X e σ H fun x H1 => FldW X x f H1 Q) : QE X (.Attribute e f pos) σ H Q := we_of (pe_fld pe_sem hb) q
theorem fldw_obj (c : Cls X.K C) (n : NoAttr X.K C f) (h : Rp X.K H x (.obj C ns ds)) (e : (ns.zip ds).lookup f = some d) (q : ∀ v, Rp X.K H v d → Q v H) : FldW X x f H Q := by
  cases h with
  | @obj a _ dx fs _ _ h1 h2 h3 =>
    subst h2
    obtain ⟨v, h4, h5⟩ := h3.look e
    exact ⟨a, C, dx, fs, v, rfl, h1, c, n, h4, q v h5⟩
theorem fldw_raw {a dx : Addr} {fs : List (Str × V)} {v : V} (c : Cls X.K C) (n : NoAttr X.K C f) (h : H a = some (.ins C dx fs)) (e : fs.lookup f = some v) (q : Q v H) : FldW X (.ref a) f H Q := ⟨a, C, dx, fs, v, rfl, h, c, n, e, q⟩
theorem ws_fld {value : Expr} {pos' : Pos} (hs : swapsWith value (some (.Attribute o f pos')) pos.line X.env = pure false)
    (q : QE X value σ H fun y H1 => QE X o σ H1 fun x H2 => ∃ a C dx fs, x = .ref a ∧ H2 a = some (.ins C dx fs) ∧ Cls X.K C ∧ NoAttr X.K C f ∧ fs.length < 1000 ∧ E.nx σ (upd H2 a (.ins C dx (putF f y fs)))) : QS X (.Assign [.Attribute o f pos'] value pos) E σ H :=
  ws_of (ps_fld pe_sem pe_sem hs) q
/-! methods -/
theorem we_meth {pl : Sem Bool} (c : Cls X.K C) (mt : MetX X.prog X.w X.K X.mg X.base CX0 k C m sp) (hr : Room j X.A) (hk : k ≤ j)
    (q : QE X o σ H fun x H1 => ∃ a dx fs, x = .ref a ∧ H1 a = some (.ins C dx fs) ∧ fs.lookup m = none ∧ QA X (e :: es) σ H1 fun vs H2 => sp (x :: vs) H2 Q L2.E0)
    (hst : starEach (e :: es) X.env = (false, eval e X.env) :: starEach es X.env) (hpl : (backTo pos (starEach es X.env)).any (·.1) = false)
    (ht : eval (.Call (.Attribute o m apos) (e :: es) [] pos) X.env = (do
      let ov ← eval o X.env
      standAt apos.atName
      let (f, first) ← holding [ov] (getMethod ov m pl)
      callWith pos f first (backTo pos (starEach (e :: es) X.env)) (backToKw pos (keywordEach [] X.env)))) : QE X (.Call (.Attribute o m apos) (e :: es) [] pos) σ H Q := by
  obtain ⟨f, fd, ps, F, hm, b⟩ := mt.ex
  refine we_of (pe_meth pe_sem c hm F (hr.mono hk) b .nil pass0 pa_sem hst hpl ht) ?_
  refine q.imp fun x H1 ⟨a, dx, fs, e1, e2, e3, z⟩ => ⟨a, dx, fs, e1, e2, e3, ?_⟩
  intro ps2 pins s I
  refine thn (z ps2 pins s I) fun us s1 ⟨vs, H2, I2, r, w⟩ => ⟨vs, H2, I2, r, by dsimp only; rw [List.append_nil]; exact w⟩
theorem we_methX {pl : Sem Bool} (c : Cls X.K C) (mt : MetX X.prog X.w X.K X.mg X.base (L2.CX X.prog X.w) k C m sp) (tk : Takes X W) (hr : Room j X.A) (hk : k ≤ j)
    (q : QE X o σ H fun x H1 => ∃ a dx fs, x = .ref a ∧ H1 a = some (.ins C dx fs) ∧ fs.lookup m = none ∧ QA X (e :: es) σ H1 fun vs H2 => sp (x :: vs) H2 Q fun c d H' => ∀ σ, W c d σ H')
    (hst : starEach (e :: es) X.env = (false, eval e X.env) :: starEach es X.env) (hpl : (backTo pos (starEach es X.env)).any (·.1) = false)
    (ht : eval (.Call (.Attribute o m apos) (e :: es) [] pos) X.env = (do
      let ov ← eval o X.env
      standAt apos.atName
      let (f, first) ← holding [ov] (getMethod ov m pl)
      callWith pos f first (backTo pos (starEach (e :: es) X.env)) (backToKw pos (keywordEach [] X.env)))) : QE X (.Call (.Attribute o m apos) (e :: es) [] pos) σ H Q := by
  obtain ⟨f, fd, ps, F, hm, b⟩ := mt.ex
  refine we_of (pe_meth pe_sem c hm F (hr.mono hk) b .nil (passX tk σ) pa_sem hst hpl ht) ?_
  refine q.imp fun x H1 ⟨a, dx, fs, e1, e2, e3, z⟩ => ⟨a, dx, fs, e1, e2, e3, ?_⟩
  intro ps2 pins s I
  refine thn (z ps2 pins s I) fun us s1 ⟨vs, H2, I2, r, w⟩ => ⟨vs, H2, I2, r, by dsimp only; rw [List.append_nil]; exact w⟩
theorem we_meth0 {pl : Sem Bool} (c : Cls X.K C) (mt : MetX X.prog X.w X.K X.mg X.base CX0 k C m sp) (hr : Room j X.A) (hk : k ≤ j)
    (q : QE X o σ H fun x H1 => ∃ a dx fs, x = .ref a ∧ H1 a = some (.ins C dx fs) ∧ fs.lookup m = none ∧ sp [x] H1 Q L2.E0)
    (ht : eval (.Call (.Attribute o m apos) [] [] pos) X.env = (do
      let ov ← eval o X.env
      standAt apos.atName
      let (f, first) ← holding [ov] (getMethod ov m pl)
      callWith pos f first (backTo pos (starEach [] X.env)) (backToKw pos (keywordEach [] X.env)))) : QE X (.Call (.Attribute o m apos) [] [] pos) σ H Q := by
  obtain ⟨f, fd, ps, F, hm, b⟩ := mt.ex
  exact we_of (pe_meth0 pe_sem c hm F (hr.mono hk) b .nil pass0 ht) q
/-! an instance made -/
theorem we_make (mk : MakX X.prog X.w X.K X.mg X.base (L2.CX X.prog X.w) k m C sp) (tk : Takes X W) (hr : Room j X.A) (hk : k + 1 ≤ j) (hg : Gl X m)
    (q : QA X (e :: es) σ H fun vs H1 => ∀ x dx H2, H1 x = none → Same H1 H2 → H2 x = some (.ins C dx []) → H2 dx = some (.own x) → dx ≠ x → sp (.ref x :: vs) H2 (fun v H3 => v = .non ∧ Q (.ref x) H3) fun c d H' => ∀ σ, W c d σ H')
    (hdb : (m == ("__debug__" : Str)) = false := by decide) (he : starEach (e :: es) X.env = (false, eval e X.env) :: starEach es X.env := by rfl) (hpl : (backTo pos (starEach es X.env)).any (·.1) = false := by rfl) : QE X (.Call (.Name m p) (e :: es) [] pos) σ H Q := by
  obtain ⟨f, fd, ps, F, M, b⟩ := mk.ex
  refine we_of (pe_make M F (hr.mono hk) hg mk.at_ b .nil (passX tk σ) pa_sem hdb he hpl) ?_
  intro ps2 pins s I
  refine thn (q ps2 pins s I) fun us s1 ⟨vs, H1, I1, r, z⟩ => ⟨vs, H1, I1, r, fun x dx hx hd hne => ?_⟩
  rw [List.append_nil]
  have s1' : Same H1 (upd H1 dx (.own x)) := same_new hd
  have hx2 : (upd H1 dx (.own x)) x = none := by rw [upd_ne hne.symm]; exact hx
  exact z x dx _ hx (s1'.trans (same_new hx2)) upd_same (by rw [upd_ne hne]; exact upd_same) hne
theorem we_makeD {dvs : List V} (mk : MakD X.prog X.w X.K X.mg X.base (L2.CX X.prog X.w) k m C sp dvs) (tk : Takes X W) (hr : Room j X.A) (hk : k + 1 ≤ j) (hg : Gl X m)
    (q : QA X (e :: es) σ H fun vs H1 => ∀ x dx H2, H1 x = none → Same H1 H2 → H2 x = some (.ins C dx []) → H2 dx = some (.own x) → dx ≠ x → sp (.ref x :: (vs ++ dvs)) H2 (fun v H3 => v = .non ∧ Q (.ref x) H3) fun c d H' => ∀ σ, W c d σ H')
    (hdb : (m == ("__debug__" : Str)) = false := by decide) (he : starEach (e :: es) X.env = (false, eval e X.env) :: starEach es X.env := by rfl) (hpl : (backTo pos (starEach es X.env)).any (·.1) = false := by rfl) : QE X (.Call (.Name m p) (e :: es) [] pos) σ H Q := by
  obtain ⟨f, fd, ps, ds, F, M, b, hd0⟩ := mk.ex
  refine we_of (pe_make M F (hr.mono hk) hg mk.at_ b hd0 (passX tk σ) pa_sem hdb he hpl) ?_
  intro ps2 pins s I
  refine thn (q ps2 pins s I) fun us s1 ⟨vs, H1, I1, r, z⟩ => ⟨vs, H1, I1, r, fun x dx hx hd hne => ?_⟩
  have s1' : Same H1 (upd H1 dx (.own x)) := same_new hd
  have hx2 : (upd H1 dx (.own x)) x = none := by rw [upd_ne hne.symm]; exact hx
  exact z x dx _ hx (s1'.trans (same_new hx2)) upd_same (by rw [upd_ne hne]; exact upd_same) hne
end
/-! operators -/
section
variable {X : Cx} {σ : Sl} {H : Hp} {Q : VK} {x y : V} {C : Addr} {W : WX} {j k : Nat} {sp : Sp} {a : Addr} {dx : Addr} {fs : List (Str × V)}
theorem inst_at {pins : List (Addr × Obj)} {s : Shared} (I : Inv X pins σ H s) (h : H a = some (.ins C dx fs)) : ∃ ox od, PySem.W.InstAt s.heap a ox C od := by
  obtain ⟨mA, J, _⟩ := ins_get I.hok h
  obtain ⟨od, J, _⟩ := J.look
  exact ⟨_, _, J⟩
/-- x op y by the own method, y of the same class -/
theorem opw_own {op : Operator} (mt : MetX X.prog X.w X.K X.mg X.base (L2.CX X.prog X.w) k C (PySem.dunder op.info.2) sp) (hc : PySem.W.selfFirst X.K C = true) (tk : Takes X W) (hr : Room j X.A) (hk : k ≤ j) {b dy : Addr} {gs : List (Str × V)}
    (ha : H a = some (.ins C dx fs)) (hb : H b = some (.ins C dy gs)) (q : sp [.ref a, .ref b] H Q fun c d H' => ∀ σ, W c d σ H') : OpW X (binaryOp op) (.ref a) (.ref b) H Q := by
  obtain ⟨f, fd, ps, F, hm, bd⟩ := mt.ex
  intro pins s σ u v I ru rv
  cases (show u = Value.ref a from ru)
  cases (show v = Value.ref b from rv)
  obtain ⟨ox, od, J⟩ := inst_at I ha
  obtain ⟨oy, od', J'⟩ := inst_at I hb
  obtain ⟨m, hF⟩ := I.fr
  refine PySem.W.binop_K hF I.ok.mod.kin J J'.type hc hm.at_ hm.fn ?_
  refine wpAny_mono (run_fn (us := [.ref a, .ref b]) (vs := [.ref a, .ref b]) F (hr.mono hk) bd .nil (passX tk σ) I (.cons rfl (.cons rfl .nil)) q) (fun w s' z => ?_) fun _ _ x => x
  obtain ⟨z', H', I', rz, qz⟩ := z
  exact SlX.cmpback rz ⟨z', H', I', rz, qz⟩
/-- .. y of a built-in type T -/
theorem opw_ownT {op : Operator} {T : String} {fo ro rc : Option Value} (mt : MetX X.prog X.w X.K X.mg X.base (L2.CX X.prog X.w) k C (PySem.dunder op.info.2) sp) (hc : PySem.W.selfFirst X.K C = true) (tk : Takes X W) (hr : Room j X.A) (hk : k ≤ j)
    (hrr : PySem.W.findIn X.K (.ref C) (PySem.dunderR op.info.2) = some rc) (hp : rc = none ∨ ∃ g : Addr, rc = some (.ref g)) (h1 : PySem.W.findIn X.K (.type T) (PySem.dunder op.info.2) = some fo) (h2 : PySem.W.findIn X.K (.type T) (PySem.dunderR op.info.2) = some ro) (hsub : PySem.W.subIn X.K (.type T) (.ref C) = some false)
    (hty : ∀ u, RelV y u → typeOf u = pure (.type T)) (ha : H a = some (.ins C dx fs)) (q : sp [.ref a, y] H Q fun c d H' => ∀ σ, W c d σ H') : OpW X (binaryOp op) (.ref a) y H Q := by
  obtain ⟨f, fd, ps, F, hm, bd⟩ := mt.ex
  intro pins s σ u v I ru rv
  cases (show u = Value.ref a from ru)
  obtain ⟨ox, od, J⟩ := inst_at I ha
  obtain ⟨m, hF⟩ := I.fr
  refine PySem.W.ksp_binT hF I.ok.mod.kin J (hty v rv) hc hm.at_ hm.fn hrr hp h1 h2 hsub ?_
  refine wpAny_mono (run_fn (us := [.ref a, v]) (vs := [.ref a, y]) F (hr.mono hk) bd .nil (passX tk σ) I (.cons rfl (.cons rv .nil)) q) (fun w s' z => ?_) fun _ _ x => x
  obtain ⟨z', H', I', rz, qz⟩ := z
  exact SlX.cmpback rz ⟨z', H', I', rz, qz⟩
/-- the class of a datum, looked up in a heap -/
theorem looks_ty {d : D} {n : String} {v : V} {u : Value} {pins : List (Addr × Obj)} {s : Shared} (h : Rp X.K H v d) (e : d.ty = some n) (I : Inv X pins σ H s) (r : RelV v u) : PySem.W.Looks (model X.prog X.w) s.heap (typeOf u) (.type n) := by
  cases h with
  | non => cases e; cases r; exact PySem.W.Looks.of_pure rfl
  | bl b => cases e; cases r; exact PySem.W.Looks.of_pure rfl
  | int i => cases e; obtain ⟨t, rfl⟩ := r; exact PySem.W.Looks.of_pure rfl
  | str x => cases e; obtain ⟨t, rfl⟩ := r; exact PySem.W.Looks.of_pure rfl
  | tup h1 h2 =>
    cases e
    cases r
    obtain ⟨its, rv, ⟨o, ho, hc, _⟩, hz⟩ := I.tuple h1
    exact fun A Q E s k q => wpAny_typeOf_ref (k _ _ ho) (by rw [hc]; exact q)
  | lst h1 h2 =>
    cases e
    cases r
    obtain ⟨its, rv, ⟨o, n0, ho, hc, _⟩, hz⟩ := I.list h1
    exact fun A Q E s k q => wpAny_typeOf_ref (k _ _ ho) (by rw [hc]; exact q)
  | obj _ _ _ => cases e
open PySem.W in
/-- an own operator, the second thing of a built-in class that the first is asked ahead of -/
theorem bin_mixed {prog : Program} {w : World} {A : Around} {EE : Value → Shared → Prop} {s : Shared} {KK : Frag} {xx CC LL ff : Addr} {hh0 : Heap} {mm : Str → Option Value} {ox : Obj} {od : Option Obj} {T : String} {op : Operator} {b : Value} {fo ro rc : Option Value} {QQ : Value → Shared → Prop}
    (Fr0 : Fr hh0 LL s.heap mm) (KI : KK.In hh0) (I : InstAt s.heap xx ox CC od) (tb : Looks (model prog w) s.heap (typeOf b) (.type T)) (first : selfFirst KK CC = true)
    (at_ : findIn KK (.ref CC) (PySem.dunder op.info.2) = some (some (.ref ff))) (fn : isFn KK (.ref ff) = true) (right : findIn KK (.ref CC) (dunderR op.info.2) = some rc) (rp : rc = none ∨ ∃ g : Addr, rc = some (.ref g))
    (f1 : findIn KK (.type T) (PySem.dunder op.info.2) = some fo) (f2 : findIn KK (.type T) (dunderR op.info.2) = some ro) (below : subIn KK (.type T) (.ref CC) = some false)
    (go : wpAny (model prog w) A (call (.ref ff) [.ref xx, b]) (PySem.W.CmpBack QQ) EE s) : wpAny (model prog w) A (binaryOp op (.ref xx) b) QQ EE s := by
  have now := KI.keeps Fr0.keep
  obtain ⟨cd, rest, hcd, hm⟩ := ksp_first first
  rcases opi : op.info with ⟨sg, nm⟩
  rw [opi] at at_ right f1 f2
  dsimp only at at_ right f1 f2
  have tried := ksp_try now I at_ fn go
  obtain ⟨hp, g, d, tt, os⟩ := s
  have l1 : Looks (model prog w) hp (typeOf (.ref xx)) (.ref CC) := I.type
  have l3 : Looks (model prog w) hp (fillsNumberSlot (.ref CC) nm) true := fills_K now hcd hm at_
  have l4 : Looks (model prog w) hp (fillsNumberSlot (.type T) nm) ((fo.isSome && !isSeqSlot fo) || (ro.isSome && !isSeqSlot ro)) := ksp_fillsT now f1 f2
  have l5 : Looks (model prog w) hp (isSubtype (.type T) (.ref CC)) false := looks_subIn now below
  have l6 : Looks (model prog w) hp (numberSlotInPython (.ref CC) nm) true := ksp_inPy now at_ right rp
  have l7 : Looks (model prog w) hp (numberSlotInPython (.type T) nm) false := Looks.of_pure rfl
  have l8 : Looks (model prog w) hp (typeLookup (.type T) (dunderR nm)) ro := looks_findIn now f2
  generalize ((fo.isSome && !isSeqSlot fo) || (ro.isSome && !isSeqSlot ro)) = rgt at l4
  have other : (Value.ref CC == Value.type T) = false := Bool.eq_false_iff.mpr fun z => nomatch (beq_iff_eq.mp z)
  simp only [binaryOp, opi]
  refine wpAny_holding (wpAny_bind ?_)
  unfold binaryOp1
  refine wpAny_bind (l1.at (wpAny_bind (tb.at (wpAny_bind (l3.at ?_)))))
  simp only [other, Bool.false_eq_true, if_false]
  cases rgt <;>
  · ksp_lk
    refine wpAny_mono tried (fun r s' z => ?_) fun _ _ y => y
    obtain ⟨v, rfl, hv⟩ := z
    ksp_lk
    exact hv
theorem opw_ownD {op : Operator} {d : D} {n : String} {fo ro rc : Option Value} (mt : MetX X.prog X.w X.K X.mg X.base (L2.CX X.prog X.w) k C (PySem.dunder op.info.2) sp) (hc : PySem.W.selfFirst X.K C = true) (tk : Takes X W) (hr : Room j X.A) (hk : k ≤ j)
    (hrr : PySem.W.findIn X.K (.ref C) (PySem.dunderR op.info.2) = some rc) (hp : rc = none ∨ ∃ g : Addr, rc = some (.ref g)) (h1 : PySem.W.findIn X.K (.type n) (PySem.dunder op.info.2) = some fo) (h2 : PySem.W.findIn X.K (.type n) (PySem.dunderR op.info.2) = some ro) (hsub : PySem.W.subIn X.K (.type n) (.ref C) = some false)
    (rp : Rp X.K H y d) (ed : d.ty = some n) (ha : H a = some (.ins C dx fs)) (q : sp [.ref a, y] H Q fun c d H' => ∀ σ, W c d σ H') : OpW X (binaryOp op) (.ref a) y H Q := by
  obtain ⟨f, fd, ps, F, hm, bd⟩ := mt.ex
  intro pins s σ u v I ru rv
  cases (show u = Value.ref a from ru)
  obtain ⟨ox, od, J⟩ := inst_at I ha
  obtain ⟨m, hF⟩ := I.fr
  refine bin_mixed hF I.ok.mod.kin J (looks_ty rp ed I rv) hc hm.at_ hm.fn hrr hp h1 h2 hsub ?_
  refine wpAny_mono (run_fn (us := [.ref a, v]) (vs := [.ref a, y]) F (hr.mono hk) bd .nil (passX tk σ) I (.cons rfl (.cons rv .nil)) q) (fun w s' z => ?_) fun _ _ x => x
  obtain ⟨z', H', I', rz, qz⟩ := z
  exact SlX.cmpback rz ⟨z', H', I', rz, qz⟩
theorem callw_len_st {xs : List V} (h : SqT X.K H a xs) (q : Q (.int xs.length) H) : CallW X (.builtin "len") [.ref a] H Q := callw_of call_len ⟨.ref a, xs.length, rfl, .inr ⟨xs, h, rfl⟩, q⟩
theorem unw_own (mt : MetX X.prog X.w X.K X.mg X.base (L2.CX X.prog X.w) k C "__neg__" sp) (tk : Takes X W) (hr : Room j X.A) (hk : k ≤ j)
    (ha : H a = some (.ins C dx fs)) (q : sp [.ref a] H Q fun c d H' => ∀ σ, W c d σ H') : UnW X (unaryOp .USub) (.ref a) H Q := by
  obtain ⟨f, fd, ps, F, hm, bd⟩ := mt.ex
  intro pins s σ u I ru
  cases (show u = Value.ref a from ru)
  obtain ⟨ox, od, J⟩ := inst_at I ha
  obtain ⟨m, hF⟩ := I.fr
  refine PySem.W.ksp_neg hF I.ok.mod.kin J hm.at_ hm.fn ?_
  exact run_fn (us := [.ref a]) (vs := [.ref a]) F (hr.mono hk) bd .nil (passX tk σ) I (.cons rfl .nil) q
/-- x == y by the own method; tb: y's class -/
theorem opw_eqO {tb : Value} (mt : MetX X.prog X.w X.K X.mg X.base CX0 k C "__eq__" sp) (hr : Room j X.A) (hk : k ≤ j) (hn : PySem.W.notFirst X.K C tb = true)
    (hty : ∀ pins σ s u, Inv X pins σ H s → RelV y u → PySem.W.Looks (model X.prog X.w) s.heap (typeOf u) tb) (ha : H a = some (.ins C dx fs)) (q : sp [.ref a, y] H Q L2.E0) : OpW X (compareOp .Eq) (.ref a) y H Q := by
  obtain ⟨f, fd, ps, F, hm, bd⟩ := mt.ex
  intro pins s σ u v I ru rv
  cases (show u = Value.ref a from ru)
  obtain ⟨ox, od, J⟩ := inst_at I ha
  obtain ⟨m, hF⟩ := I.fr
  show wpAny (model X.prog X.w) X.A (richCompare .Eq (.ref a) v) (EP X pins σ Q) X.xe s
  refine PySem.W.cmp_K (op := .Eq) (tb := tb) hr.units0 hF I.ok.mod.kin J (hty pins σ s v I rv) hn hm.at_ hm.fn ?_
  refine wpAny_mono (run_fn (us := [.ref a, v]) (vs := [.ref a, y]) F (hr.mono hk) bd .nil pass0 I (.cons rfl (.cons rv .nil)) q) (fun w s' z => ?_) fun _ _ x => x
  obtain ⟨z', H', I', rz, qz⟩ := z
  exact SlX.cmpback rz ⟨z', H', I', rz, qz⟩
end
/-! an own error whose __init__ calls its base's -/
section
variable {X : Cx} {e : Expr} {es : List Expr} {σ : Sl} {H : Hp} {Q : VK} {x : Str} {p1 p2 pos : Pos} {E : Ends} {W : WX}
theorem pe_clsinit {C0 : Addr} {mc : Value} {ta : TA} {pl : Sem Bool} (hg : Gl X x) (hm : X.mg x = some (.ref C0)) (hsp : PySem.W.specialIn X.K (.ref C0) "__getattribute__" = some (some (.builtin "type.__getattribute__")))
    (hty : PySem.W.typeIn X.K (.ref C0) = some mc) (hrd : PySem.W.readsIn X.K C0 mc = true) (vV : PySem.W.findCls X.K (.ref C0) mc "__init__" = some (.val (.builtin "ValueError.__init__"))) (ha : PA X (e :: es) ta)
    (hc : eval (.Call (.Attribute (.Name x p1) "__init__" p2) (e :: es) [] pos) X.env = (do
      let ov ← eval (.Name x p1) X.env
      standAt p2.atName
      let (f, first) ← holding [ov] (getMethod ov "__init__" pl)
      callWith pos f first (backTo pos (starEach (e :: es) X.env)) (backToKw pos (keywordEach [] X.env))))
    (he : starEach (e :: es) X.env = (false, eval e X.env) :: starEach es X.env) (hpl : (backTo pos (starEach es X.env)).any (·.1) = false) (hdb : (x == ("__debug__" : Str)) = false) :
    PE X (.Call (.Attribute (.Name x p1) "__init__" p2) (e :: es) [] pos) (tVeI X.K ta) := by
  refine ⟨fun pins s σ H Q I h => ?_⟩
  refine PySem.W.methodCall_KW (ld_glob I hg hm ?_ hdb) hc
  obtain ⟨m, fr⟩ := I.fr
  refine PySem.W.method_of_cls fr I.ok.mod.kin hsp (PySem.W.cls_val fr I.ok.mod.kin hty hrd vV (by decide +kernel) ?_)
  show wpAny _ _ (callWith pos (Value.builtin "ValueError.__init__") [] (backTo pos (starEach (e :: es) X.env)) []) _ _ _
  refine PyProof.Rows.callWith_method1 (thn (ha.run pos pins _ σ H _ (I.tok _) h) fun us s1 ⟨vs, H1, I1, r1, a, C, ws, ev, hl, T, ea, q⟩ => ?_) he hpl
  subst ev
  cases r1 with
  | @cons _ u0 _ ur ra rw' =>
    obtain rfl : u0 = Value.ref a := ra
    exact oinit_ok T I1 ea (by rw [← Paired.length rw', sizeLine_eq]; omega) fun s' J => ⟨.non, H1, J, rfl, q⟩
theorem we_clsinit {C0 : Addr} {mc : Value} {pl : Sem Bool} (hg : Gl X x) (hm : X.mg x = some (.ref C0)) (hsp : PySem.W.specialIn X.K (.ref C0) "__getattribute__" = some (some (.builtin "type.__getattribute__")))
    (hty : PySem.W.typeIn X.K (.ref C0) = some mc) (hrd : PySem.W.readsIn X.K C0 mc = true) (vV : PySem.W.findCls X.K (.ref C0) mc "__init__" = some (.val (.builtin "ValueError.__init__")))
    (q : QA X (e :: es) σ H fun vs H1 => ∃ (a C : Addr) (ws : List V), vs = .ref a :: ws ∧ ws.length ≤ 1000 ∧ OexC X.K C ∧ H1 a = some (exo a C none) ∧ Q .non H1)
    (hc : eval (.Call (.Attribute (.Name x p1) "__init__" p2) (e :: es) [] pos) X.env = (do
      let ov ← eval (.Name x p1) X.env
      standAt p2.atName
      let (f, first) ← holding [ov] (getMethod ov "__init__" pl)
      callWith pos f first (backTo pos (starEach (e :: es) X.env)) (backToKw pos (keywordEach [] X.env))))
    (he : starEach (e :: es) X.env = (false, eval e X.env) :: starEach es X.env) (hpl : (backTo pos (starEach es X.env)).any (·.1) = false) (hdb : (x == ("__debug__" : Str)) = false) :
    QE X (.Call (.Attribute (.Name x p1) "__init__" p2) (e :: es) [] pos) σ H Q := we_of (pe_clsinit hg hm hsp hty hrd vV pa_sem hc he hpl hdb) q
theorem ws_ost {o : Expr} {f : Str} {p' : Pos} {C : Addr} (hs : swapsWith e (some (.Attribute o f p')) pos.line X.env = pure false) (T : OexC X.K C) (hno : PySem.W.findIn X.K (.ref C) f = some none)
    (q : QE X e σ H fun y H1 => QE X o σ H1 fun x H2 => ∃ a : Addr, x = .ref a ∧ H2 a = some (exo a C none) ∧ ∀ dx, H2 dx = none → dx ≠ a → E.nx σ (upd (upd H2 dx (exd dx [(f, y)])) a (exo a C (some dx)))) : QS X (.Assign [.Attribute o f p'] e pos) E σ H := by
  refine ws_of (ps_ost pe_sem pe_sem hs) ?_
  exact q.imp fun y H1 z => z.imp fun x H2 ⟨a, e1, e2, w⟩ => ⟨a, C, e1, T, hno, .inl ⟨e2, w⟩⟩
/-- what an own error's __init__ promises: its one field f -/
def spErr (C : Addr) (f : Str) : Sp := fun vs H Q _ => ∃ (a : Addr) (v : V), vs = [.ref a, v] ∧ H a = some (exo a C none) ∧ ∀ dx, H dx = none → dx ≠ a → Q .non (upd (upd H dx (exd dx [(f, v)])) a (exo a C (some dx)))
/-- raise C('m') -/
theorem ws_raiseR {C fI : Addr} {k j : Nat} {fd : FuncData} {ps : List Str} {f m : Str} {jm : Nat} {pm cpos : Pos} (hcal : X.calm = true) (tk : Takes X W) (T : OexC X.K C) (iC : PySem.W.findIn X.K (.ref C) "__init__" = some (some (.ref fI))) (tI : PySem.W.typeIn X.K (.ref fI) = some (.type "function"))
    (F1 : FnOk X.prog X.w X.K X.mg X.base CX0 k fI fd ps (spErr C f)) (hr : Room j X.A) (hk : k + 1 ≤ j) (hb : Binds X.K fd ps []) (hg : Gl X x) (hm : X.mg x = some (.ref C))
    (q : ∀ d H', H d = none → Same H H' → H' d = some (.xd [(f, .str m)]) → W (.ref C) (some d) σ H')
    (hdb : (x == ("__debug__" : Str)) = false) (he : starEach [.Constant (.str m) jm pm] X.env = (false, eval (.Constant (.str m) jm pm) X.env) :: starEach [] X.env) (hpl : (backTo cpos (starEach [] X.env)).any (·.1) = false) :
    QS X (.Raise (some (.Call (.Name x p1) [.Constant (.str m) jm pm] [] cpos)) none pos) E σ H := by
  refine ws_of (ps_raise hcal tk (pmk_oex T iC tI F1 (hr.mono hk) hb .nil pass0 hg hm (pa_cons pe_str pa_nil he) hdb he hpl)) ?_
  refine ⟨by simp, fun a ha => ⟨a, .str m, rfl, upd_same, fun dx hdx hne => ⟨rfl, dx, [(f, .str m)], upd_same, by rw [upd_ne hne]; exact upd_same, ?_, ?_⟩⟩⟩
  · rw [upd_ne hne] at hdx
    exact hdx
  · rw [upd_ne hne] at hdx
    refine q dx _ hdx (fun b u hb => ?_) upd_same
    have n1 : b ≠ a := ne_of_none hb ha
    have n2 : b ≠ dx := ne_of_none hb hdx
    rw [upd_ne n2, del_ne n1, upd_ne n1, upd_ne n2, upd_ne n1]
    exact hb
/-- err.f in a suite -/
theorem we_xf {a C : Addr} {oe : Obj} {d : Option Addr} {pn : List (Addr × Obj)} {n : Str} (T : XfC X.K C) (hno : PySem.W.findIn X.K (.ref C) n = some none) (hz : Zc (.ref C) d oe) (hf : ∃ vs, oe.data = .fields vs)
    (hb : attributeBase e n (X.suite a ((a, oe) :: pn)).env (eval e (X.suite a ((a, oe) :: pn)).env) = eval e (X.suite a ((a, oe) :: pn)).env)
    (q : QE (X.suite a ((a, oe) :: pn)) e σ H fun x H1 => x = .ref a ∧ ∃ (dd : Addr) (fs : List (Str × V)) (v : V), d = some dd ∧ H1 dd = some (.xd fs) ∧ fs.lookup n = some v ∧ Q v H1) : QE (X.suite a ((a, oe) :: pn)) (.Attribute e n pos) σ H Q := by
  refine we_of (pe_xf T hno hz hf pe_sem hb) ?_
  exact q.imp fun x H1 ⟨e1, z⟩ => ⟨e1, rfl, z⟩
/-! str(x) by the own __str__; f-texts -/
theorem callw_strOwn {C a dx : Addr} {fs : List (Str × V)} {k j : Nat} {sp : Sp} (mt : MetX X.prog X.w X.K X.mg X.base CX0 k C "__str__" sp) (hr : Room j X.A) (hk : k + 2 ≤ j) (ha : H a = some (.ins C dx fs)) (q : sp [.ref a] H (fun v H' => ∃ z, v = .str z ∧ Q v H') L2.E0) : CallW X (.type "str") [.ref a] H Q := by
  obtain ⟨f, fd, ps, F, hm, bd⟩ := mt.ex
  intro pins s σ us I r
  obtain ⟨u, rfl, ru⟩ := r.one
  cases (show u = Value.ref a from ru)
  obtain ⟨ox, od, J⟩ := inst_at I ha
  have hr1 : Room (k + 1) X.A.in1 := Room.in1 (hr.mono hk)
  have hr2 : Room k X.A.in1.in1 := hr1.in1
  refine PySem.W.kso_call hr2.units0 I.kIn J hm.at_ hm.fn (wpAny_mono (wpAny_call (SlX.run_at (us := [.ref a]) (ws := [.ref a]) (F.raw bd .nil) hr2 I.env0.in1.in1 pass0 I (.cons rfl .nil) q)) (fun w s' z => ?_) fun _ _ x => x)
  obtain ⟨z', H', I', rz, y, ei, qz⟩ := z
  subst ei
  obtain ⟨t, e⟩ := (show ∃ t, w = Value.str y t from rz)
  cases e
  exact ⟨.str y, H', I', ⟨t, rfl⟩, qz⟩
theorem we_fmt {pos : Pos} (q : QE X e σ H fun x H1 => ∃ i : Int, x = .int i ∧ i.natAbs.log2 < 1920 ∧ Q (.str (toString i)) H1) : QE X (.FormattedValue e (-1) none pos) σ H Q :=
  we_of (pe_fmt pe_sem) (q.imp fun x H1 ⟨i, e, h, z⟩ => .inr ⟨i, e, h, z⟩)
theorem str_assoc (a b c : Str) : Str.empty ++ a ++ b ++ c = a ++ (b ++ c) := by
  obtain ⟨a⟩ := a
  obtain ⟨b⟩ := b
  obtain ⟨c⟩ := c
  show Str.mk (#[] ++ a ++ b ++ c) = Str.mk (a ++ (b ++ c))
  rw [Array.empty_append, Array.append_assoc]
theorem str_len (a b : Str) : (a ++ b).length = a.length + b.length := by
  obtain ⟨a⟩ := a
  obtain ⟨b⟩ := b
  show (a ++ b).size = a.size + b.size
  exact Array.size_append
theorem we_joined3 {v1 v2 v3 : Expr} {pos : Pos} (q : QE X v1 σ H fun x H1 => ∃ a : Str, x = .str a ∧ a.length ≤ sizeLine ∧ QE X v2 σ H1 fun y H2 => ∃ b : Str, y = .str b ∧ a.length + b.length ≤ sizeLine ∧ QE X v3 σ H2 fun z H3 => ∃ c : Str, z = .str c ∧ a.length + b.length + c.length ≤ sizeLine ∧ Q (.str (a ++ (b ++ c))) H3) :
    QE X (.JoinedStr [v1, v2, v3] pos) σ H Q := by
  have l0 : (Str.empty).length = 0 := rfl
  refine we_of (pe_joined (.cons (t := QE X v1) pe_sem (.cons (t := QE X v2) pe_sem (.cons (t := QE X v3) pe_sem .nil)))) ?_
  refine q.imp fun x H1 ⟨a, e1, z1, q1⟩ => ⟨a, e1, by rw [str_len, l0]; omega, ?_⟩
  refine q1.imp fun y H2 ⟨b, e2, z2, q2⟩ => ⟨b, e2, by rw [str_len, str_len, l0]; omega, ?_⟩
  refine q2.imp fun z H3 ⟨c, e3, z3, q3⟩ => ⟨c, e3, by rw [str_len, str_len, str_len, l0]; omega, ?_⟩
  show Q (.str (Str.empty ++ a ++ b ++ c)) H3
  rw [str_assoc]
  exact q3
theorem we_meth0X {o : Expr} {C : Addr} {k j : Nat} {sp : Sp} {m : Str} {apos pos : Pos} {pl : Sem Bool} (c : Cls X.K C) (mt : MetX X.prog X.w X.K X.mg X.base (L2.CX X.prog X.w) k C m sp) (tk : Takes X W) (hr : Room j X.A) (hk : k ≤ j)
    (q : QE X o σ H fun x H1 => ∃ a dx fs, x = .ref a ∧ H1 a = some (.ins C dx fs) ∧ fs.lookup m = none ∧ sp [x] H1 Q fun c d H' => ∀ σ, W c d σ H')
    (ht : eval (.Call (.Attribute o m apos) [] [] pos) X.env = (do
      let ov ← eval o X.env
      standAt apos.atName
      let (f, first) ← holding [ov] (getMethod ov m pl)
      callWith pos f first (backTo pos (starEach [] X.env)) (backToKw pos (keywordEach [] X.env)))) : QE X (.Call (.Attribute o m apos) [] [] pos) σ H Q := by
  obtain ⟨f, fd, ps, F, hm, b⟩ := mt.ex
  exact we_of (pe_meth0 pe_sem c hm F (hr.mono hk) b .nil (passX tk σ) ht) q
/-- a local name that holds a def; what leaves it is wished for at these slots -/
theorem we_callLS {N : List Str} {i j k : Nat} {f : Addr} {fd : FuncData} {ps : List Str} {sp : Sp} {p0 pos : Pos} {y : Str} (F : FnOk X.prog X.w X.K X.mg X.base (L2.CX X.prog X.w) k f fd ps sp) (kp : PySem.W.keepIn X.K (.ref f) = true) (b : Binds X.K fd ps []) (tk : Takes X W) (hr : Room j X.A) (hk : k ≤ j)
    (h : Var N σ y (.ref f) i) (hN : X.N = N) (hv : Vis X.env.scope y) (q : QA X (e :: es) σ H fun vs H1 => sp vs H1 Q fun c d H' => W c d σ H')
    (hdb : (y == ("__debug__" : Str)) = false) (hcd : (y == ("__classdict__" : Str)) = false) (he : starEach (e :: es) X.env = (false, eval e X.env) :: starEach es X.env) (hpl : (backTo pos (starEach es X.env)).any (·.1) = false) :
    QE X (.Call (.Name y p0) (e :: es) [] pos) σ H Q := by
  intro pins s I
  refine wpAny_Call_Name_kw (thn ((pe_var (i := i) (pos := p0) (hN ▸ h.n) hv hdb hcd).run pins s σ H (fun v H1 => v = .ref f ∧ H1 = H) I ⟨.ref f, h.v, rfl, rfl⟩) fun u s1 ⟨v, H1, I1, r1, q1⟩ => ?_)
  obtain ⟨rfl, rfl⟩ := q1
  cases r1
  refine PySem.W.callWith_K (h₀ := X.base) I.ok.mod.kin kp (thn (q pos pins s1 I1) fun us s2 ⟨vs, H2, I2, r, q2⟩ => ⟨I2.kIn, ?_⟩) he hpl
  have hl := F.len _ _ _ _ q2
  refine wpAny_call (codeAny_mono (F.run X.A X.stack s2 H2 ⟨us, []⟩ us vs Q _ (hr.mono hk) I2.env0 (by
    have := b s2 us I2.kIn (by rw [List.append_nil, ← r.length]; exact hl)
    rwa [List.append_nil] at this) r q2) fun r s' hq => ?_)
  cases r with
  | error e => exact passAt tk σ pins H2 s2 e s' I2 hq
  | ok fl =>
    cases fl with
    | ret w => exact I2.after hq
    | next => exact False.elim hq
    | brk => exact False.elim hq
    | cont => exact False.elim hq
/-! isinstance(x, C) -/
theorem isi_any {C a dx : Addr} {fs : List (Str × V)} {c : V} {u : Value} {b : Bool} (I : C8.InsC X.K C) (h : H a = some (.ins C dx fs)) (hc : ClsV c u) (k : PySem.W.kitOne X.K (.ref C) u = some b) (q : Q (.bl b) H) : CallW X (.builtin "isinstance") [.ref a, c] H Q :=
  callw_of call_isi ⟨.ref a, c, .ref C, u, b, rfl, hc, .base (TyOf.ins h I.cl I.ha I.hn I.htk I.hm), k, q⟩
theorem isi_own {C a dx : Addr} {fs : List (Str × V)} (I : C8.InsC X.K C) (h : H a = some (.ins C dx fs)) (q : Q (.bl true) H) : CallW X (.builtin "isinstance") [.ref a, .ref C] H Q := isi_any I h (.own C) I.me q
theorem isi_not {C : Addr} {v : V} {d : D} {n : String} (h : Rp X.K H v d) (e : d.ty = some n) (k : PySem.W.kitOne X.K (.type n) (.ref C) = some false) (q : Q (.bl false) H) : CallW X (.builtin "isinstance") [v, .ref C] H Q :=
  callw_of call_isi ⟨v, .ref C, .type n, .ref C, false, rfl, .own C, h.tyx e, k, q⟩
end
/-! a def with defaults -/
section
variable {P : Program} {w : World} {K : PySem.W.Frag} {mg : Str → Option Value} {base : Heap}
theorem okXD {x qual : Str} {st : Stmt} {f : Addr} {fd : FuncData} {N ps : List Str} {k : Nat} {sp : Sp} {dvs : List V} {kws : List (Str × V)} (F : FunD K x qual (defArgs st) (defBody st) (defScope st) dvs kws f fd) (S : FnScope N ps (defScope st)) (len : ∀ vs H Q E, sp vs H Q E → vs.length = ps.length)
    (hbody : ∀ (cdv : Value) (A : Around) (outer : List Env) (s : Shared) (H : Hp) (vs : List V) (Q : VK) (E : XK), Room k (A.deeper (envOfC qual (defScope st) s.heap.objs.size f cdv)) → sp vs H Q E →
      (cxOf (L2.CX P w) P w K mg base N qual (defScope st) f cdv A outer s H E).N = N → (cxOf (L2.CX P w) P w K mg base N qual (defScope st) f cdv A outer s H E).N.Nodup →
      Takes (cxOf (L2.CX P w) P w K mg base N qual (defScope st) f cdv A outer s H E) (fun c d _ H' => E c d H') →
      QB (cxOf (L2.CX P w) P w K mg base N qual (defScope st) f cdv A outer s H E) (defBody st) { nx := fun _ H' => Q .non H', rt := Q } (start N vs) H) : FnOk P w K mg base (L2.CX P w) (k + 1) f fd ps sp :=
  F.ok S len fun cdv A outer s H vs Q E hr h => ⟨_, pss_sem, hbody cdv A outer s H vs Q E hr h rfl S.nd (takes_of rfl rfl rfl rfl)⟩
/-- a def with one default, as it stands behind the top -/
theorem funD_mk {x qual : Str} {st : Stmt} {f T : Addr} {oc : Value} {od an : Option Addr} {osl : Array (Option Value)} {kV doc pm cdv ct : Value} {o : Obj} {it : Value} {n : Nat} {dv : V} (l : K.lookup f = some ⟨oc, od, .func (PySem.W.fnOf x qual (defArgs st) (defBody st) (defScope st) (.ref T) kV doc pm an cdv ct), osl⟩)
    (c : PySem.W.codeIn K cdv qual = true) (k : PySem.W.keepIn K (.ref f) = true) (lT : K.lookup T = some o) (oT : o.data = .seq [it].toArray n) (r : RelV dv it) : FunD K x qual (defArgs st) (defBody st) (defScope st) [dv] [] f (PySem.W.fnOf x qual (defArgs st) (defBody st) (defScope st) (.ref T) kV doc pm an cdv ct) :=
  ⟨⟨oc, od, _, kV, doc, pm, an, cdv, ct, osl, rfl, l, c, .inr ⟨by simp, T, o, [it], n, rfl, lT, oT, .cons r .nil⟩, .inl rfl⟩, k⟩
end
end Sx

/-! Sz: zip of any two of lists and tuples, enumerate of a list or a tuple: b tells which (true: a tuple). -/
namespace Sx
open PySem PySem.Spec PyProof.Rows L2

def SqB (K : PySem.W.Frag) (b : Bool) (H : Hp) (a : Addr) (xs : List V) : Prop := match b with
  | true => SqT K H a xs
  | false => SqL K H a xs
def ItB (b : Bool) (h : Heap) (it l : Addr) (i : Nat) : Prop := match b with
  | true => h.IsTupleIter it l i
  | false => h.IsListIter it l i
def IsB (b : Bool) (h : Heap) (l : Addr) (items : Array Value) : Prop := match b with
  | true => h.IsTuple l items
  | false => h.IsList l items
def itObj (b : Bool) (l : Addr) : Obj := match b with
  | true => { cls := .type "tuple_iterator", data := .fields #[.ref l, .int 0 0] }
  | false => { cls := .type "list_iterator", data := .fields #[.ref l, .int 0 0] }
section
variable {X : Cx} {pins : List (Addr × Obj)} {σ : Sl} {H : Hp} {s : Shared} {b : Bool} {a : Addr} {xs ys : List V}
theorem SqB.to {K : PySem.W.Frag} {H H' : Hp} (h : SqB K b H a xs) (e : Same H H') : SqB K b H' a xs := by
  cases b
  · exact e.seq h
  · exact Same.tupR e h
theorem SqB.is (I : Inv X pins σ H s) (h : SqB X.K b H a xs) : ∃ its : List Value, Vals xs its ∧ IsB b s.heap a its.toArray := by
  cases b
  · obtain ⟨its, r, p, _⟩ := I.list h
    exact ⟨its, r, p.isList⟩
  · obtain ⟨its, r, p, _⟩ := I.tuple h
    exact ⟨its, r, p⟩
theorem IsB.lt {h : Heap} {items : Array Value} (p : IsB b h a items) : a < h.objs.size := by
  cases b <;> obtain ⟨o, e, _⟩ := p <;> exact Heap.lt_size e
theorem ItB.at {h h' : Heap} {it l : Addr} {i : Nat} (p : ItB b h it l i) (k : ∀ o, h.get? it = some o → h'.get? it = some o) : ItB b h' it l i := by
  cases b
  · exact Heap.IsListIter.at p k
  · exact Heap.IsTupleIter.at p k
theorem ItB.obj {h : Heap} {it l : Addr} {i : Nat} (p : ItB b h it l i) : ∃ o, h.get? it = some o ∧ ∀ v, o.data ≠ .cell v := by
  cases b <;> obtain ⟨o, e, _, d⟩ := p <;> exact ⟨o, e, fun v q => by rw [d] at q; cases q⟩
theorem itObj_new {h : Heap} {it : Addr} (e : h.get? it = some (itObj b a)) : ItB b h it a 0 := by
  cases b <;> exact ⟨_, e, rfl, rfl⟩
theorem drawB {prog : Program} {w : World} {A : Around} (hh : A.handled = none) (it l : Addr) (hne : l ≠ it) (items : Array Value) :
    Draws prog w A it [it, l] items.size (fun i v => items[i]? = some v) (fun i h => ItB b h it l i ∧ IsB b h l items) := by
  cases b
  · exact Draws.list hh it l hne items
  · exact Draws.tuple hh it l hne items
theorem begB (l : Addr) (items : Array Value) : Begins (.ref l) (itObj b l) fun h => IsB b h l items := by
  cases b
  · exact begins_list l items
  · exact begins_tuple l items
end
/-- pairs of what stands in xs and in ys -/
def ItZ (K : PySem.W.Frag) (b1 b2 : Bool) (a1 a2 : Addr) (xs ys : List V) : It :=
  ⟨fun i H => (SqB K b1 H a1 xs ∧ SqB K b2 H a2 ys) ∧ i < min xs.length ys.length, fun i H v H' => ∃ T x y, v = .ref T ∧ H T = none ∧ H' = upd H T (.tup [x, y]) ∧ xs[i]? = some x ∧ ys[i]? = some y, fun i H => (SqB K b1 H a1 xs ∧ SqB K b2 H a2 ys) ∧ i = min xs.length ys.length⟩
theorem walk_z {K : PySem.W.Frag} {b1 b2 : Bool} {a1 a2 : Addr} {xs ys : List V} : Walk (ItZ K b1 b2 a1 a2 xs ys) (min xs.length ys.length) (fun H => SqB K b1 H a1 xs ∧ SqB K b2 H a2 ys) (YPair (fun i => xs[i]?) (fun i => ys[i]?)) :=
  ⟨fun i H hi h => ⟨h, hi⟩, fun H h => ⟨h, rfl⟩, fun i H v H' _ _ y => y⟩
theorem tup2_new {P : Program} {w : World} {H : Hp} {h : Heap} {T : Addr} {x y : V} {u v : Value} (rx : RelV x u) (ry : RelV y v) (hT : h.IsTuple T #[u, v]) : ObjOk P w (upd H T (.tup [x, y])) h T (.tup [x, y]) := by
  obtain ⟨o, e, c, n, d⟩ := hT
  exact ⟨by show 2 ≤ sizeLine; decide, [u, v], .cons rx (.cons ry .nil), ⟨o, e, c, n, d⟩⟩
theorem turn_z {P : Program} {w : World} {K : PySem.W.Frag} {elts : List Expr} {kk : Nat} {tpos : Pos} {b1 b2 : Bool} {a1 a2 z TI TO i1 i2 : Addr} {xs ys : List V} (S : ZipSep2 z TI TO i1 i2 [i1, a1] [i2, a2]) (n1 : a1 ≠ i1) (n2 : a2 ≠ i2) :
    L2.Turn P w K (.Tuple elts kk tpos) (ItZ K b1 b2 a1 a2 xs ys) [z, TI, TO, i1, i2] z (fun i h => IsZip h z TI TO .none ∧ IsTupOf2 h TI (.ref i1) (.ref i2) ∧ (∃ x y, IsTupOf2 h TO x y) ∧ ItB b1 h i1 a1 i ∧ ItB b2 h i2 a2 i) where
  mem := by simp
  obj := fun i h st c hc => by
    obtain ⟨s1, s2, ⟨x, y, s3⟩, s4, s5⟩ := st
    simp only [List.mem_cons, List.not_mem_nil, or_false] at hc
    rcases hc with rfl | rfl | rfl | rfl | rfl
    · exact ⟨_, s1, fun v q => nomatch q⟩
    · exact ⟨_, s2, fun v q => nomatch q⟩
    · exact ⟨_, s3, fun v q => nomatch q⟩
    · exact s4.obj
    · exact s5.obj
  keep := fun i h h' st k => by
    obtain ⟨s1, s2, ⟨x, y, s3⟩, s4, s5⟩ := st
    exact ⟨k _ (by simp) _ s1, k _ (by simp) _ s2, ⟨x, y, k _ (by simp) _ s3⟩, s4.at (k _ (by simp)), s5.at (k _ (by simp))⟩
  item := by
    intro X hP hw hK hc i pins s σ H E I hf st hg
    subst hP hw hK
    obtain ⟨s1, s2, s3, s4, s5⟩ := st
    obtain ⟨⟨q1, q2⟩, hi⟩ := hg
    obtain ⟨it1, r1, p1⟩ := q1.is I
    obtain ⟨it2, r2, p2⟩ := q2.is I
    have hh : X.A.in1.handled = none := I.ok.hd hc
    have l1 := r1.length
    have l2 := r2.length
    have W := WalksT.zipD2 S (drawB (prog := X.prog) (w := X.w) (b := b1) hh i1 a1 n1 it1.toArray) (drawB (b := b2) hh i2 a2 n2 it2.toArray)
    refine W.item i s _ E (by simp only [List.size_toArray]; omega) ⟨s1, s2, s3, ⟨s4, p1⟩, s5, p2⟩ fun T vals h' tk hv hT hIs hMid hk => ?_
    obtain ⟨u1, u2, e1, e2, rfl⟩ := hv
    refine ⟨_, rfl, W.go elts kk tpos i T { s with heap := h', toks := tk } _ _ hMid fun h2 st2 hk2 => ?_⟩
    have hT2 : h2.IsTuple T #[u1, u2] := hIs.at fun o e => hk2 T o (W.apart i T h' hMid) e
    obtain ⟨x, hx, rx⟩ : ∃ x, xs[i]? = some x ∧ RelV x u1 := by
      obtain ⟨u, hu, ru⟩ := r1.get (i := i) (x := xs[i]'(by omega)) (by simp)
      have : it1[i]? = some u1 := by simpa using e1
      rw [this] at hu
      cases hu
      exact ⟨_, by simp, ru⟩
    obtain ⟨y, hy, ry⟩ : ∃ y, ys[i]? = some y ∧ RelV y u2 := by
      obtain ⟨u, hu, ru⟩ := r2.get (i := i) (x := ys[i]'(by omega)) (by simp)
      have : it2[i]? = some u2 := by simpa using e2
      rw [this] at hu
      cases hu
      exact ⟨_, by simp, ru⟩
    have hne : ∀ c, c ∉ [z, TI, TO, i1, i2] → c ∉ [z, TO, i1, i2] := fun c hc hm => hc (by
      simp only [List.mem_cons, List.not_mem_nil, or_false] at hm ⊢
      rcases hm with h | h | h | h <;> simp [h])
    have I1 := I.turnedNew (t' := tk) (ch := [z, TI, TO, i1, i2]) (h' := h2) (fun c o hb q => hk2 c o (hne c hb) (hk c o (hne c hb) q)) hf hT (tup2_new rx ry hT2)
    obtain ⟨t1, t2, t3, ⟨t4, _⟩, t5, _⟩ := st2
    refine ⟨.ref T, _, I1, rfl, ⟨T, x, y, rfl, I.hok.fresh hT, rfl, hx, hy⟩, ⟨t1, t2, t3, t4, t5⟩, fun c hcm => ?_⟩
    have hlt : c < s.heap.objs.size := by
      obtain ⟨x0, y0, s3⟩ := s3
      simp only [List.mem_cons, List.not_mem_nil, or_false] at hcm
      rcases hcm with rfl | rfl | rfl | rfl | rfl
      · exact Heap.lt_size s1
      · exact Heap.lt_size s2
      · exact Heap.lt_size s3
      · obtain ⟨o, e, _⟩ := s4.obj; exact Heap.lt_size e
      · obtain ⟨o, e, _⟩ := s5.obj; exact Heap.lt_size e
    rw [upd_ne (Nat.ne_of_lt (Nat.lt_of_lt_of_le hlt hT))]
    exact (hf c hcm).1
  done := by
    intro X hP hw hK hc i pins s σ H E I hf st hg
    subst hP hw hK
    obtain ⟨s1, s2, s3, s4, s5⟩ := st
    obtain ⟨⟨q1, q2⟩, rfl⟩ := hg
    obtain ⟨it1, r1, p1⟩ := q1.is I
    obtain ⟨it2, r2, p2⟩ := q2.is I
    have hh : X.A.in1.handled = none := I.ok.hd hc
    have W := WalksT.zipD2 S (drawB (prog := X.prog) (w := X.w) (b := b1) hh i1 a1 n1 it1.toArray) (drawB (b := b2) hh i2 a2 n2 it2.toArray)
    rw [r1.length, r2.length] at s4 s5
    refine W.done s _ E (by simp only [List.size_toArray]; exact ⟨s1, s2, s3, ⟨s4, p1⟩, s5, p2⟩) fun h' tk hk => ⟨rfl, I.turnedL (t' := tk) (ch := [z, TI, TO, i1, i2]) (fun c o hb q => hk c o (fun hm => hb ?_) q) hf⟩
    simp only [List.mem_cons, List.not_mem_nil, or_false] at hm ⊢
    rcases hm with h | h | h | h <;> simp [h]
  self := fun A i s Q E st h => wpAny_pyIter_zip st.1 h
def iZ (K : PySem.W.Frag) (ta : TA) : TI := fun σ H R => ta σ H fun vs H1 => ∃ b1 b2 a1 a2 xs ys, vs = [.ref a1, .ref a2] ∧ SqB K b1 H1 a1 xs ∧ SqB K b2 H1 a2 ys ∧ R (ItZ K b1 b2 a1 a2 xs ys) H1
theorem pi_z {X : Cx} {e e2 : Expr} {ta : TA} {p pos tpos : Pos} {elts : List Expr} {kk : Nat} (hg : Gl X "zip") (hm : X.mg "zip" = none) (ha : PA X [e, e2] ta)
    (hs : starEach [e, e2] X.env = (false, eval e X.env) :: starEach [e2] X.env) (hpl : (backTo pos (starEach [e2] X.env)).any (·.1) = false) :
    PI X (.Tuple elts kk tpos) (.Call (.Name "zip" p) [e, e2] [] pos) (iZ X.K ta) := by
  refine ⟨fun pins s σ H R I h => ?_⟩
  refine Call_ (ld_blt I hg hm PyProof.Rows.boot_zip (PyProof.Rows.callWith_type1 (thn (ha.run pos pins s σ H _ I h) fun us s1 ⟨vs, H1, I1, r1, q1⟩ => ?_) hs hpl))
  obtain ⟨b1, b2, a1, a2, xs, ys, rfl, h1, h2, q⟩ := q1
  obtain ⟨v1, v2, rfl, e1, e2⟩ := vals2 r1
  cases e1
  cases e2
  obtain ⟨it1, _, p1⟩ := h1.is I1
  obtain ⟨it2, _, p2⟩ := h2.is I1
  refine zip_begins2 (begB (b := b1) a1 it1.toArray) (begB (b := b2) a2 it2.toArray) p1 p2 fun h' hz hTI hTO g1 g2 hsz hk => wpAny_pyIter_zip hz ?_
  have I2 : Inv X pins σ H1 { s1 with heap := h' } := I1.kept (t' := s1.toks) hk
  have l1 := p1.lt
  have l2 := p2.lt
  have S : ZipSep2 (s1.heap.objs.size + 4) (s1.heap.objs.size + 2) (s1.heap.objs.size + 3) s1.heap.objs.size (s1.heap.objs.size + 1) [s1.heap.objs.size, a1] [s1.heap.objs.size + 1, a2] :=
    zip_sep2 (fp1 := [a1]) (fp2 := [a2]) (fun c hc => by rw [List.mem_singleton.mp hc]; exact l1) (fun c hc => by rw [List.mem_singleton.mp hc]; exact l2)
  refine ⟨s1.heap.objs.size + 4, [s1.heap.objs.size + 4, s1.heap.objs.size + 2, s1.heap.objs.size + 3, s1.heap.objs.size, s1.heap.objs.size + 1], _, _, H1, rfl, I2, turn_z S (Nat.ne_of_lt l1) (Nat.ne_of_lt (Nat.lt_succ_of_lt l2)), ⟨hz, hTI, ⟨_, _, hTO⟩, itObj_new g1, itObj_new g2⟩, fun c hc => ?_, q⟩
  have hle : s1.heap.objs.size ≤ c := by
    simp only [List.mem_cons, List.not_mem_nil, or_false] at hc
    rcases hc with rfl | rfl | rfl | rfl | rfl
    · exact Nat.le_add_right _ 4
    · exact Nat.le_add_right _ 2
    · exact Nat.le_add_right _ 3
    · exact Nat.le_refl _
    · exact Nat.le_add_right _ 1
  exact I1.fpOk hle (I1.hok.fresh hle)
/-! enumerate -/
theorem en_new {v : Value} {o : Obj} {G : Heap → Prop} (B : Begins v o G) : Meets (Builtin.«enumerate.__new__» ⟨[.type "enumerate", v], []⟩) fun _ R s =>
    G s.heap ∧ R (.ok (.ret (.ref (s.heap.push o).objs.size))) { s with heap := (s.heap.push o).push { cls := .type "enumerate", data := .fields #[.none, .bool false, .ref s.heap.objs.size, rawInt 0, .none, .none] } } := by
  refine .of_wp fun prog w A R s hF => ?_
  obtain ⟨hp, g, d, tk, os⟩ := s
  obtain ⟨f, hR⟩ := hF
  have hsub := sub_enumerate
  have go : ∀ {A' : Around} {E' : Value → Shared → Prop} {Q' : Value → Shared → Prop}, Q' (.ref hp.objs.size) ⟨hp.push o, g, d, tk, os⟩ → wpAny (model prog w) A' (pyIter v) Q' E' ⟨hp, g, d, tk, os⟩ := fun q => B.iter prog w _ _ ⟨hp, g, d, tk, os⟩ _ f q
  wp_walk using go
  refine wpAny_stack_any fun st => wpAny_pure ?_
  split
  · rename_i cc _ _ _ _ _
    cases (cc == Value.type "enumerate") <;> (wp_walk using go; exact ⟨_, rfl, hR⟩)
  · wp_walk using go
    exact ⟨_, rfl, hR⟩
theorem en_call {prog : Program} {w : World} {A : Around} {E : Value → Shared → Prop} {s : Shared} {v : Value} {o : Obj} {G : Heap → Prop} {Q : Value → Shared → Prop} (B : Begins v o G) (f : G s.heap)
    (k : ∀ h', IsEnum h' (s.heap.objs.size + 1) s.heap.objs.size 0 .none → h'.get? s.heap.objs.size = some o → (∀ c ob, s.heap.get? c = some ob → h'.get? c = some ob) → Q (.ref (s.heap.objs.size + 1)) { s with heap := h' }) :
    wpAny (model prog w) A (call (.type "enumerate") [v]) Q E s := by
  refine callType_new F.called_enumerate (by decide) (F.typeCall_enumerate_1 _) (F.newCall_enumerate_1 _) (fun obj => F.args_object_init_2 obj _) F.entry_enumerate_new (en_new B) ⟨f, ?_⟩
  have sz : (s.heap.push o).objs.size = s.heap.objs.size + 1 := Heap.size_push ..
  have g1 : ((s.heap.push o).push { cls := .type "enumerate", data := .fields #[.none, .bool false, .ref s.heap.objs.size, rawInt 0, .none, .none] }).get? (s.heap.objs.size + 1) = some { cls := .type "enumerate", data := .fields #[.none, .bool false, .ref s.heap.objs.size, rawInt 0, .none, .none] } := by
    rw [← sz]
    exact Heap.get?_push_size _ rfl
  show _ ∧ _
  rw [sz]
  exact ⟨⟨_, g1, rfl⟩, k _ g1 (Heap.get?_push_of_some _ (Heap.get?_push_size _ B.free)) fun c ob e => Heap.get?_push_of_some _ (Heap.get?_push_of_some _ e)⟩
/-- numbers and what stands in xs -/
def ItE (K : PySem.W.Frag) (b : Bool) (a : Addr) (xs : List V) : It :=
  ⟨fun i H => SqB K b H a xs ∧ i < xs.length, fun i H v H' => ∃ T x y, v = .ref T ∧ H T = none ∧ H' = upd H T (.tup [x, y]) ∧ some (V.int (i : Nat)) = some x ∧ xs[i]? = some y, fun i H => SqB K b H a xs ∧ i = xs.length⟩
theorem walk_e {K : PySem.W.Frag} {b : Bool} {a : Addr} {xs : List V} : Walk (ItE K b a xs) xs.length (fun H => SqB K b H a xs) (YPair (fun i => some (.int (i : Nat))) (fun i => xs[i]?)) :=
  ⟨fun i H hi h => ⟨h, hi⟩, fun H h => ⟨h, rfl⟩, fun i H v H' _ _ y => y⟩
theorem turn_e {P : Program} {w : World} {K : PySem.W.Frag} {elts : List Expr} {kk : Nat} {tpos : Pos} {b : Bool} {a e it : Addr} {xs : List V} (n0 : e ≠ it) (n1 : a ≠ it) (n2 : e ≠ a) :
    L2.Turn P w K (.Tuple elts kk tpos) (ItE K b a xs) [e, it] e (fun i h => (∃ old, IsEnum h e it (i : Nat) old) ∧ ItB b h it a i) where
  mem := by simp
  obj := fun i h st c hc => by
    obtain ⟨⟨old, s1⟩, s2⟩ := st
    simp only [List.mem_cons, List.not_mem_nil, or_false] at hc
    rcases hc with rfl | rfl
    · exact ⟨_, s1, fun v q => nomatch q⟩
    · exact s2.obj
  keep := fun i h h' st k => by
    obtain ⟨⟨old, s1⟩, s2⟩ := st
    exact ⟨⟨old, k _ (by simp) _ s1⟩, s2.at (k _ (by simp))⟩
  item := by
    intro X hP hw hK hc i pins s σ H E I hf st hg
    subst hP hw hK
    obtain ⟨s1, s2⟩ := st
    obtain ⟨q1, hi⟩ := hg
    obtain ⟨it1, r1, p1⟩ := q1.is I
    have hh : X.A.in1.handled = none := I.ok.hd hc
    have l1 := r1.length
    have W := WalksT.enumerateD (drawB (prog := X.prog) (w := X.w) (b := b) hh it a n1 it1.toArray) e n0 (by simp [n0, n2]) (by simp)
    refine W.item i s _ E (by simp only [List.size_toArray]; omega) ⟨s1, s2, p1⟩ fun T vals h' tk hv hT hIs hMid hk => ?_
    obtain ⟨t1, u1, e1, rfl⟩ := hv
    refine ⟨_, rfl, W.go elts kk tpos i T { s with heap := h', toks := tk } _ _ hMid fun h2 st2 hk2 => ?_⟩
    have hT2 : h2.IsTuple T #[.int i t1, u1] := hIs.at fun o e => hk2 T o (W.apart i T h' hMid) e
    obtain ⟨x, hx, rx⟩ : ∃ x, xs[i]? = some x ∧ RelV x u1 := by
      obtain ⟨u, hu, ru⟩ := r1.get (i := i) (x := xs[i]'(by omega)) (by simp)
      have : it1[i]? = some u1 := by simpa using e1
      rw [this] at hu
      cases hu
      exact ⟨_, by simp, ru⟩
    have I1 := I.turnedNew (t' := tk) (ch := [e, it]) (h' := h2) (fun c o hb q => hk2 c o hb (hk c o hb q)) hf hT (tup2_new (x := .int (i : Nat)) ⟨t1, rfl⟩ rx hT2)
    obtain ⟨t2, t3, _⟩ := st2
    refine ⟨.ref T, _, I1, rfl, ⟨T, _, x, rfl, I.hok.fresh hT, rfl, rfl, hx⟩, ⟨t2, t3⟩, fun c hcm => ?_⟩
    have hlt : c < s.heap.objs.size := by
      obtain ⟨old, s1⟩ := s1
      simp only [List.mem_cons, List.not_mem_nil, or_false] at hcm
      rcases hcm with rfl | rfl
      · exact Heap.lt_size s1
      · obtain ⟨o, e, _⟩ := s2.obj; exact Heap.lt_size e
    rw [upd_ne (Nat.ne_of_lt (Nat.lt_of_lt_of_le hlt hT))]
    exact (hf c hcm).1
  done := by
    intro X hP hw hK hc i pins s σ H E I hf st hg
    subst hP hw hK
    obtain ⟨s1, s2⟩ := st
    obtain ⟨q1, rfl⟩ := hg
    obtain ⟨it1, r1, p1⟩ := q1.is I
    have hh : X.A.in1.handled = none := I.ok.hd hc
    have W := WalksT.enumerateD (drawB (prog := X.prog) (w := X.w) (b := b) hh it a n1 it1.toArray) e n0 (by simp [n0, n2]) (by simp)
    rw [r1.length] at s1 s2
    exact W.done s _ E (by simp only [List.size_toArray]; exact ⟨s1, s2, p1⟩) fun h' tk hk => ⟨rfl, I.turnedL (t' := tk) (ch := [e, it]) hk hf⟩
  self := fun A i s Q E st h => by
    obtain ⟨⟨old, s1⟩, _⟩ := st
    exact wpAny_pyIter_enum s1 h
def iEn (K : PySem.W.Frag) (ta : TA) : TI := fun σ H R => ta σ H fun vs H1 => ∃ b a xs, vs = [.ref a] ∧ SqB K b H1 a xs ∧ R (ItE K b a xs) H1
theorem pi_en {X : Cx} {e : Expr} {ta : TA} {p pos tpos : Pos} {elts : List Expr} {kk : Nat} (hg : Gl X "enumerate") (hm : X.mg "enumerate" = none) (ha : PA X [e] ta) (hs : starEach [e] X.env = [(false, eval e X.env)]) :
    PI X (.Tuple elts kk tpos) (.Call (.Name "enumerate" p) [e] [] pos) (iEn X.K ta) := by
  refine ⟨fun pins s σ H R I h => ?_⟩
  refine Call_ (ld_blt I hg hm boot_enumerate (PyProof.Rows.callWith_type1 (thn (ha.run pos pins s σ H _ I h) fun us s1 ⟨vs, H1, I1, r1, q1⟩ => ?_) hs rfl))
  obtain ⟨b, a, xs, rfl, h1, q⟩ := q1
  cases r1 with
  | cons r rr =>
    cases rr
    cases r
    obtain ⟨it1, _, p1⟩ := h1.is I1
    refine en_call (begB (b := b) a it1.toArray) p1 fun h' he g1 hk => wpAny_pyIter_enum he ?_
    have I2 : Inv X pins σ H1 { s1 with heap := h' } := I1.kept (t' := s1.toks) hk
    have l1 := p1.lt
    refine ⟨s1.heap.objs.size + 1, [s1.heap.objs.size + 1, s1.heap.objs.size], _, _, H1, rfl, I2, turn_e (Nat.succ_ne_self _) (Nat.ne_of_lt l1) (Nat.ne_of_gt (Nat.lt_succ_of_lt l1)), ⟨⟨_, he⟩, itObj_new g1⟩, fun c hc => ?_, q⟩
    have hle : s1.heap.objs.size ≤ c := by
      simp only [List.mem_cons, List.not_mem_nil, or_false] at hc
      rcases hc with rfl | rfl
      · exact Nat.le_add_right _ 1
      · exact Nat.le_refl _
    exact I1.fpOk hle (I1.hok.fresh hle)
end Sx

/-! Sm: comprehensions and loops over data told by a list of any type; zip and enumerate. -/
namespace Sx
open PySem PySem.Spec PyProof.Rows L2

section
variable {K : PySem.W.Frag} {H H' : Hp} {v : V} {b : Bool} {ds : List D}
/-- a tuple (true) or a list -/
def RpB (K : PySem.W.Frag) (b : Bool) (H : Hp) (v : V) (ds : List D) : Prop := match b with
  | true => Rp K H v (.tup ds)
  | false => Rp K H v (.lst ds)
theorem RpB.inv (h : RpB K b H v ds) : ∃ a xs, v = .ref a ∧ SqB K b H a xs ∧ RpAll K H xs ds := by
  cases b
  · exact Rp.lst_inv h
  · exact Rp.tup_inv h
theorem RpB.to (h : RpB K b H v ds) (s : Same H H') : RpB K b H' v ds := by
  cases b
  · exact Rp.to h s
  · exact Rp.to h s
theorem bits_takeA {α : Type} (xs : List α) (g : α → Option D) : ∀ n, n ≤ xs.length → bits n (fun k => (xs[k]?).bind g) = (xs.take n).filterMap g
  | 0, _ => rfl
  | n + 1, h => by
    rw [bits_succ, bits_takeA xs g n (by omega), List.take_succ, List.filterMap_append]
    congr 1
    rw [List.getElem?_eq_getElem (by omega)]
    cases w : g xs[n] <;> simp [w]
theorem bits_ty {α : Type} (xs : List α) (g : α → Option D) : bits xs.length (fun k => (xs[k]?).bind g) = xs.filterMap g := by
  rw [bits_takeA xs g _ (Nat.le_refl _), List.take_length]
theorem bits_mp {α : Type} (xs : List α) (f : α → D) : bits xs.length (fun k => (xs[k]?).map f) = xs.map f := by
  have := bits_ty xs (fun a => some (f a))
  rw [List.filterMap_eq_map'] at this
  rw [← this]
  congr 1
  funext k
  cases xs[k]? <;> rfl
theorem atI_map {α β : Type} (g : α → β) (xs : List α) (i : Int) : atI (xs.map g) i = (atI xs i).map g := by
  unfold atI
  rw [List.length_map]
  cases ixN xs.length i with
  | none => rfl
  | some j => simp
theorem atI_nat {α : Type} {xs : List α} {k : Nat} (h : k < xs.length) : atI xs (k : Int) = some xs[k] := by
  unfold atI ixN
  rw [if_pos (by omega), if_pos (by omega)]
  simp [h]
end
section
variable {X : Cx} {elt iter c : Expr} {scope : Scope} {N : List Str} {σ σw : Sl} {S : V → Sl} {H : Hp} {Q : VK} {x : Str} {i : Nat} {px pos rp rpos : Pos} {a b : Expr}
theorem QT.imp {R R' : Bool → Hp → Prop} (h : QT X c σ H R) (k : ∀ t H', R t H' → R' t H') : QT X c σ H R' := fun pins s I => thn (h pins s I) fun t s1 ⟨H', J, q⟩ => ⟨H', J, k t H' q⟩
theorem map_im {α : Type} {xs : List α} {f : α → D} (h : ∀ a ∈ xs, (f a).im = true) : ∀ i d, (fun k : Nat => (xs[k]?).map f) i = some d → d.im = true := by
  intro i d e
  dsimp only at e
  cases w : xs[i]? with
  | none => rw [w] at e; cases e
  | some z => rw [w] at e; cases e; exact h z (List.mem_of_getElem? w)
theorem RpAll.getA {K : PySem.W.Frag} {H : Hp} {vs : List V} {α : Type} {xs : List α} {g : α → D} {k : Nat} {v : V} (h : RpAll K H vs (xs.map g)) (e : vs[k]? = some v) : ∃ a, xs[k]? = some a ∧ Rp K H v (g a) := by
  obtain ⟨d, e1, r⟩ := h.get e
  rw [List.getElem?_map] at e1
  cases w : xs[k]? with
  | none => rw [w] at e1; cases e1
  | some a => rw [w] at e1; cases e1; exact ⟨a, rfl, r⟩
/-- [elt for x in a tuple] -/
theorem ql_mt (h : Tgt N σ x σw S i) (hN : X.N = N) (nd : X.N.Nodup)
    (hl : ∀ s H0 C cl fp, Loc (X.blk s H0 scope (compEnvC scope cl C X.env) fp).env.scope x) (hf : ∀ s H0 C cl fp, (X.blk s H0 scope (compEnvC scope cl C X.env) fp).fn x = true ∨ (X.blk s H0 scope (compEnvC scope cl C X.env) fp).env.scope.names.lookup x = some .local)
    (q : QE X iter σ H fun v H1 => ∃ (α : Type) (xs : List α) (g f : α → D), Rp X.K H1 v (.tup (xs.map g)) ∧ xs.length < sizeLine ∧ (∀ a ∈ xs, (f a).im = true) ∧
      (∀ a ∈ xs, ∀ w H2, Same H1 H2 → Rp X.K H2 w (g a) → BE X scope elt (S w) H2 fun y H3 => Same H2 H3 ∧ Rp X.K H3 y (f a)) ∧
      ∀ p H2 ys, Same H1 H2 → H1 p = none → H2 p = some (.lst ys) → RpAll X.K H2 ys (xs.map f) → Q (.ref p) H2) : QL X elt (.Name x px) iter [] scope [i] σ H Q := by
  refine ql_seq h hN nd hl hf (qi_tup (q.imp fun v H1 ⟨α, xs, g, f, r, hz, him, hb, hq⟩ => ?_))
  obtain ⟨a, vs, rfl, h1, h2⟩ := r.tup_inv
  have hlen : vs.length = xs.length := by rw [h2.len, List.length_map]
  refine ⟨a, rfl, ⟨vs, h1⟩, vs.length, _, _, walk_tup (xs := vs), by rw [hlen]; exact hz, fun H' s => Same.tupR s h1, fun k => (xs[k]?).map f, map_im him, ?_, ?_⟩
  · rintro k v H2 H3 hk s2 ⟨rfl, e⟩
    obtain ⟨d, e1, r1⟩ := (h2.to s2).getA e
    intro s H0 C cl fp
    refine (hb d (List.mem_of_getElem? e1) v H3 s2 r1 s H0 C cl fp).imp fun y H5 ⟨s5, r5⟩ => ⟨s5, f d, by simp [e1], r5⟩
  · intro p H2 ys s2 hp hp2 r
    rw [hlen, bits_mp] at r
    exact hq p H2 ys s2 hp hp2 r
/-- [elt for x in a list] -/
theorem ql_ml (h : Tgt N σ x σw S i) (hN : X.N = N) (nd : X.N.Nodup)
    (hl : ∀ s H0 C cl fp, Loc (X.blk s H0 scope (compEnvC scope cl C X.env) fp).env.scope x) (hf : ∀ s H0 C cl fp, (X.blk s H0 scope (compEnvC scope cl C X.env) fp).fn x = true ∨ (X.blk s H0 scope (compEnvC scope cl C X.env) fp).env.scope.names.lookup x = some .local)
    (q : QE X iter σ H fun v H1 => ∃ (α : Type) (xs : List α) (g f : α → D), Rp X.K H1 v (.lst (xs.map g)) ∧ xs.length < sizeLine ∧ (∀ a ∈ xs, (f a).im = true) ∧
      (∀ a ∈ xs, ∀ w H2, Same H1 H2 → Rp X.K H2 w (g a) → BE X scope elt (S w) H2 fun y H3 => Same H2 H3 ∧ Rp X.K H3 y (f a)) ∧
      ∀ p H2 ys, Same H1 H2 → H1 p = none → H2 p = some (.lst ys) → RpAll X.K H2 ys (xs.map f) → Q (.ref p) H2) : QL X elt (.Name x px) iter [] scope [i] σ H Q := by
  refine ql_seq h hN nd hl hf (qi_list (q.imp fun v H1 ⟨α, xs, g, f, r, hz, him, hb, hq⟩ => ?_))
  obtain ⟨a, vs, rfl, h1, h2⟩ := r.lst_inv
  have hlen : vs.length = xs.length := by rw [h2.len, List.length_map]
  refine ⟨a, rfl, ⟨vs, h1⟩, vs.length, _, _, walk_list (xs := vs), by rw [hlen]; exact hz, fun H' s => s.seq h1, fun k => (xs[k]?).map f, map_im him, ?_, ?_⟩
  · rintro k v H2 H3 hk s2 ⟨rfl, e⟩
    obtain ⟨d, e1, r1⟩ := (h2.to s2).getA e
    intro s H0 C cl fp
    refine (hb d (List.mem_of_getElem? e1) v H3 s2 r1 s H0 C cl fp).imp fun y H5 ⟨s5, r5⟩ => ⟨s5, f d, by simp [e1], r5⟩
  · intro p H2 ys s2 hp hp2 r
    rw [hlen, bits_mp] at r
    exact hq p H2 ys s2 hp hp2 r
/-- [elt for x in a list if c] -/
theorem ql_mlT (h : Tgt N σ x σw S i) (hN : X.N = N) (nd : X.N.Nodup)
    (hl : ∀ s H0 C cl fp, Loc (X.blk s H0 scope (compEnvC scope cl C X.env) fp).env.scope x) (hf : ∀ s H0 C cl fp, (X.blk s H0 scope (compEnvC scope cl C X.env) fp).fn x = true ∨ (X.blk s H0 scope (compEnvC scope cl C X.env) fp).env.scope.names.lookup x = some .local)
    (q : QE X iter σ H fun v H1 => ∃ (α : Type) (xs : List α) (g : α → D) (f : α → Option D), Rp X.K H1 v (.lst (xs.map g)) ∧ xs.length < sizeLine ∧ (∀ a ∈ xs, ∀ d, f a = some d → d.im = true) ∧
      (∀ a ∈ xs, ∀ w H2, Same H1 H2 → Rp X.K H2 w (g a) → BT X scope c (S w) H2 fun t H3 => (t = true → BE X scope elt (S w) H3 fun y H4 => Same H2 H4 ∧ ∃ d, f a = some d ∧ Rp X.K H4 y d) ∧ (t = false → Same H2 H3 ∧ f a = none)) ∧
      ∀ p H2 ys, Same H1 H2 → H1 p = none → H2 p = some (.lst ys) → RpAll X.K H2 ys (xs.filterMap f) → Q (.ref p) H2) : QL X elt (.Name x px) iter [c] scope [i] σ H Q := by
  refine ql_seqT h hN nd hl hf (qi_list (q.imp fun v H1 ⟨α, xs, g, f, r, hz, him, hb, hq⟩ => ?_))
  obtain ⟨a, vs, rfl, h1, h2⟩ := r.lst_inv
  have hlen : vs.length = xs.length := by rw [h2.len, List.length_map]
  refine ⟨a, rfl, ⟨vs, h1⟩, vs.length, _, _, walk_list (xs := vs), by rw [hlen]; exact hz, fun H' s => s.seq h1, fun k => (xs[k]?).bind f, ?_, ?_, ?_⟩
  · intro k d e
    dsimp only at e
    cases w : xs[k]? with
    | none => rw [w] at e; cases e
    | some z => rw [w] at e; exact him z (List.mem_of_getElem? w) d e
  · rintro k v H2 H3 hk s2 ⟨rfl, e⟩
    obtain ⟨d, e1, r1⟩ := (h2.to s2).getA e
    intro s H0 C cl fp
    refine QT.imp (hb d (List.mem_of_getElem? e1) v H3 s2 r1 s H0 C cl fp) fun t H5 ⟨t1, t2⟩ => ⟨fun ht => ?_, fun ht => ?_⟩
    · intro s H0 C cl fp
      refine (t1 ht s H0 C cl fp).imp fun y H6 ⟨s6, d6, e6, r6⟩ => ⟨s6, d6, by simp [e1, e6], r6⟩
    · obtain ⟨t3, t4⟩ := t2 ht
      exact ⟨t3, by simp [e1, t4]⟩
  · intro p H2 ys s2 hp hp2 r
    rw [hlen, bits_ty] at r
    exact hq p H2 ys s2 hp hp2 r
/-! zip, enumerate -/
theorem qi_z {elts : List Expr} {kk : Nat} {tpos : Pos} {R : It → Hp → Prop} (hm : X.mg "zip" = none) (hg : Gl X "zip") (hs : starEach [a, b] X.env = (false, eval a X.env) :: starEach [b] X.env) (hs2 : starEach [b] X.env = [(false, eval b X.env)]) (hpl : (backTo pos (starEach [b] X.env)).any (·.1) = false)
    (q : QE X a σ H fun v H1 => QE X b σ H1 fun w H2 => ∃ b1 b2 a1 a2 xs ys, v = .ref a1 ∧ w = .ref a2 ∧ SqB X.K b1 H2 a1 xs ∧ SqB X.K b2 H2 a2 ys ∧ R (ItZ X.K b1 b2 a1 a2 xs ys) H2) : QI X (.Tuple elts kk tpos) (.Call (.Name "zip" rp) [a, b] [] pos) σ H R :=
  qi_of (pi_z hg hm pa_sem hs hpl) (wa_cons hs (q.imp fun v H1 q1 => wa_cons hs2 (QE.imp q1 fun w H2 ⟨b1, b2, a1, a2, xs, ys, e1, e2, h1, h2, r⟩ => wa_nil ⟨b1, b2, a1, a2, xs, ys, by rw [e1, e2], h1, h2, r⟩)))
theorem qi_en {elts : List Expr} {kk : Nat} {tpos : Pos} {R : It → Hp → Prop} (hm : X.mg "enumerate" = none) (hg : Gl X "enumerate") (hs : starEach [a] X.env = [(false, eval a X.env)])
    (q : QE X a σ H fun v H1 => ∃ b1 a1 xs, v = .ref a1 ∧ SqB X.K b1 H1 a1 xs ∧ R (ItE X.K b1 a1 xs) H1) : QI X (.Tuple elts kk tpos) (.Call (.Name "enumerate" rp) [a] [] pos) σ H R :=
  qi_of (pi_en hg hm pa_sem hs) (wa_cons hs (q.imp fun v H1 ⟨b1, a1, xs, e1, h1, r⟩ => wa_nil ⟨b1, a1, xs, by rw [e1], h1, r⟩))
end
section
variable {X : Cx} {elt c : Expr} {scope : Scope} {N : List Str} {σ σ1 σw : Sl} {S1 S : V → Sl} {σi : V → Sl} {S2 : V → V → Sl} {H : Hp} {Q : VK} {x y : Str} {i j kk : Nat} {px py pos rp tpos : Pos} {a b : Expr}
/-- two names, and a pair for them -/
structure Two (X : Cx) (scope : Scope) (N : List Str) (σ σ1 σw : Sl) (S1 S : V → Sl) (σi : V → Sl) (S2 : V → V → Sl) (x y : Str) (i j : Nat) : Prop where
  h1 : Tgt N σ y σ1 S1 j
  h : Tgt N σ1 x σw S i
  h2 : ∀ v, Tgt N (S v) y (σi v) (S2 v) j
  hij : i ≠ j
  hN : X.N = N
  nd : X.N.Nodup
  hc : X.calm = true
  hl : ∀ s H0 C cl fp, Loc (X.blk s H0 scope (compEnvC scope cl C X.env) fp).env.scope x
  hf : ∀ s H0 C cl fp, (X.blk s H0 scope (compEnvC scope cl C X.env) fp).fn x = true ∨ (X.blk s H0 scope (compEnvC scope cl C X.env) fp).env.scope.names.lookup x = some .local
  hl1 : ∀ s H0 C cl fp, Loc (X.blk s H0 scope (compEnvC scope cl C X.env) fp).env.scope y
  hf1 : ∀ s H0 C cl fp, (X.blk s H0 scope (compEnvC scope cl C X.env) fp).fn y = true ∨ (X.blk s H0 scope (compEnvC scope cl C X.env) fp).env.scope.names.lookup y = some .local
theorem Two.w (T : Two X scope N σ σ1 σw S1 S σi S2 x y i j) : wipe σ [i, j] = σw := by
  show (σ.set j none).set i none = σw
  rw [T.h1.w, T.h.w]
theorem Two.e3 (T : Two X scope N σ σ1 σw S1 S σi S2 x y i j) (v : V) : (S v).set j none = S v := by
  have e1 : σ1.set j none = σ1 := by rw [← T.h1.w, List.set_set]
  have e2 : σw.set j none = σw := by rw [← T.h.w, List.set_comm _ _ T.hij, e1]
  rw [← T.h.p, List.set_comm _ _ T.hij, e2]
theorem bg_two (T : Two X scope N σ σ1 σw S1 S σi S2 x y i j) {R : Sl → Hp → Prop} {p : Addr} {u w : V} (hp : H p = some (.tup [u, w])) (q : R (S2 u w) H) :
    BG X scope (.Tuple [.Name x px, .Name y py] kk tpos) (.ref p) σw H fun σ2 H2 => wipe σ2 [i, j] = σw ∧ R σ2 H2 := by
  intro s H0 C cl fp
  refine wg_tup T.hc (.inl (.inl hp)) rfl rfl ?_
  refine wgs_cons rfl (wg_of (pg_name (i := i) T.nd (by show X.N[i]? = some x; rw [T.hN]; exact T.h.n) (T.hl s H0 C cl fp) (T.hf s H0 C cl fp)) ?_)
  show QGs _ _ _ (σw.set i (some u)) _ _
  rw [T.h.p]
  refine wgs_cons rfl (wg_of (pg_name (i := j) T.nd (by show X.N[j]? = some y; rw [T.hN]; exact T.h1.n) (T.hl1 s H0 C cl fp) (T.hf1 s H0 C cl fp)) ?_)
  show QGs _ _ _ ((S u).set j (some w)) _ _
  rw [(T.h2 u).q]
  refine wgs_nil ⟨?_, q⟩
  show ((S2 u w).set j none).set i none = σw
  rw [(T.h2 u).b, ← (T.h2 u).w, T.e3, T.h.b]
/-- [elt for x, y in zip(a, b)] -/
theorem ql_zip (T : Two X scope N σ σ1 σw S1 S σi S2 x y i j) (hm : X.mg "zip" = none) (hg : Gl X "zip") (hs : starEach [a, b] X.env = (false, eval a X.env) :: starEach [b] X.env) (hs2 : starEach [b] X.env = [(false, eval b X.env)]) (hpl : (backTo pos (starEach [b] X.env)).any (·.1) = false)
    (q : QE X a σ H fun v H1 => QE X b σ H1 fun w H2 => ∃ (α β : Type) (b1 b2 : Bool) (xs : List α) (ys : List β) (g1 : α → D) (g2 : β → D) (f : α → β → D), RpB X.K b1 H2 v (xs.map g1) ∧ RpB X.K b2 H2 w (ys.map g2) ∧ xs.length < sizeLine ∧ (∀ a ∈ xs, ∀ b ∈ ys, (f a b).im = true) ∧
      (∀ a ∈ xs, ∀ b ∈ ys, ∀ u1 u2 H3, Same H2 H3 → Rp X.K H3 u1 (g1 a) → Rp X.K H3 u2 (g2 b) → BE X scope elt (S2 u1 u2) H3 fun y H4 => Same H3 H4 ∧ Rp X.K H4 y (f a b)) ∧
      ∀ p H3 zs, Same H2 H3 → H2 p = none → H3 p = some (.lst zs) → RpAll X.K H3 zs (List.zipWith f xs ys) → Q (.ref p) H3) :
    QL X elt (.Tuple [.Name x px, .Name y py] kk tpos) (.Call (.Name "zip" rp) [a, b] [] pos) [] scope [i, j] σ H Q := by
  refine ql_lc (σw := σw) T.w (qi_z hm hg hs hs2 hpl (q.imp fun v H1 q1 => QE.imp q1 fun w H2 ⟨α, β, b1, b2, xs, ys, g1, g2, f, r1, r2, hz, him, hb, hq⟩ => ?_))
  obtain ⟨a1, vs, rfl, h1, h2⟩ := r1.inv
  obtain ⟨a2, ws, rfl, h3, h4⟩ := r2.inv
  have l1 : vs.length = xs.length := by rw [h2.len, List.length_map]
  have l2 : ws.length = ys.length := by rw [h4.len, List.length_map]
  refine ⟨b1, b2, a1, a2, vs, ws, rfl, rfl, h1, h3, _, _, _, walk_z, by omega, fun H' s => ⟨h1.to s, h3.to s⟩, fun k => ((List.zipWith f xs ys)[k]?).bind some, ?_, ?_, ?_⟩
  · intro k d e
    dsimp only at e
    cases w : (List.zipWith f xs ys)[k]? with
    | none => rw [w] at e; cases e
    | some z =>
      rw [w] at e
      cases e
      rw [List.getElem?_zipWith] at w
      cases w1 : xs[k]? with
      | none => rw [w1] at w; cases w
      | some a =>
        cases w2 : ys[k]? with
        | none => rw [w1, w2] at w; cases w
        | some b => rw [w1, w2] at w; cases w; exact him a (List.mem_of_getElem? w1) b (List.mem_of_getElem? w2)
  · rintro k v H3 H4 hk s3 ⟨p, u1, u2, rfl, hp, rfl, e1, e2⟩
    obtain ⟨d1, f1, r1⟩ := (h2.to s3).getA e1
    obtain ⟨d2, f2, r2⟩ := (h4.to s3).getA e2
    have s4 := same_new (o := .tup [u1, u2]) hp
    refine bg_two T upd_same ?_
    intro s H0 C cl fp
    exact (hb d1 (List.mem_of_getElem? f1) d2 (List.mem_of_getElem? f2) u1 u2 _ (s3.trans s4) (r1.to s4) (r2.to s4) s H0 C cl fp).imp fun y H5 ⟨s5, r5⟩ => ⟨s4.trans s5, _, by simp [List.getElem?_zipWith, f1, f2], r5⟩
  · intro p H3 zs s3 hp hp2 r
    have e := bits_ty (List.zipWith f xs ys) some
    rw [List.length_zipWith, ← l1, ← l2] at e
    rw [e] at r
    have e2 : (List.zipWith f xs ys).filterMap some = List.zipWith f xs ys := by simp
    rw [e2] at r
    exact hq p H3 zs s3 hp hp2 r
/-- [elt for x, y in enumerate(a) if c] -/
theorem ql_enT (T : Two X scope N σ σ1 σw S1 S σi S2 x y i j) (hm : X.mg "enumerate" = none) (hg : Gl X "enumerate") (hs : starEach [a] X.env = [(false, eval a X.env)])
    (q : QE X a σ H fun v H1 => ∃ (α : Type) (b1 : Bool) (xs : List α) (g1 : α → D) (f : Nat → α → Option D), RpB X.K b1 H1 v (xs.map g1) ∧ xs.length < sizeLine ∧ (∀ k a d, f k a = some d → d.im = true) ∧
      (∀ (k : Nat) a u H2, xs[k]? = some a → Same H1 H2 → Rp X.K H2 u (g1 a) → BT X scope c (S2 (.int k) u) H2 fun t H3 => (t = true → BE X scope elt (S2 (.int k) u) H3 fun y H4 => Same H2 H4 ∧ ∃ d, f k a = some d ∧ Rp X.K H4 y d) ∧ (t = false → Same H2 H3 ∧ f k a = none)) ∧
      ∀ p H3 zs, Same H1 H3 → H1 p = none → H3 p = some (.lst zs) → RpAll X.K H3 zs (bits xs.length fun k => (xs[k]?).bind (f k)) → Q (.ref p) H3) :
    QL X elt (.Tuple [.Name x px, .Name y py] kk tpos) (.Call (.Name "enumerate" rp) [a] [] pos) [c] scope [i, j] σ H Q := by
  refine ql_lcT (σw := σw) T.w (qi_en hm hg hs (q.imp fun v H1 ⟨α, b1, xs, g1, f, r1, hz, him, hb, hq⟩ => ?_))
  obtain ⟨a1, vs, rfl, h1, h2⟩ := r1.inv
  have l1 : vs.length = xs.length := by rw [h2.len, List.length_map]
  refine ⟨b1, a1, vs, rfl, h1, _, _, _, walk_e, by omega, fun H' s => h1.to s, fun k => (xs[k]?).bind (f k), ?_, ?_, ?_⟩
  · intro k d e
    dsimp only at e
    cases w : xs[k]? with
    | none => rw [w] at e; cases e
    | some z => rw [w] at e; exact him k z d e
  · rintro k v H3 H4 hk s3 ⟨p, u1, u2, rfl, hp, rfl, e1, e2⟩
    cases e1
    obtain ⟨d2, f2, r2⟩ := (h2.to s3).getA e2
    have s4 := same_new (o := .tup [.int (k : Nat), u2]) hp
    refine bg_two T upd_same ?_
    intro s H0 C cl fp
    refine QT.imp (hb k d2 u2 _ f2 (s3.trans s4) (r2.to s4) s H0 C cl fp) fun t H5 ⟨t1, t2⟩ => ⟨fun ht => ?_, fun ht => ?_⟩
    · intro s H0 C cl fp
      exact (t1 ht s H0 C cl fp).imp fun y H6 ⟨s6, d6, e6, r6⟩ => ⟨s4.trans s6, d6, by simp [f2, e6], r6⟩
    · obtain ⟨t3, t4⟩ := t2 ht
      exact ⟨s4.trans t3, by simp [f2, t4]⟩
  · intro p H3 zs s3 hp hp2 r
    rw [l1] at r
    exact hq p H3 zs s3 hp hp2 r
/-- for x, y in zip(a, b) -/
theorem ws_forz {fpos : Pos} {tg : List Expr} {body : List Stmt} {E : Ends} (hp : PassesOwn (model X.prog X.w) X.A X.env X.xe) (hc : X.calm = true) (hfs : ∀ x, foldedSetIterable (.Call (.Name "zip" rp) [a, b] [] pos) X.env x = pure x) (hm : X.mg "zip" = none) (hg : Gl X "zip") (hs : starEach [a, b] X.env = (false, eval a X.env) :: starEach [b] X.env) (hs2 : starEach [b] X.env = [(false, eval b X.env)]) (hpl : (backTo pos (starEach [b] X.env)).any (·.1) = false)
    (q : QE X a σ H fun v H1 => QE X b σ H1 fun w H2 => ∃ (b1 b2 : Bool) (ds1 ds2 : List D), RpB X.K b1 H2 v ds1 ∧ RpB X.K b2 H2 w ds2 ∧ ∃ Pv : Nat → Sl → Hp → Prop, Pv 0 σ H2 ∧ (∀ k σ' H', Pv k σ' H' → Same H2 H') ∧
      (∀ k d1 d2 u1 u2 p σ3 H3 H4, ds1[k]? = some d1 → ds2[k]? = some d2 → Pv k σ3 H3 → Same H3 H4 → H4 p = some (.tup [u1, u2]) → Rp X.K H4 u1 d1 → Rp X.K H4 u2 d2 → QG X (.Tuple tg kk tpos) (.ref p) σ3 H4 fun σ5 H5 => QB X body { E with nx := Pv (k + 1), ct := Pv (k + 1), bk := E.nx } σ5 H5) ∧
      ∀ σ3 H3, Pv (min ds1.length ds2.length) σ3 H3 → E.nx σ3 H3) : QS X (.For (.Tuple tg kk tpos) (.Call (.Name "zip" rp) [a, b] [] pos) body [] fpos) E σ H := by
  refine qs_for hp hc hfs (qi_z hm hg hs hs2 hpl (q.imp fun v H1 q1 => QE.imp q1 fun w H2 ⟨b1, b2, ds1, ds2, r1, r2, Pv, h0, hS, hb, hd⟩ => ?_))
  obtain ⟨a1, vs, rfl, h1, h2⟩ := r1.inv
  obtain ⟨a2, ws, rfl, h3, h4⟩ := r2.inv
  refine ⟨b1, b2, a1, a2, vs, ws, rfl, rfl, h1, h3, _, _, _, walk_z, Pv, h0, fun k σ3 H3 _ hv => ⟨h1.to (hS k σ3 H3 hv), h3.to (hS k σ3 H3 hv)⟩, ?_, by rw [h2.len, h4.len]; exact hd⟩
  rintro k v σ3 H3 H4 hk hv ⟨p, u1, u2, rfl, hp, rfl, e1, e2⟩
  have s3 := hS k σ3 H3 hv
  obtain ⟨d1, f1, r1⟩ := (h2.to s3).get e1
  obtain ⟨d2, f2, r2⟩ := (h4.to s3).get e2
  have s4 := same_new (o := .tup [u1, u2]) hp
  exact hb k d1 d2 u1 u2 p σ3 H3 _ f1 f2 hv s4 upd_same (r1.to s4) (r2.to s4)
end
/-! over range(n), told by a number; places of rows and tables -/
section
variable {X : Cx} {elt c : Expr} {scope : Scope} {N : List Str} {σ σw : Sl} {S : V → Sl} {H : Hp} {Q : VK} {x : Str} {i : Nat} {px pos rp rpos : Pos} {a b : Expr} {v : V}
theorem ql_r1 (hm : X.mg "range" = none) (hg : Gl X "range") (h : Tgt N σ x σw S i) (hN : X.N = N) (nd : X.N.Nodup)
    (hl : ∀ s H0 C cl fp, Loc (X.blk s H0 scope (compEnvC scope cl C X.env) fp).env.scope x) (hf : ∀ s H0 C cl fp, (X.blk s H0 scope (compEnvC scope cl C X.env) fp).fn x = true ∨ (X.blk s H0 scope (compEnvC scope cl C X.env) fp).env.scope.names.lookup x = some .local)
    (hs1 : starEach [a] X.env = [(false, eval a X.env)])
    (q : QE X a σ H fun v H1 => ∃ n : Nat, v = .int n ∧ n ≤ 1000 ∧ ∃ f : Nat → D, (∀ k, k < n → (f k).im = true) ∧ (∀ k H2, k < n → Same H1 H2 → BE X scope elt (S (.int (k : Nat))) H2 fun y H3 => Same H2 H3 ∧ Rp X.K H3 y (f k)) ∧
      ∀ p H2 ys, Same H1 H2 → H1 p = none → H2 p = some (.lst ys) → RpAll X.K H2 ys ((List.range n).map f) → Q (.ref p) H2) : QL X elt (.Name x px) (.Call (.Name "range" rp) [a] [] rpos) [] scope [i] σ H Q := by
  refine ql_lcr1 hm hg h hN nd hl hf hs1 (q.imp fun v H1 ⟨n, e, hn, f, him, hb, hq⟩ => ⟨n, e, ?_, fun z => f z.toNat, ⟨fun k hk => ?_, fun k H2 hk s2 => ?_⟩, fun p H2 ys s2 hp hp2 r => hq p H2 ys s2 hp hp2 ?_⟩)
  · have := sizeLine_eq
    omega
  · rw [Int.zero_add]
    dsimp only
    rw [Int.toNat_natCast]
    exact him k (by omega)
  · rw [Int.zero_add]
    dsimp only
    rw [Int.toNat_natCast]
    exact hb k H2 (by omega) s2
  · simpa using r
theorem ql_r1T (hm : X.mg "range" = none) (hg : Gl X "range") (h : Tgt N σ x σw S i) (hN : X.N = N) (nd : X.N.Nodup)
    (hl : ∀ s H0 C cl fp, Loc (X.blk s H0 scope (compEnvC scope cl C X.env) fp).env.scope x) (hf : ∀ s H0 C cl fp, (X.blk s H0 scope (compEnvC scope cl C X.env) fp).fn x = true ∨ (X.blk s H0 scope (compEnvC scope cl C X.env) fp).env.scope.names.lookup x = some .local)
    (hs1 : starEach [a] X.env = [(false, eval a X.env)])
    (q : QE X a σ H fun v H1 => ∃ n : Nat, v = .int n ∧ n ≤ 1000 ∧ ∃ f : Nat → Option D, (∀ k, k < n → ∀ d, f k = some d → d.im = true) ∧
      (∀ k H2, k < n → Same H1 H2 → BT X scope c (S (.int (k : Nat))) H2 fun t H3 => (t = true → BE X scope elt (S (.int (k : Nat))) H3 fun y H4 => Same H2 H4 ∧ ∃ d, f k = some d ∧ Rp X.K H4 y d) ∧ (t = false → Same H2 H3 ∧ f k = none)) ∧
      ∀ p H2 ys, Same H1 H2 → H1 p = none → H2 p = some (.lst ys) → RpAll X.K H2 ys ((List.range n).filterMap f) → Q (.ref p) H2) : QL X elt (.Name x px) (.Call (.Name "range" rp) [a] [] rpos) [c] scope [i] σ H Q := by
  refine rg_auxT h hN nd hl hf (qi_range1 hm hg hs1 (q.imp fun v H1 ⟨n, e, hn, f, him, hb, hq⟩ => ⟨n, e, ?_, 0, _, rfl, ?_, fun z => f z.toNat, ⟨fun k hk => ?_, fun k H2 hk s2 => ?_⟩, fun p H2 ys s2 hp hp2 r => hq p H2 ys s2 hp hp2 ?_⟩))
  · omega
  · have := sizeLine_eq
    omega
  · rw [Int.zero_add]
    dsimp only
    rw [Int.toNat_natCast]
    exact him k (by omega)
  · rw [Int.zero_add]
    dsimp only
    rw [Int.toNat_natCast]
    exact hb k H2 (by omega) s2
  · simpa using r
theorem ixw_mt {α : Type} {xs : List α} {g : α → D} {k : Int} {d0 : α} (h : Rp X.K H v (.tup (xs.map g))) (h0 : 0 ≤ k) (hk : k.toNat < xs.length) (q : ∀ w, Rp X.K H w (g (xs.getD k.toNat d0)) → Q w H) : IxW X v (.int k) H Q := by
  obtain ⟨n, rfl⟩ := Int.eq_ofNat_of_zero_le h0
  rw [Int.toNat_natCast] at hk q
  refine ixw_tup h (d := g (xs.getD n d0)) ?_ q
  rw [atI_map, atI_nat hk]
  simp [hk]
theorem ixw_ml {α : Type} {xs : List α} {g : α → D} {k : Int} {d0 : α} (h : Rp X.K H v (.lst (xs.map g))) (h0 : 0 ≤ k) (hk : k.toNat < xs.length) (q : ∀ w, Rp X.K H w (g (xs.getD k.toNat d0)) → Q w H) : IxW X v (.int k) H Q := by
  obtain ⟨n, rfl⟩ := Int.eq_ofNat_of_zero_le h0
  rw [Int.toNat_natCast] at hk q
  refine ixw_lst h (d := g (xs.getD n d0)) ?_ q
  rw [atI_map, atI_nat hk]
  simp [hk]
theorem ixw_row {r : List Int} {k : Int} (h : Rp X.K H v (.tup (r.map .int))) (h0 : 0 ≤ k) (hk : k.toNat < r.length) (q : Q (.int (r.getD k.toNat 0)) H) : IxW X v (.int k) H Q :=
  ixw_mt (d0 := 0) h h0 hk fun w rw' => by rw [rw'.int_inv]; exact q
theorem ixw_rowL {r : List Int} {k : Int} (h : Rp X.K H v (.lst (r.map .int))) (h0 : 0 ≤ k) (hk : k.toNat < r.length) (q : Q (.int (r.getD k.toNat 0)) H) : IxW X v (.int k) H Q :=
  ixw_ml (d0 := 0) h h0 hk fun w rw' => by rw [rw'.int_inv]; exact q
end
end Sx

/-! Sn: != of tuples whose things have an own ==, all alike. -/
namespace Sx
open PySem PySem.SeqAt
open AutoSeq1 (wpAny_loadPart')
open MeetsSeq MeetsSeq2 MeetsSeq3 SeqRoads2
section
variable {prog : Program} {w : World} {A : Around} {R : Result → Shared → Prop}
theorem tne_run (p q : Addr) (us vs : Array Value) (n n2 : Nat) (dp dq : Option Addr) (sp sq : Array (Option Value)) (hz : us.size = vs.size) (J : Nat → Shared → Prop)
    (step : ∀ k (k1 : k < us.size) (k2 : k < vs.size) s, J k s → wpAny (model prog w) A.in1 (eqBool us[k] vs[k]) (fun r s' => r = true ∧ J (k + 1) s') (fun e s' => R (.error e) s') s)
    (last : ∀ s, J us.size s → R (.ok (.ret (.bool false))) s) {s : Shared} (ep : s.heap.get? p = some { cls := .type "tuple", dict := dp, data := .seq us n, slots := sp }) (eq : s.heap.get? q = some { cls := .type "tuple", dict := dq, data := .seq vs n2, slots := sq }) (j0 : J 0 s) :
    wpAny (model prog w) A.in1 (Builtin.«tuple.__ne__» ⟨[.ref p, .ref q], []⟩) (GQ.FinOf prog w A R) (fun e s' => R (.error e) s') s := by
  have sub := AutoSeq1.sub_tuple_tuple
  have zl : (us.toList.zip vs.toList).length = us.size := by simp [hz]
  have j1 := j0
  obtain ⟨hp, g, d, tk, os⟩ := s
  wp_walk using wpAny_loadPart' ep, wpAny_loadPart' eq, wpAny_forIn_list _ (fun more r s' => r.1 = none ∧ ∃ k, more = (us.toList.zip vs.toList).drop k ∧ k ≤ us.size ∧ J k s') _
  case turn =>
    rintro ⟨u, v⟩ more r s' ⟨hr, k, hm, hk, hJ⟩
    have lt : k < (us.toList.zip vs.toList).length := Nat.lt_of_not_le fun ge => by
      rw [List.drop_of_length_le ge] at hm
      cases hm
    have k1 : k < us.size := zl ▸ lt
    have k2 : k < vs.size := hz ▸ k1
    rw [List.drop_eq_getElem_cons lt] at hm
    injection hm with huv hmore
    obtain rfl : u = us[k] := by simpa using congrArg Prod.fst huv
    obtain rfl : v = vs[k] := by simpa using congrArg Prod.snd huv
    refine wpAny_bind (wpAny_mono (step k k1 k2 s' hJ) (fun t s2 ht => ?_) fun _ _ x => x)
    obtain ⟨rfl, hJ2⟩ := ht
    wp_walk
    exact ⟨rfl, k + 1, hmore, k1, hJ2⟩
  case fin =>
    rintro ⟨r1, r2⟩ s' ⟨hr, k, hm, hk, hJ⟩
    simp only at hr
    subst hr
    have ge : us.size ≤ k := Nat.le_of_not_lt fun lt => by
      have lt' : k < (us.toList.zip vs.toList).length := by rw [zl]; exact lt
      rw [List.drop_eq_getElem_cons lt'] at hm
      cases hm
    obtain rfl : k = us.size := Nat.le_antisymm hk ge
    have hR := last s' hJ
    wp_walk
    simpa [Builtin.Tuple.tupleCompareSizes, hz] using hR
  case h => exact ⟨rfl, 0, rfl, Nat.zero_le _, j1⟩
theorem tne_rc {E : Value → Shared → Prop} {s : Shared} {p q : Addr} {us vs : Array Value} {Q : Value → Shared → Prop} (hz : us.size = vs.size) (hu : A.units < cLine) (J : Nat → Shared → Prop) (tp : s.heap.IsTuple p us) (tq : s.heap.IsTuple q vs)
    (step : ∀ k (k1 : k < us.size) (k2 : k < vs.size) s, J k s → wpAny (model prog w) A.in1 (eqBool us[k] vs[k]) (fun r s' => r = true ∧ J (k + 1) s') E s)
    (last : ∀ s, J us.size s → Q (.bool false) s) (j0 : J 0 s) : wpAny (model prog w) A (richCompare .NotEq (.ref p) (.ref q)) Q E s := by
  obtain ⟨⟨c1, d1, t1, l1⟩, e1, f1, n1, g1⟩ := tp
  obtain ⟨⟨c2, d2, t2, l2⟩, e2, f2, n2, g2⟩ := tq
  cases f1
  cases g1
  cases f2
  cases g2
  refine wpAny_richCompare_same_room (op := .NotEq) ⟨_, e1, rfl⟩ ⟨_, e2, rfl⟩ F.slot_tuple_ne (GQ.call_here F.slot_tuple_ne ⟨_, e1, rfl⟩ F.entry_tuple_ne (F.args_tuple_ne_2 _ _) ?_) hu
  exact tne_run (R := wants (fun v s' => v ≠ .notImplemented ∧ Q v s') E) p q us vs n1 n2 d1 d2 l1 l2 hz J step (fun s' h => ⟨(fun x => nomatch x), last s' h⟩) e1 e2 j0
end
end Sx
namespace Sx
open PySem PySem.Spec PyProof.Rows L2
section
variable {X : Cx} {n : Nat} {D : Eqv} {H : Hp} {Q : VK} {x y : V}
theorem opw_neTup (hD : Mon D) (h : EqG X n D) (hr : Room (n + 1) X.A) (d : DTup X.K D x y H) (q : ∀ H', Same H H' → Q (.bl false) H') : OpW X (compareOp .NotEq) x y H Q := by
  intro pins s σ u v I rx ry
  obtain ⟨a, b, xs, ys, rfl, rfl, ha, hb, p⟩ := d
  cases rx
  cases ry
  obtain ⟨us, r, e, z⟩ := I.tuple ha
  obtain ⟨vs, r2, e2, z2⟩ := I.tuple hb
  have hz : us.toArray.size = vs.toArray.size := by rw [List.size_toArray, List.size_toArray, ← r.length, ← r2.length]; exact p.1
  show wpAny (model X.prog X.w) X.A (richCompare .NotEq (.ref a) (.ref b)) (EP X pins σ Q) X.xe s
  have sb : Sub X (n + 1) X.A := ⟨hr, rfl⟩
  exact tne_rc hz sb.room.units0 (fun _ s' => LoopI X pins σ H s') e e2 (fun i h1 h2 s' l => turnG hD h sb p r r2 i h1 h2 s' l) (fun s' ⟨H', I', e'⟩ => ⟨.bl false, H', I', rfl, q H' e'⟩) ⟨H, I, Ext.rfl'⟩
end
/-! a list taken apart; a number in a tuple of numbers; tuples and lists repeated; slices -/
section
variable {X : Cx} {σ : Sl} {H : Hp} {Q : VK} {x y v : V} {pos p : Pos} {e lo hi : Expr}
theorem wg_lst {es : List Expr} {k : Nat} {a : Addr} {xs : List V} {Q : Sl → Hp → Prop} (hc : X.calm = true) (ht : SqL X.K H a xs) (hl : xs.length = (assignEach es X.env).length) (hst : (assignEach es X.env).findIdx? (·.1) = none) (q : QGs X es xs σ H Q) : QG X (.Tuple es k pos) (.ref a) σ H Q :=
  wg_of (pg_lst hc pgs_sem rfl hst) ⟨a, xs, rfl, ht, hl, q⟩
theorem inV_ints (i : Int) (ns : List Int) : inV (.int i) (ns.map .int) = decide (i ∈ ns) := by
  unfold inV
  rw [List.any_map]
  show ns.any (fun z => z == i) = _
  rw [Bool.eq_iff_iff, List.any_eq_true, decide_eq_true_iff]
  constructor
  · rintro ⟨z, hz, e⟩
    rw [← eq_of_beq e]
    exact hz
  · exact fun h => ⟨i, h, beq_self_eq_true i⟩
theorem opw_inI {a : Addr} {i : Int} {ns : List Int} (h : H a = some (.tup (ns.map .int))) (q : Q (.bl (decide (i ∈ ns))) H) : OpW X (compareOp .In) (.int i) (.ref a) H Q :=
  opw_of op_in_seq ⟨a, _, rfl, .inr (.inl (.inl h)), rfl, by simp [flatV], by rw [if_neg (by decide), inV_ints]; exact q⟩
theorem opw_ninI {a : Addr} {i : Int} {ns : List Int} (h : H a = some (.tup (ns.map .int))) (q : Q (.bl (!decide (i ∈ ns))) H) : OpW X (compareOp .NotIn) (.int i) (.ref a) H Q :=
  opw_of op_notIn_seq ⟨a, _, rfl, .inr (.inl (.inl h)), rfl, by simp [flatV], by rw [if_pos rfl, inV_ints]; exact q⟩
end
section
variable {K : PySem.W.Frag} {H : Hp}
theorem cut_hi {xs : List V} {k : Nat} (h : k ≤ xs.length) : cutV xs none (some (k : Int)) = xs.take k := by
  unfold cutV
  rw [HT.sIx_none, HT.sIx_nat, Nat.min_eq_left h]
  simp
theorem cut_lo {xs : List V} {k : Nat} (h : k ≤ xs.length) : cutV xs (some (k : Int)) none = xs.drop k := by
  unfold cutV
  rw [HT.sIx_none, HT.sIx_nat, Nat.min_eq_left h]
  rw [List.take_of_length_le (by rw [List.length_drop]; omega)]
theorem RpAll.takeK : ∀ {k : Nat} {xs : List V} {ds : List D}, RpAll K H xs ds → RpAll K H (xs.take k) (ds.take k)
  | 0, _, _, _ => .nil
  | _ + 1, _, _, .nil => .nil
  | k + 1, _, _, .cons a r => .cons a (RpAll.takeK (k := k) r)
theorem RpAll.dropK : ∀ {k : Nat} {xs : List V} {ds : List D}, RpAll K H xs ds → RpAll K H (xs.drop k) (ds.drop k)
  | 0, _, _, r => r
  | _ + 1, _, _, .nil => .nil
  | k + 1, _, _, .cons _ r => RpAll.dropK (k := k) r
end
section
variable {X : Cx} {σ : Sl} {H : Hp} {Q : VK} {pos p2 : Pos} {e lo hi : Expr}
theorem we_slHiT (q : QE X e σ H fun x H1 => QE X hi σ H1 fun u H2 => ∃ (ds : List D) (k : Nat), u = .int k ∧ k < ds.length ∧ Rp X.K H2 x (.tup ds) ∧ ∀ v H3, Same H2 H3 → Rp X.K H3 v (.tup (ds.take k)) → Q v H3) : QE X (.Subscript e (.Slice none (some hi) none p2) pos) σ H Q := by
  refine we_of (pe_slice sl_tup pe_sem po_none (po_some pe_sem)) ?_
  intro pins s I
  refine thn (q pins s I) fun u s1 ⟨x, H1, I1, r1, q1⟩ => ⟨x, H1, I1, r1, ?_⟩
  show QE X hi σ H1 _
  refine QE.imp q1 fun u H2 ⟨ds, k, e1, hk, r, z⟩ => ?_
  obtain ⟨a, xs, rfl, h1, h2⟩ := r.tup_inv
  have hk' : k < xs.length := by rw [h2.len]; exact hk
  refine ⟨k, e1, a, xs, rfl, h1, fun hw => ?_, fun p hp => z (.ref p) _ (same_new hp) ?_⟩
  · have := hw.2
    rw [HT.sIx_nat, Nat.min_eq_left (Nat.le_of_lt hk')] at this
    omega
  · rw [cut_hi (Nat.le_of_lt hk')]
    exact .tupOf upd_same (RpAll.takeK (h2.to (same_new hp)))
theorem we_slLoT (q : QE X e σ H fun x H1 => QE X lo σ H1 fun u H2 => ∃ (ds : List D) (k : Nat), u = .int k ∧ (1 ≤ k ∧ k ≤ ds.length) ∧ Rp X.K H2 x (.tup ds) ∧ ∀ v H3, Same H2 H3 → Rp X.K H3 v (.tup (ds.drop k)) → Q v H3) : QE X (.Subscript e (.Slice (some lo) none none p2) pos) σ H Q := by
  refine we_of (pe_slice sl_tup pe_sem (po_some pe_sem) po_none) ?_
  intro pins s I
  refine thn (q pins s I) fun u s1 ⟨x, H1, I1, r1, q1⟩ => ⟨x, H1, I1, r1, ?_⟩
  show QE X lo σ H1 _
  refine QE.imp q1 fun u H2 ⟨ds, k, e1, hk, r, z⟩ => ?_
  obtain ⟨a, xs, rfl, h1, h2⟩ := r.tup_inv
  have hk' : k ≤ xs.length := by rw [h2.len]; exact hk.2
  refine ⟨k, e1, a, xs, rfl, h1, fun hw => ?_, fun p hp => z (.ref p) _ (same_new hp) ?_⟩
  · have := hw.1
    rw [HT.sIx_nat, Nat.min_eq_left hk'] at this
    omega
  · rw [cut_lo hk']
    exact .tupOf upd_same (RpAll.dropK (h2.to (same_new hp)))
theorem we_slHiL (q : QE X e σ H fun x H1 => QE X hi σ H1 fun u H2 => ∃ (ds : List D) (k : Nat), u = .int k ∧ k ≤ ds.length ∧ Rp X.K H2 x (.lst ds) ∧ ∀ p H3 xs, H2 p = none → Same H2 H3 → H3 p = some (.lst xs) → RpAll X.K H3 xs (ds.take k) → Q (.ref p) H3) : QE X (.Subscript e (.Slice none (some hi) none p2) pos) σ H Q := by
  refine we_of (pe_slice sl_list pe_sem po_none (po_some pe_sem)) ?_
  intro pins s I
  refine thn (q pins s I) fun u s1 ⟨x, H1, I1, r1, q1⟩ => ⟨x, H1, I1, r1, ?_⟩
  show QE X hi σ H1 _
  refine QE.imp q1 fun u H2 ⟨ds, k, e1, hk, r, z⟩ => ?_
  obtain ⟨a, xs, rfl, h1, h2⟩ := r.lst_inv
  have hk' : k ≤ xs.length := by rw [h2.len]; exact hk
  refine ⟨k, e1, a, xs, rfl, h1, fun p hp => z p _ _ hp (same_new hp) upd_same ?_⟩
  rw [cut_hi hk']
  exact RpAll.takeK (h2.to (same_new hp))
theorem we_slLoL (q : QE X e σ H fun x H1 => QE X lo σ H1 fun u H2 => ∃ (ds : List D) (k : Nat), u = .int k ∧ k ≤ ds.length ∧ Rp X.K H2 x (.lst ds) ∧ ∀ p H3 xs, H2 p = none → Same H2 H3 → H3 p = some (.lst xs) → RpAll X.K H3 xs (ds.drop k) → Q (.ref p) H3) : QE X (.Subscript e (.Slice (some lo) none none p2) pos) σ H Q := by
  refine we_of (pe_slice sl_list pe_sem (po_some pe_sem) po_none) ?_
  intro pins s I
  refine thn (q pins s I) fun u s1 ⟨x, H1, I1, r1, q1⟩ => ⟨x, H1, I1, r1, ?_⟩
  show QE X lo σ H1 _
  refine QE.imp q1 fun u H2 ⟨ds, k, e1, hk, r, z⟩ => ?_
  obtain ⟨a, xs, rfl, h1, h2⟩ := r.lst_inv
  have hk' : k ≤ xs.length := by rw [h2.len]; exact hk
  refine ⟨k, e1, a, xs, rfl, h1, fun p hp => z p _ _ hp (same_new hp) upd_same ?_⟩
  rw [cut_lo hk']
  exact RpAll.dropK (h2.to (same_new hp))
end
/-- a number that stands under a global name -/
theorem we_gint {X : Cx} {σ : Sl} {H : Hp} {Q : VK} {x : Str} {pos : Pos} {i : Int} {t : Tok} (hm : X.mg x = some (.int i t)) (hg : Gl X x) (q : Q (.int i) H) (hdb : (x == ("__debug__" : Str)) = false := by decide) : QE X (.Name x pos) σ H Q := we_gval hm hg (v := .int i) ⟨_, rfl⟩ q hdb
section
variable {X : Cx} {σ : Sl} {H : Hp} {Q : VK} {o e : Expr} {apos cpos : Pos}
/-- xs.append(e) -/
theorem we_append (hbase : attributeBase o "append" X.env (eval o X.env) = eval o X.env)
    (hfew : ((backTo cpos (starEach [e] X.env)).all (fun x => !x.1) && (backToKw cpos (keywordEach [] X.env)).all (fun x => x.1.isSome) && decide ([e].length + ([] : List Keyword).length + (if ([] : List Keyword).isEmpty then 0 else 1) < 30)) = true)
    (hline : (apos.endLine == cpos.line) = true) (hs : starEach [e] X.env = (false, eval e X.env) :: starEach [] X.env) (hs0 : starEach [e] X.env = [(false, eval e X.env)]) (hpl : (backTo cpos (starEach [] X.env)).any (·.1) = false)
    (q : QE X o σ H fun x H1 => ∃ l xs1, x = .ref l ∧ H1 l = some (.lst xs1) ∧ QE X e σ H1 fun y H2 => ∃ xs, H2 l = some (.lst xs) ∧ xs.length < sizeLine ∧ Q .non (upd H2 l (.lst (xs ++ [y])))) : QE X (.Call (.Attribute o "append" apos) [e] [] cpos) σ H Q := by
  refine we_of (pe_bm PySem.F.plainAttrs_list PySem.F.slot_list_append PySem.F.type_list_append mt_append pe_sem pa_sem hbase hfew hline hs hpl) ?_
  refine q.imp fun x H1 ⟨l, xs1, e1, h1, q1⟩ => ?_
  subst e1
  refine ⟨?_, wa_cons hs0 (QE.imp q1 fun y H2 ⟨xs, h2, hz, z⟩ => wa_nil ⟨l, xs, y, rfl, rfl, h2, hz, z⟩)⟩
  exact .inl ⟨rfl, xs1, .inl (.inl h1)⟩
end
/-- isinstance(x, (list, tuple)) -/
theorem callw_isiT {X : Cx} {H : Hp} {Q : VK} {v : V} {d : D} {n : String} {b : Bool} {tp : Addr} (h : Rp X.K H v d) (e : d.ty = some n) (ht : H tp = some (.tup [.ty "list", .ty "tuple"])) (k : PySem.W.kitAny X.K (.type n) [.type "list", .type "tuple"] = some b) (q : Q (.bl b) H) : CallW X (.builtin "isinstance") [v, .ref tp] H Q :=
  callw_of call_isiT ⟨v, tp, _, _, _, b, rfl, ht, .cons (.ty _) (.cons (.ty _) .nil), h.tyx e, k, q⟩
theorem kit_lt {K : PySem.W.Frag} : PySem.W.kitAny K (.type "NoneType") [.type "list", .type "tuple"] = some false ∧ PySem.W.kitAny K (.type "int") [.type "list", .type "tuple"] = some false ∧ PySem.W.kitAny K (.type "list") [.type "list", .type "tuple"] = some true ∧ PySem.W.kitAny K (.type "tuple") [.type "list", .type "tuple"] = some true :=
  ⟨by kernel_rfl, by kernel_rfl, by kernel_rfl, by kernel_rfl⟩
end Sx

/-! Sp: loops that fill a list. -/
namespace Sx
open PySem PySem.Spec PyProof.Rows L2
/-- all but the thing at p as it was -/
structure KL (p : Addr) (H H' : Hp) : Prop where
  s : ∀ b o, b ≠ p → H b = some o → H' b = some o
section
variable {K : PySem.W.Frag} {p : Addr} {H H' H2 : Hp}
theorem KL.refl : KL p H H := ⟨fun _ _ _ e => e⟩
theorem KL.same (k : KL p H H') (s : Same H' H2) : KL p H H2 := ⟨fun b o n e => s b o (k.s b o n e)⟩
theorem KL.of (s : Same H H') : KL p H H' := ⟨fun b o _ e => s b o e⟩
theorem KL.trans (k : KL p H H') (k2 : KL p H' H2) : KL p H H2 := ⟨fun b o n e => k2.s b o n (k.s b o n e)⟩
theorem KL.upd {o : HO} : KL p H (upd H p o) := ⟨fun b u n e => by rw [upd_ne n]; exact e⟩
theorem KL.rp {v : V} {d : D} (k : KL p H H') (l : Lst H p) (r : Rp K H v d) (m : d.im = true) : Rp K H' v d := Rp.keep l k.s d v m r
theorem KL.rpA {v : List V} {d : List D} (k : KL p H H') (l : Lst H p) (r : RpAll K H v d) (m : imAll d = true) : RpAll K H' v d := RpAll.keep l k.s d v m r
theorem KL.tup {a : Addr} {xs : List V} (k : KL p H H') (l : Lst H p) (h : SqT K H a xs) : SqT K H' a xs := by
  obtain ⟨zs, hz⟩ := l
  rcases h with (h | ⟨o, h⟩) | h
  · exact .inl (.inl (k.s _ _ (fun e => by rw [e, hz] at h; cases h) h))
  · exact .inl (.inr ⟨o, k.s _ _ (fun e => by rw [e, hz] at h; cases h) h⟩)
  · exact .inr h
end
section
variable {X : Cx} {iter tg : Expr} {body : List Stmt} {E : Ends} {σ : Sl} {H : Hp} {pos : Pos}
theorem ws_forA (hp : PassesOwn (model X.prog X.w) X.A X.env X.xe) (hc : X.calm = true) (hfs : ∀ x, foldedSetIterable iter X.env x = pure x)
    (q : QE X iter σ H fun v H1 => ∃ (ds : List D) (p : Addr), Rp X.K H1 v (.tup ds) ∧ imAll ds = true ∧ Lst H1 p ∧ ∃ Pv : Nat → Sl → Hp → Prop, Pv 0 σ H1 ∧ (∀ k σ H', Pv k σ H' → KL p H1 H') ∧
      (∀ k d w σ1 H2, ds[k]? = some d → Pv k σ1 H2 → Rp X.K H2 w d → Turn X tg body E Pv k w σ1 H2) ∧ (∀ σ1 H2, Pv ds.length σ1 H2 → E.nx σ1 H2)) : QS X (.For tg iter body [] pos) E σ H := by
  refine qs_for hp hc hfs (qi_tup (q.imp fun v H1 ⟨ds, p, r, him, l, Pv, h0, hS, hb, hd⟩ => ?_))
  obtain ⟨a, xs, rfl, h1, h2⟩ := r.tup_inv
  refine ⟨a, rfl, ⟨xs, h1⟩, xs.length, _, _, walk_tup (xs := xs), Pv, h0, fun k σ1 H2 _ z => (hS _ _ _ z).tup l h1, ?_, by rw [h2.len]; exact hd⟩
  rintro k w σ1 H2 H3 hk z ⟨rfl, e⟩
  obtain ⟨d, e1, r1⟩ := ((hS _ _ _ z).rpA l h2 him).get e
  exact hb k d w σ1 H3 e1 z r1
theorem imAll_map {α : Type} {xs : List α} {g : α → D} (h : ∀ a, (g a).im = true) : imAll (xs.map g) = true := by
  rw [imAll_iff]
  intro d hd
  obtain ⟨a, _, rfl⟩ := List.mem_map.mp hd
  exact h a
end
end Sx

/-! Sb: comprehensions that make lists (each new); a tuple or a list told by a Bool. -/
namespace Sx
open PySem PySem.Spec PyProof.Rows L2
section
theorem RpAll.setA {K : PySem.W.Frag} {H : Hp} {v : V} {d : D} : ∀ {xs : List V} {ds : List D} (k : Nat), RpAll K H xs ds → Rp K H v d → RpAll K H (xs.set k v) (ds.set k d)
  | _, _, _, .nil, _ => .nil
  | _, _, 0, .cons _ r, h => .cons h r
  | _, _, k + 1, .cons a r, h => .cons a (RpAll.setA k r h)
end
section
variable {K : PySem.W.Frag} {H0 H H' H1 : Hp} {p : Addr} {as : List Addr} {dss : List (List D)}
/-- lists, each at its own place, none of them at p -/
structure RowsAt (K : PySem.W.Frag) (H0 H : Hp) (p : Addr) (as : List Addr) (dss : List (List D)) : Prop where
  nd : as.Nodup
  np : p ∉ as
  fr : ∀ a ∈ as, H0 a = none
  len : as.length = dss.length
  at_ : ∀ (k : Nat) a, as[k]? = some a → ∃ xs ds, H a = some (.lst xs) ∧ dss[k]? = some ds ∧ RpAll K H xs ds
theorem RowsAt.to (h : RowsAt K H0 H p as dss) (s : Same H H') : RowsAt K H0 H' p as dss :=
  ⟨h.nd, h.np, h.fr, h.len, fun k a e => let ⟨xs, ds, e1, e2, r⟩ := h.at_ k a e; ⟨xs, ds, s _ _ e1, e2, r.to s⟩⟩
theorem RowsAt.keep (h : RowsAt K H0 H p as dss) (hp : Lst H p) (him : ∀ ds ∈ dss, imAll ds = true) (s : ∀ b o, b ≠ p → H b = some o → H' b = some o) : RowsAt K H0 H' p as dss :=
  ⟨h.nd, h.np, h.fr, h.len, fun k a e => let ⟨xs, ds, e1, e2, r⟩ := h.at_ k a e; ⟨xs, ds, s _ _ (fun ea => h.np (ea ▸ List.mem_of_getElem? e)) e1, e2, RpAll.keep hp s _ _ (him ds (List.mem_of_getElem? e2)) r⟩⟩
theorem RowsAt.keepA {a : Addr} (h : RowsAt K H0 H p as dss) (ha : Lst H a) (na : a ∉ as) (him : ∀ ds ∈ dss, imAll ds = true) (s : ∀ b o, b ≠ a → H b = some o → H' b = some o) : RowsAt K H0 H' p as dss :=
  ⟨h.nd, h.np, h.fr, h.len, fun k b e => let ⟨xs, ds, e1, e2, r⟩ := h.at_ k b e; ⟨xs, ds, s _ _ (fun ea => na (ea ▸ List.mem_of_getElem? e)) e1, e2, RpAll.keep ha s _ _ (him ds (List.mem_of_getElem? e2)) r⟩⟩
theorem RowsAt.snoc {a : Addr} {xs : List V} {ds : List D} (h : RowsAt K H0 H p as dss) (hn : a ∉ as) (hp : p ≠ a) (h0 : H0 a = none) (e : H a = some (.lst xs)) (r : RpAll K H xs ds) : RowsAt K H0 H p (as ++ [a]) (dss ++ [ds]) := by
  refine ⟨?_, by simp [h.np, hp], fun b hb => (List.mem_append.mp hb).elim (h.fr b) (fun hb => by rw [List.mem_singleton.mp hb]; exact h0), by simp [h.len], fun k b e1 => ?_⟩
  · rw [List.nodup_append]
    exact ⟨h.nd, by simp, fun x hx y hy => by simp at hy; subst hy; exact fun e => hn (e ▸ hx)⟩
  · by_cases hk : k < as.length
    · rw [List.getElem?_append_left hk] at e1
      obtain ⟨xs, ds, z1, z2, z3⟩ := h.at_ k b e1
      exact ⟨xs, ds, z1, by rw [List.getElem?_append_left (by rw [← h.len]; exact hk)]; exact z2, z3⟩
    · rw [List.getElem?_append_right (by omega)] at e1
      have hk2 : k - as.length = 0 := by
        have := (List.getElem?_eq_some_iff.mp e1).1
        simp at this
        omega
      rw [hk2] at e1
      simp at e1
      subst e1
      exact ⟨xs, ds, e, by rw [List.getElem?_append_right (by rw [← h.len]; omega), ← h.len, hk2]; rfl, r⟩
theorem RowsAt.rp (h : RowsAt K H0 H p as dss) : RpAll K H (as.map V.ref) (dss.map D.lst) := by
  obtain ⟨nd, np, fr, len, at_⟩ := h
  clear nd np fr
  induction as generalizing dss with
  | nil =>
    match dss, len with
    | [], _ => exact .nil
  | cons a as ih =>
    match dss, len with
    | ds :: dss, len =>
      refine .cons ?_ (ih (by simpa using len) fun k b e => ?_)
      · obtain ⟨xs, ds', e1, e2, r⟩ := at_ 0 a rfl
        cases e2
        exact .lstOf e1 r
      · obtain ⟨xs, ds', e1, e2, r⟩ := at_ (k + 1) b (by simpa using e)
        exact ⟨xs, ds', e1, by simpa using e2, r⟩
/-- an item of one of the lists is set -/
theorem RowsAt.set {a : Addr} {xs : List V} {ds : List D} {i k : Nat} {c : Int} (h : RowsAt K H0 H p as dss) (hi : as[i]? = some a) (e : H a = some (.lst xs)) (ed : dss[i]? = some ds) (r : RpAll K H xs ds) (him : ∀ ds ∈ dss, imAll ds = true) : RowsAt K H0 (upd H a (.lst (xs.set k (.int c)))) p as (dss.set i (ds.set k (.int c))) := by
  have hl : Lst H a := ⟨_, e⟩
  have hk : ∀ b o, b ≠ a → H b = some o → (upd H a (.lst (xs.set k (.int c)))) b = some o := fun b o n q => by rw [upd_ne n]; exact q
  have li : i < dss.length := (List.getElem?_eq_some_iff.mp ed).1
  refine ⟨h.nd, h.np, h.fr, by rw [List.length_set]; exact h.len, fun j b ej => ?_⟩
  by_cases hj : j = i
  · subst hj
    rw [hi] at ej
    cases ej
    exact ⟨_, _, upd_same, by rw [List.getElem?_set_self li], (RpAll.keep hl hk _ _ (him ds (List.mem_of_getElem? ed)) r).setA k (.int c)⟩
  · obtain ⟨zs, es, z1, z2, z3⟩ := h.at_ j b ej
    have nb : b ≠ a := by
      rintro rfl
      have l1 := (List.getElem?_eq_some_iff.mp ej)
      have l2 := (List.getElem?_eq_some_iff.mp hi)
      exact hj ((List.getElem_inj h.nd).mp (l1.2.trans l2.2.symm))
    exact ⟨zs, es, hk _ _ nb z1, by rw [List.getElem?_set_ne (Ne.symm hj)]; exact z2, RpAll.keep hl hk _ _ (him es (List.mem_of_getElem? z2)) z3⟩
structure LcN (K : PySem.W.Frag) (H1 : Hp) (Dl : Addr) (F : Nat → List D) (i : Nat) (H : Hp) : Prop where
  s : Same H1 H
  l : ∃ as, H Dl = some (.lst (as.map V.ref)) ∧ RowsAt K H1 H Dl as ((List.range i).map F)
end
section
variable {X : Cx} {tg iter e a b l : Expr} {σ : Sl} {H : Hp} {pos : Pos}
/-- [elt for tg in iter], elt a new list each time -/
theorem ql_lcN {elt : Expr} {scope : Scope} {vs : List Nat} {Q : VK} {σw : Sl} (hw : wipe σ vs = σw)
    (q : QI X tg iter σ H fun J H1 => ∃ (n : Nat) (G : Hp → Prop) (Y : Nat → Hp → V → Hp → Prop), Walk J n G Y ∧ n < sizeLine ∧ (∀ H', Same H1 H' → G H') ∧ ∃ F : Nat → List D, (∀ i, i < n → imAll (F i) = true) ∧
      (∀ i x H2 H3, i < n → Same H1 H2 → Y i H2 x H3 → BG X scope tg x σw H3 fun σ2 H4 => wipe σ2 vs = σw ∧ BE X scope elt σ2 H4 fun y H5 => Same H2 H5 ∧ ∃ a xs, y = .ref a ∧ H2 a = none ∧ H5 a = some (.lst xs) ∧ RpAll X.K H5 xs (F i)) ∧
      (∀ p H2 as, Same H1 H2 → H1 p = none → H2 p = some (.lst (as.map V.ref)) → RowsAt X.K H1 H2 p as ((List.range n).map F) → Q (.ref p) H2)) : QL X elt tg iter [] scope vs σ H Q := by
  show QI X tg iter σ H _
  refine q.imp fun J H1 ⟨n, G, Y, w, hn, hG, F, him, hb, hq⟩ Dl hD => ?_
  refine lc_it w (fun i H => i ≤ n ∧ LcN X.K H1 Dl F i H) ⟨Nat.zero_le _, same_new hD, [], upd_same, ⟨List.nodup_nil, by simp, by simp, rfl, fun k a e => by simp at e⟩⟩ (fun i H _ h => hG H h.2.s) (fun i x H2 H3 hi ⟨hi', h⟩ y => ?_) (fun H2 ⟨_, h⟩ => ?_)
  · rw [hw]
    have hb' := hb i x H2 H3 hi h.s y
    intro s H0 C cl fp pins s1 u I r
    refine thn (hb' s H0 C cl fp pins s1 u I r) fun _ s2 ⟨σ2, H4, I4, e4, b4⟩ => ⟨σ2, H4, I4, e4, ?_⟩
    delta QT1 tYes
    dsimp only
    rw [if_pos rfl]
    intro s H0 C cl fp pins s1 I
    refine thn (b4 s H0 C cl fp pins s1 I) fun u s3 ⟨v, H5, I5, r5, s5, a, xs, ev, ha, e5, rp⟩ => ⟨v, H5, I5, r5, ?_⟩
    subst ev
    obtain ⟨as, h1, h2⟩ := h.l
    have n1 : a ∉ as := fun hm => by
      obtain ⟨k, hk⟩ := List.getElem?_of_mem hm
      obtain ⟨xs, ds, z, _⟩ := h2.at_ k a hk
      rw [ha] at z
      cases z
    have n3 : H1 a = none := by
      cases z : H1 a with
      | none => rfl
      | some o => rw [h.s _ _ z] at ha; cases ha
    have n2 : Dl ≠ a := fun e => by rw [e, ha] at h1; cases h1
    have hl5 : Lst H5 Dl := ⟨_, s5 _ _ h1⟩
    have hk : ∀ b o, b ≠ Dl → H5 b = some o → (upd H5 Dl (.lst (as.map V.ref ++ [V.ref a]))) b = some o := fun b o n q => by rw [upd_ne n]; exact q
    have hlen : as.length = i := by rw [h2.len]; simp
    refine ⟨as.map V.ref, s5 _ _ h1, by rw [List.length_map, hlen]; omega, by omega, fun b o q => ?_, as ++ [a], by rw [upd_same]; simp, ?_⟩
    · rw [upd_ne (ne_of_none q hD)]
      exact s5 _ _ (h.s _ _ q)
    · rw [List.range_succ, List.map_append]
      refine (RowsAt.keep (h2.to s5) hl5 (fun ds hd => ?_) hk).snoc n1 n2 n3 (hk _ _ n2.symm e5) (RpAll.keep hl5 hk _ _ (him i hi) rp)
      obtain ⟨j, hj, rfl⟩ := List.mem_map.mp hd
      exact him j (by have := List.mem_range.mp hj; omega)
  · obtain ⟨as, h1, h2⟩ := h.l
    exact hq Dl H2 as h.s hD h1 h2
end
section
variable {X : Cx} {elt iter c : Expr} {scope : Scope} {N : List Str} {σ σw : Sl} {S : V → Sl} {H : Hp} {Q : VK} {x : Str} {i : Nat} {px pos rp rpos : Pos} {a b : Expr}
theorem ql_seqN (h : Tgt N σ x σw S i) (hN : X.N = N) (nd : X.N.Nodup)
    (hl : ∀ s H0 C cl fp, Loc (X.blk s H0 scope (compEnvC scope cl C X.env) fp).env.scope x) (hf : ∀ s H0 C cl fp, (X.blk s H0 scope (compEnvC scope cl C X.env) fp).fn x = true ∨ (X.blk s H0 scope (compEnvC scope cl C X.env) fp).env.scope.names.lookup x = some .local)
    (q : QI X (.Name x px) iter σ H fun J H1 => ∃ (n : Nat) (G : Hp → Prop) (Y : Nat → Hp → V → Hp → Prop), Walk J n G Y ∧ n < sizeLine ∧ (∀ H', Same H1 H' → G H') ∧ ∃ F : Nat → List D, (∀ i, i < n → imAll (F i) = true) ∧
      (∀ i v H2 H3, i < n → Same H1 H2 → Y i H2 v H3 → BE X scope elt (S v) H3 fun y H5 => Same H2 H5 ∧ ∃ a xs, y = .ref a ∧ H2 a = none ∧ H5 a = some (.lst xs) ∧ RpAll X.K H5 xs (F i)) ∧
      (∀ p H2 as, Same H1 H2 → H1 p = none → H2 p = some (.lst (as.map V.ref)) → RowsAt X.K H1 H2 p as ((List.range n).map F) → Q (.ref p) H2)) : QL X elt (.Name x px) iter [] scope [i] σ H Q := by
  refine ql_lcN (σw := σw) (by show (wipe σ []).set i none = σw; exact h.w) (q.imp fun J H1 ⟨n, G, Y, w, hn, hG, F, him, hb, hq⟩ => ⟨n, G, Y, w, hn, hG, F, him, fun k v H2 H3 hk s2 y => ?_, hq⟩)
  intro s H0 C cl fp
  refine wg_of (pg_name (i := i) nd (by show X.N[i]? = some x; rw [hN]; exact h.n) (hl s H0 C cl fp) (hf s H0 C cl fp)) ?_
  show wipe (σw.set i (some v)) [i] = σw ∧ _
  rw [h.p]
  exact ⟨by show (S v).set i none = σw; exact h.b v, hb k v H2 H3 hk s2 y⟩
/-- .. over range(n) -/
theorem ql_rN (hm : X.mg "range" = none) (hg : Gl X "range") (h : Tgt N σ x σw S i) (hN : X.N = N) (nd : X.N.Nodup)
    (hl : ∀ s H0 C cl fp, Loc (X.blk s H0 scope (compEnvC scope cl C X.env) fp).env.scope x) (hf : ∀ s H0 C cl fp, (X.blk s H0 scope (compEnvC scope cl C X.env) fp).fn x = true ∨ (X.blk s H0 scope (compEnvC scope cl C X.env) fp).env.scope.names.lookup x = some .local)
    (hs1 : starEach [a] X.env = [(false, eval a X.env)])
    (q : QE X a σ H fun v H1 => ∃ n : Nat, v = .int n ∧ n ≤ 1000 ∧ ∃ f : Nat → List D, (∀ k, k < n → imAll (f k) = true) ∧
      (∀ k H2, k < n → Same H1 H2 → BE X scope elt (S (.int (k : Nat))) H2 fun y H3 => Same H2 H3 ∧ ∃ a xs, y = .ref a ∧ H2 a = none ∧ H3 a = some (.lst xs) ∧ RpAll X.K H3 xs (f k)) ∧
      ∀ p H2 as, Same H1 H2 → H1 p = none → H2 p = some (.lst (as.map V.ref)) → RowsAt X.K H1 H2 p as ((List.range n).map f) → Q (.ref p) H2) : QL X elt (.Name x px) (.Call (.Name "range" rp) [a] [] rpos) [] scope [i] σ H Q := by
  refine ql_seqN h hN nd hl hf (qi_range1 hm hg hs1 (q.imp fun v H1 ⟨n, e, hn, f, him, hb, hq⟩ => ⟨n, e, by omega, n, _, _, walk_range (lo := 0) (n := n), by have := sizeLine_eq; omega, fun _ _ => trivial, f, him, ?_, hq⟩))
  rintro k v H2 H3 hk s2 ⟨rfl, rfl⟩
  dsimp only
  rw [show (0 : Int) + (k : Nat) = (k : Int) by omega]
  exact hb k H3 hk s2
/-- what a tuple (b true) or a list is walked by -/
theorem qi_b {b : Bool} {tg l : Expr} {R : It → Hp → Prop} (q : QE X l σ H fun x H1 => ∃ a xs, x = .ref a ∧ SqB X.K b H1 a xs ∧ ∀ J, Walk J xs.length (fun H => SqB X.K b H a xs) (YAt xs) → R J H1) : QI X tg l σ H R := by
  cases b
  · exact qi_list (q.imp fun x H1 ⟨a, xs, e, h, r⟩ => ⟨a, e, ⟨xs, h⟩, r _ walk_list⟩)
  · exact qi_tup (q.imp fun x H1 ⟨a, xs, e, h, r⟩ => ⟨a, e, ⟨xs, h⟩, r _ walk_tup⟩)
/-- .. over a tuple (b true) or a list -/
theorem ql_mN (b : Bool) (h : Tgt N σ x σw S i) (hN : X.N = N) (nd : X.N.Nodup)
    (hl : ∀ s H0 C cl fp, Loc (X.blk s H0 scope (compEnvC scope cl C X.env) fp).env.scope x) (hf : ∀ s H0 C cl fp, (X.blk s H0 scope (compEnvC scope cl C X.env) fp).fn x = true ∨ (X.blk s H0 scope (compEnvC scope cl C X.env) fp).env.scope.names.lookup x = some .local)
    (q : QE X iter σ H fun v H1 => ∃ (α : Type) (xs : List α) (g : α → D) (f : α → List D), RpB X.K b H1 v (xs.map g) ∧ xs.length < sizeLine ∧ (∀ a ∈ xs, imAll (f a) = true) ∧
      (∀ a ∈ xs, ∀ w H2, Same H1 H2 → Rp X.K H2 w (g a) → BE X scope elt (S w) H2 fun y H3 => Same H2 H3 ∧ ∃ p zs, y = .ref p ∧ H2 p = none ∧ H3 p = some (.lst zs) ∧ RpAll X.K H3 zs (f a)) ∧
      ∀ p H2 as, Same H1 H2 → H1 p = none → H2 p = some (.lst (as.map V.ref)) → RowsAt X.K H1 H2 p as (xs.map f) → Q (.ref p) H2) : QL X elt (.Name x px) iter [] scope [i] σ H Q := by
  refine ql_seqN h hN nd hl hf (qi_b (b := b) (q.imp fun v H1 ⟨α, xs, g, f, r, hz, him, hb, hq⟩ => ?_))
  obtain ⟨a, vs, rfl, h1, h2⟩ := r.inv
  have hlen : vs.length = xs.length := by rw [h2.len, List.length_map]
  refine ⟨a, vs, rfl, h1, fun J W => ⟨vs.length, _, _, W, by omega, fun H' s => h1.to s, fun k => (xs[k]?).elim [] f, fun k hk => ?_, ?_, fun p H2 as s2 hp hp2 r => hq p H2 as s2 hp hp2 ?_⟩⟩
  · dsimp only
    rw [List.getElem?_eq_getElem (by omega)]
    exact him _ (List.getElem_mem _)
  · rintro k v H2 H3 hk s2 ⟨rfl, e⟩
    obtain ⟨d, e1, r1⟩ := (h2.to s2).getA e
    dsimp only
    rw [e1]
    exact hb d (List.mem_of_getElem? e1) v H3 s2 r1
  · have : (List.range vs.length).map (fun k => (xs[k]?).elim [] f) = xs.map f := by
      rw [hlen]
      refine List.ext_getElem? fun k => ?_
      rw [List.getElem?_map, List.getElem?_map]
      by_cases hk : k < xs.length
      · rw [List.getElem?_range hk, List.getElem?_eq_getElem hk]
        simp [List.getElem?_eq_getElem hk]
      · rw [List.getElem?_eq_none (by rw [List.length_range]; omega), List.getElem?_eq_none (by omega)]
        rfl
    rw [this] at r
    exact r
/-- a tuple, or a new list -/
def NwB (K : PySem.W.Frag) (b : Bool) (H H' : Hp) (y : V) (ds : List D) : Prop := match b with
  | true => Rp K H' y (.tup ds)
  | false => ∃ p zs, y = .ref p ∧ H p = none ∧ H' p = some (.lst zs) ∧ RpAll K H' zs ds
def dB (b : Bool) (ds : List D) : D := match b with
  | true => .tup ds
  | false => .lst ds
theorem rpB_dB {K : PySem.W.Frag} {b : Bool} {H : Hp} {v : V} {ds : List D} : RpB K b H v ds ↔ Rp K H v (dB b ds) := by
  cases b <;> exact Iff.rfl
theorem NwB.rpb {K : PySem.W.Frag} {b : Bool} {H H' : Hp} {y : V} {ds : List D} (h : NwB K b H H' y ds) : RpB K b H' y ds := by
  cases b
  · obtain ⟨p, zs, rfl, _, e, r⟩ := h
    exact .lstOf e r
  · exact h
theorem NwB.mono {K : PySem.W.Frag} {b : Bool} {H0 H H' : Hp} {y : V} {ds : List D} (h : NwB K b H H' y ds) (s : Same H0 H) : NwB K b H0 H' y ds := by
  cases b
  · obtain ⟨p, zs, rfl, hp, e, r⟩ := h
    refine ⟨p, zs, rfl, ?_, e, r⟩
    cases w : H0 p with
    | none => rfl
    | some o => rw [s _ _ w] at hp; cases hp
  · exact h
theorem NwB.to {K : PySem.W.Frag} {b : Bool} {H H' H2 : Hp} {y : V} {ds : List D} (h : NwB K b H H' y ds) (s : Same H' H2) : NwB K b H H2 y ds := by
  cases b
  · obtain ⟨p, zs, rfl, hp, e, r⟩ := h
    exact ⟨p, zs, rfl, hp, s _ _ e, r.to s⟩
  · exact Rp.to (d := .tup ds) h s
/-- a tuple, or a list of the heap -/
def LvB (K : PySem.W.Frag) (b : Bool) (H : Hp) (y : V) (ds : List D) : Prop := match b with
  | true => Rp K H y (.tup ds)
  | false => ∃ p zs, y = .ref p ∧ H p = some (.lst zs) ∧ RpAll K H zs ds
theorem NwB.lv {K : PySem.W.Frag} {b : Bool} {H H' : Hp} {y : V} {ds : List D} (h : NwB K b H H' y ds) : LvB K b H' y ds := by
  cases b
  · obtain ⟨p, zs, e1, _, e, r⟩ := h
    exact ⟨p, zs, e1, e, r⟩
  · exact h
theorem LvB.to {K : PySem.W.Frag} {b : Bool} {H H' : Hp} {y : V} {ds : List D} (h : LvB K b H y ds) (s : Same H H') : LvB K b H' y ds := by
  cases b
  · obtain ⟨p, zs, rfl, e, r⟩ := h
    exact ⟨p, zs, rfl, s _ _ e, r.to s⟩
  · exact Rp.to (d := .tup ds) h s
/-- [elt for x in a tuple or a list], elt a tuple or a new list -/
theorem ql_mB (b b2 : Bool) (h : Tgt N σ x σw S i) (hN : X.N = N) (nd : X.N.Nodup)
    (hl : ∀ s H0 C cl fp, Loc (X.blk s H0 scope (compEnvC scope cl C X.env) fp).env.scope x) (hf : ∀ s H0 C cl fp, (X.blk s H0 scope (compEnvC scope cl C X.env) fp).fn x = true ∨ (X.blk s H0 scope (compEnvC scope cl C X.env) fp).env.scope.names.lookup x = some .local)
    (q : QE X iter σ H fun v H1 => ∃ (α : Type) (xs : List α) (g : α → D) (f : α → List D), RpB X.K b H1 v (xs.map g) ∧ xs.length < sizeLine ∧ (∀ a ∈ xs, imAll (f a) = true) ∧
      (∀ a ∈ xs, ∀ w H2, Same H1 H2 → Rp X.K H2 w (g a) → BE X scope elt (S w) H2 fun y H3 => Same H2 H3 ∧ NwB X.K b2 H2 H3 y (f a)) ∧
      ∀ p H2 ys, Same H1 H2 → H1 p = none → H2 p = some (.lst ys) → RpAll X.K H2 ys (xs.map fun a => dB b2 (f a)) → Q (.ref p) H2) : QL X elt (.Name x px) iter [] scope [i] σ H Q := by
  cases b2
  · refine ql_mN b h hN nd hl hf (q.imp fun v H1 ⟨α, xs, g, f, r, hz, him, hb, hq⟩ => ⟨α, xs, g, f, r, hz, him, hb, fun p H2 as s2 hp hp2 rw' => hq p H2 _ s2 hp hp2 ?_⟩)
    have := rw'.rp
    rw [List.map_map] at this
    exact this
  · cases b
    · refine ql_ml h hN nd hl hf (q.imp fun v H1 ⟨α, xs, g, f, r, hz, him, hb, hq⟩ => ⟨α, xs, g, fun a => .tup (f a), r, hz, him, hb, hq⟩)
    · refine ql_mt h hN nd hl hf (q.imp fun v H1 ⟨α, xs, g, f, r, hz, him, hb, hq⟩ => ⟨α, xs, g, fun a => .tup (f a), r, hz, him, hb, hq⟩)
end
section
variable {X : Cx} {elt iter c : Expr} {scope : Scope} {N : List Str} {σ σ1 σw : Sl} {S1 S : V → Sl} {σi : V → Sl} {S2 : V → V → Sl} {H : Hp} {Q : VK} {x y : Str} {i j kk : Nat} {px py pos rp tpos : Pos} {a b : Expr}
/-- [elt for x, y in zip(a, b)], elt a new list -/
theorem ql_zipN (T : Two X scope N σ σ1 σw S1 S σi S2 x y i j) (hm : X.mg "zip" = none) (hg : Gl X "zip") (hs : starEach [a, b] X.env = (false, eval a X.env) :: starEach [b] X.env) (hs2 : starEach [b] X.env = [(false, eval b X.env)]) (hpl : (backTo pos (starEach [b] X.env)).any (·.1) = false)
    (q : QE X a σ H fun v H1 => QE X b σ H1 fun w H2 => ∃ (α β : Type) (b1 b2 : Bool) (xs : List α) (ys : List β) (g1 : α → D) (g2 : β → D) (f : α → β → List D), RpB X.K b1 H2 v (xs.map g1) ∧ RpB X.K b2 H2 w (ys.map g2) ∧ xs.length < sizeLine ∧ (∀ a ∈ xs, ∀ b ∈ ys, imAll (f a b) = true) ∧
      (∀ a ∈ xs, ∀ b ∈ ys, ∀ u1 u2 H3, Same H2 H3 → Rp X.K H3 u1 (g1 a) → Rp X.K H3 u2 (g2 b) → BE X scope elt (S2 u1 u2) H3 fun y H4 => Same H3 H4 ∧ ∃ p zs, y = .ref p ∧ H3 p = none ∧ H4 p = some (.lst zs) ∧ RpAll X.K H4 zs (f a b)) ∧
      ∀ p H3 as, Same H2 H3 → H2 p = none → H3 p = some (.lst (as.map V.ref)) → RowsAt X.K H2 H3 p as (List.zipWith f xs ys) → Q (.ref p) H3) :
    QL X elt (.Tuple [.Name x px, .Name y py] kk tpos) (.Call (.Name "zip" rp) [a, b] [] pos) [] scope [i, j] σ H Q := by
  refine ql_lcN (σw := σw) T.w (qi_z hm hg hs hs2 hpl (q.imp fun v H1 q1 => QE.imp q1 fun w H2 ⟨α, β, b1, b2, xs, ys, g1, g2, f, r1, r2, hz, him, hb, hq⟩ => ?_))
  obtain ⟨a1, vs, rfl, h1, h2⟩ := r1.inv
  obtain ⟨a2, ws, rfl, h3, h4⟩ := r2.inv
  have l1 : vs.length = xs.length := by rw [h2.len, List.length_map]
  have l2 : ws.length = ys.length := by rw [h4.len, List.length_map]
  have lz : (List.zipWith f xs ys).length = min vs.length ws.length := by rw [List.length_zipWith, l1, l2]
  refine ⟨b1, b2, a1, a2, vs, ws, rfl, rfl, h1, h3, _, _, _, walk_z, by omega, fun H' s => ⟨h1.to s, h3.to s⟩, fun k => (List.zipWith f xs ys).getD k [], fun k hk => ?_, ?_, ?_⟩
  · have hm : (List.zipWith f xs ys).getD k [] ∈ List.zipWith f xs ys := by
      rw [List.getD_eq_getElem?_getD, List.getElem?_eq_getElem (by rw [lz]; exact hk)]
      exact List.getElem_mem _
    obtain ⟨j, hj⟩ := List.getElem?_of_mem hm
    rw [List.getElem?_zipWith] at hj
    cases w1 : xs[j]? with
    | none => rw [w1] at hj; cases hj
    | some a =>
      cases w2 : ys[j]? with
      | none => rw [w1, w2] at hj; cases hj
      | some b =>
        rw [w1, w2] at hj
        simp only [Option.some.injEq] at hj
        dsimp only
        rw [← hj]
        exact him a (List.mem_of_getElem? w1) b (List.mem_of_getElem? w2)
  · rintro k v H3 H4 hk s3 ⟨p, u1, u2, rfl, hp, rfl, e1, e2⟩
    obtain ⟨d1, f1, r1⟩ := (h2.to s3).getA e1
    obtain ⟨d2, f2, r2⟩ := (h4.to s3).getA e2
    have s4 := same_new (o := .tup [u1, u2]) hp
    refine bg_two T upd_same ?_
    intro s H0 C cl fp
    refine (hb d1 (List.mem_of_getElem? f1) d2 (List.mem_of_getElem? f2) u1 u2 _ (s3.trans s4) (r1.to s4) (r2.to s4) s H0 C cl fp).imp fun y H5 ⟨s5, pp, zs, ey, hpp, e5, r5⟩ => ⟨s4.trans s5, pp, zs, ey, ?_, e5, ?_⟩
    · cases w : H3 pp with
      | none => rfl
      | some o => rw [s4 _ _ w] at hpp; cases hpp
    · have : (List.zipWith f xs ys).getD k [] = f d1 d2 := by simp [List.getD_eq_getElem?_getD, List.getElem?_zipWith, f1, f2]
      dsimp only
      rw [this]
      exact r5
  · intro p H3 as s3 hp hp2 r
    refine hq p H3 as s3 hp hp2 ?_
    have : (List.range (min vs.length ws.length)).map (fun k => (List.zipWith f xs ys).getD k []) = List.zipWith f xs ys := by
      rw [← lz]
      refine List.ext_getElem? fun k => ?_
      rw [List.getElem?_map]
      by_cases hk : k < (List.zipWith f xs ys).length
      · rw [List.getElem?_range hk, List.getElem?_eq_getElem hk]
        simp only [Option.map_some, List.getD_eq_getElem?_getD, List.getElem?_eq_getElem hk, Option.getD_some]
      · rw [List.getElem?_eq_none (by rw [List.length_range]; omega), List.getElem?_eq_none (by omega)]
        rfl
    rw [this] at r
    exact r
end
/-! a tuple or a list, told by a Bool -/
section
variable {X : Cx} {σ : Sl} {H : Hp} {Q : VK} {pos p2 : Pos} {e lo hi : Expr} {x y v : V} {b : Bool}
theorem we_slHiB (b : Bool) (q : QE X e σ H fun x H1 => QE X hi σ H1 fun u H2 => ∃ (ds : List D) (k : Nat), u = .int k ∧ k < ds.length ∧ RpB X.K b H2 x ds ∧ ∀ v H3, Same H2 H3 → NwB X.K b H2 H3 v (ds.take k) → Q v H3) : QE X (.Subscript e (.Slice none (some hi) none p2) pos) σ H Q := by
  cases b
  · exact we_slHiL (q.imp fun x H1 q1 => QE.imp q1 fun u H2 ⟨ds, k, e1, hk, r, z⟩ => ⟨ds, k, e1, Nat.le_of_lt hk, r, fun p H3 xs hp s e r => z _ _ s ⟨p, xs, rfl, hp, e, r⟩⟩)
  · exact we_slHiT q
theorem we_slLoB (b : Bool) (q : QE X e σ H fun x H1 => QE X lo σ H1 fun u H2 => ∃ (ds : List D) (k : Nat), u = .int k ∧ (1 ≤ k ∧ k ≤ ds.length) ∧ RpB X.K b H2 x ds ∧ ∀ v H3, Same H2 H3 → NwB X.K b H2 H3 v (ds.drop k) → Q v H3) : QE X (.Subscript e (.Slice (some lo) none none p2) pos) σ H Q := by
  cases b
  · exact we_slLoL (q.imp fun x H1 q1 => QE.imp q1 fun u H2 ⟨ds, k, e1, hk, r, z⟩ => ⟨ds, k, e1, hk.2, r, fun p H3 xs hp s e r => z _ _ s ⟨p, xs, rfl, hp, e, r⟩⟩)
  · exact we_slLoT q
theorem opw_catB {ds es : List D} (h1 : LvB X.K b H x ds) (h2 : LvB X.K b H y es) (hl : ds.length + es.length ≤ sizeLine) (q : ∀ v H', Same H H' → NwB X.K b H H' v (ds ++ es) → Q v H') : OpW X (binaryOp .Add) x y H Q := by
  cases b
  · obtain ⟨a, xs, rfl, h3, h4⟩ := h1
    obtain ⟨a2, ys, rfl, h5, h6⟩ := h2
    exact opw_catL h3 h5 (by rw [h4.len, h6.len]; exact hl) fun p H' hp s e => q _ _ s ⟨p, _, rfl, hp, e, (h4.app h6).to s⟩
  · exact opw_catT h1 h2 hl q
theorem callw_len_B {ds : List D} (h : RpB X.K b H x ds) (q : Q (.int ds.length) H) : CallW X (.builtin "len") [x] H Q := by
  cases b
  · exact callw_len_l h q
  · exact callw_len_t h q
theorem ixw_mB {α : Type} {xs : List α} {g : α → D} {k : Int} {d0 : α} (h : RpB X.K b H v (xs.map g)) (h0 : 0 ≤ k) (hk : k.toNat < xs.length) (q : ∀ w, Rp X.K H w (g (xs.getD k.toNat d0)) → Q w H) : IxW X v (.int k) H Q := by
  cases b
  · exact ixw_ml h h0 hk q
  · exact ixw_mt h h0 hk q
theorem ixw_rowB {r : List Int} {k : Int} (h : RpB X.K b H v (r.map .int)) (h0 : 0 ≤ k) (hk : k.toNat < r.length) (q : Q (.int (r.getD k.toNat 0)) H) : IxW X v (.int k) H Q := by
  cases b
  · exact ixw_rowL h h0 hk q
  · exact ixw_row h h0 hk q
/-- list(x) -/
theorem callw_list {ds : List D} (h : RpB X.K b H x ds) (q : ∀ p H' xs, H p = none → Same H H' → H' p = some (.lst xs) → RpAll X.K H' xs ds → Q (.ref p) H') : CallW X (.type "list") [x] H Q := by
  obtain ⟨a, xs, rfl, h1, h2⟩ := h.inv
  refine callw_of call_list_of ⟨a, xs, rfl, ?_, fun l hl => q _ _ _ hl (same_new hl) upd_same (h2.to (same_new hl))⟩
  cases b
  · exact .inl h1
  · exact .inr h1
/-- xs * k -/
theorem opw_repL {a : Addr} {xs : List V} {ds : List D} {k : Nat} (h : H a = some (.lst xs)) (r : RpAll X.K H xs ds) (hk : k ≤ 1000) (hz : ds.length ≤ 1000) (q : ∀ p H' ys, H p = none → Same H H' → H' p = some (.lst ys) → RpAll X.K H' ys (List.replicate k ds).flatten → Q (.ref p) H') : OpW X (binaryOp .Mult) (.ref a) (.int k) H Q := by
  refine opw_of op_rep ⟨a, k, xs, rfl, rfl, h, by omega, by omega, ?_, fun p hp => q p _ _ hp (same_new hp) upd_same ?_⟩
  · rw [Int.toNat_natCast, r.len]
    exact Nat.le_trans (Nat.mul_le_mul hz hk) (by decide)
  · rw [Int.toNat_natCast]
    have r' := r.to (same_new (o := .lst (List.replicate k xs).flatten) hp)
    revert r'
    generalize (upd H p (HO.lst (List.replicate k xs).flatten)) = H'
    intro r'
    clear q hk
    induction k with
    | zero => exact .nil
    | succ k ih =>
      rw [List.replicate_succ, List.replicate_succ, List.flatten_cons, List.flatten_cons]
      exact r'.app ih
end
end Sx

set_option maxHeartbeats 4000000
namespace K03
open PySem PySem.Spec PyProof.Rows L2 Sx
def top (i : Nat) : Stmt := PySem.Challenge.pw_motionroads_k03_whole_tables.main.body.getD i (.Pass ⟨0, 0, 0, 0⟩)
local macro_rules | `(tactic| kct_strs) => `(tactic| first
  | ((with_reducible show QE _ _ _ _ _); (first
    | ((with_reducible refine' we_name ?h ?hN ?hv ?q); (case hN => first | with_reducible assumption | assumption); (case h => infer_instance); (case hv => first | exact Or.inl rfl | exact Or.inr (Or.inl rfl) | exact Or.inr (Or.inr rfl)); (case' q => skip))
    | with_reducible refine we_int ?_
    | with_reducible refine we_bl ?_
    | with_reducible refine we_non ?_
    | with_reducible refine we_str ?_
    | with_reducible refine we_bin ?_
    | with_reducible refine we_not ?_
    | with_reducible refine we_un ?_
    | with_reducible refine we_cmp (nomark _) ?_
    | ((with_reducible refine' we_chain ?h ?q); (case h => with_unfolding_all rfl); (case' q => skip))
    | with_reducible refine we_and ?_
    | with_reducible refine we_or ?_
    | with_reducible refine we_one ?_
    | with_reducible refine we_ifx ?_
    | with_reducible refine we_tup ?_
    | with_reducible refine we_lst ?_
    | ((with_reducible refine' we_fld ?hb ?q); (case hb => exact rfl); (case' q => skip))
    | ((with_reducible refine' we_join ?q ?hs ?hb ?hl); (case hs => exact rfl); (case hb => exact rfl); (case hl => exact rfl); (case' q => skip))
    | ((with_reducible refine' we_ix ?hs ?q); (case hs => intro _ _; exact rfl); (case' q => skip))
    | ((with_reducible refine' we_bltn ?hm ?hg ?hv ?q ?h1 ?h2 ?h3 ?h4); (case hv => infer_instance); (case hm => first | with_reducible assumption | assumption); (case hg => exact rfl); (case h1 => decide); (case h2 => decide); (case h3 => exact rfl); (case h4 => exact rfl); (case' q => skip))
    | ((with_reducible refine' we_type ?hm ?hg ?hv ?q ?h1 ?h2 ?h3 ?h4); (case hv => infer_instance); (case hm => first | with_reducible assumption | assumption); (case hg => exact rfl); (case h1 => decide); (case h2 => decide); (case h3 => exact rfl); (case h4 => exact rfl); (case' q => skip))
    | ((with_reducible refine' we_tyval ?hm ?hg ?hv ?q ?h1 ?h2); (case hv => infer_instance); (case hm => first | with_reducible assumption | assumption); (case hg => exact rfl); (case h1 => decide); (case h2 => decide); (case' q => skip))
    | ((with_reducible refine' we_gref ?hm ?hg ?q ?h1); (case hm => first | with_reducible assumption | assumption); (case hg => exact rfl); (case h1 => decide); (case' q => skip))
    | ((with_reducible refine' we_gint ?hm ?hg ?q ?h1); (case hm => first | with_reducible assumption | assumption); (case hg => exact rfl); (case h1 => decide); (case' q => skip))
    | ((with_reducible refine' we_call ?c ?hr ?hk ?hg ?q ?h1 ?h2 ?h3); (case c => first | with_reducible assumption | assumption); (case hr => assumption); (case hk => decide); (case hg => exact rfl); (case h1 => decide); (case h2 => exact rfl); (case h3 => exact rfl); (case' q => skip))
    | ((with_reducible refine' we_callX ?c ?tk ?hr ?hk ?hg ?q ?h1 ?h2 ?h3); (case c => first | with_reducible assumption | assumption); (case tk => assumption); (case hr => assumption); (case hk => decide); (case hg => exact rfl); (case h1 => decide); (case h2 => exact rfl); (case h3 => exact rfl); (case' q => skip))
    | ((with_reducible refine' we_make ?mk ?tk ?hr ?hk ?hg ?q ?h1 ?h2 ?h3); (case mk => first | with_reducible assumption | assumption); (case tk => assumption); (case hr => assumption); (case hk => decide); (case hg => exact rfl); (case h1 => decide); (case h2 => exact rfl); (case h3 => exact rfl); (case' q => skip))
    | ((with_reducible refine' we_lc1 ?hi ?hN ?hc ?nd ?ok ?hs ?q); (case hN => first | with_reducible assumption | assumption); (case hi => infer_instance); (case hc => exact rfl); (case nd => first | with_reducible assumption | assumption); (case ok => exact ⟨rfl, of_decide_eq_true (by kernel_rfl), of_decide_eq_true (by kernel_rfl), of_decide_eq_true (by kernel_rfl), of_decide_eq_true (by kernel_rfl)⟩); (case hs => intro _; exact rfl); (case' q => skip))
    | ((with_reducible refine' we_lcn2 ?hi ?hj ?hN ?hc ?nd ?ok ?hs ?hs1 ?q); (case hN => first | with_reducible assumption | assumption); (case hi => infer_instance); (case hj => infer_instance); (case hc => exact rfl); (case nd => first | with_reducible assumption | assumption); (case ok => exact ⟨rfl, of_decide_eq_true (by kernel_rfl), of_decide_eq_true (by kernel_rfl), of_decide_eq_true (by kernel_rfl), of_decide_eq_true (by kernel_rfl)⟩); (case hs => intro _; exact rfl); (case hs1 => intro _ _; exact rfl); (case' q => skip))); kct_strs)
  | ((with_reducible show QT _ _ _ _ _); (first
    | with_reducible refine wt_not ?_
    | with_reducible refine wt_boolop ?_
    | with_reducible refine wt_cmp (nomark _) ?_
    | ((with_reducible refine' wt_chain ?h ?q); (case h => with_unfolding_all rfl); (case' q => skip))
    | ((with_reducible refine' wt_val ?h ?q); (case h => intro _; rfl); (case' q => skip))); kct_strs)
  | ((with_reducible show QW _ _ _ _ _); (first
    | with_reducible refine ww_and ?_
    | with_reducible refine ww_or ?_
    | with_reducible refine ww_and1 ?_
    | with_reducible refine ww_or1 ?_); kct_strs)
  | ((with_reducible show QA _ _ _ _ _); (first
    | with_reducible refine wa_nil ?_
    | ((with_reducible refine' wa_cons ?h ?q); (case h => exact rfl); (case' q => skip))); kct_strs)
  | ((with_reducible show OpW _ _ _ _ _ _); (first
    | with_reducible first | refine opw_add ?_ | refine opw_sub ?_ | refine opw_lt ?_ | refine opw_le ?_ | refine opw_gt ?_ | refine opw_ge ?_ | refine opw_eq ?_ | refine opw_ne ?_ | refine opw_eqb ?_ | refine opw_neb ?_ | refine opw_eqs ?_ | refine opw_nes ?_
    | ((with_reducible refine' opw_isN ?h ?q); (case h => assumption); (case' q => skip))); kct_strs)
  | ((with_reducible show UnW _ _ _ _ _); (first
    | with_reducible refine unw_neg ?_); kct_strs)
  | ((with_reducible show CallW _ _ _ _ _); (first
    | (with_reducible first | refine callw_abs ?_ | refine callw_int ?_ | refine callw_intb ?_)
    | ((with_reducible refine' isi_int ?h ?o ?q); (case h => assumption); (case o => first | assumption | rfl); (case' q => skip))
    | ((with_reducible refine' isi_bool ?h ?o ?q); (case h => assumption); (case o => first | assumption | rfl); (case' q => skip))
    | ((with_reducible refine' isi_str ?h ?o ?q); (case h => assumption); (case o => first | assumption | rfl); (case' q => skip))
    | ((with_reducible refine' isi_tuple ?h ?o ?q); (case h => assumption); (case o => first | assumption | rfl); (case' q => skip))); kct_strs)
  | ((with_reducible show QB _ _ _ _ _); (first
    | with_reducible refine wss_one ?_
    | with_reducible refine wss_cons ?_
    | with_reducible refine wss_nil ?_); kct_strs)
  | ((with_reducible show QS _ _ _ _ _); (first
    | with_reducible refine ws_ret ?_
    | with_reducible refine ws_retN ?_
    | with_reducible refine ws_if ?_
    | ((with_reducible refine' ws_lc1 ?h ?hi ?hN ?hc ?nd ?hyl ?hsw ?ok ?hs ?q); (case hN => first | with_reducible assumption | assumption); (case h => infer_instance); (case hi => infer_instance); (case hc => exact rfl); (case nd => first | with_reducible assumption | assumption); (case hyl => exact rfl); (case hsw => exact rfl); (case ok => exact ⟨rfl, of_decide_eq_true (by kernel_rfl), of_decide_eq_true (by kernel_rfl), of_decide_eq_true (by kernel_rfl), of_decide_eq_true (by kernel_rfl)⟩); (case hs => intro _; exact rfl); (case' q => skip))
    | ((with_reducible refine' ws_lcn2 ?h ?hi ?hj ?hN ?hc ?nd ?hyl ?hsw ?ok ?hs ?hs1 ?q); (case hN => first | with_reducible assumption | assumption); (case h => infer_instance); (case hi => infer_instance); (case hj => infer_instance); (case hc => exact rfl); (case nd => first | with_reducible assumption | assumption); (case hyl => exact rfl); (case hsw => exact rfl); (case ok => exact ⟨rfl, of_decide_eq_true (by kernel_rfl), of_decide_eq_true (by kernel_rfl), of_decide_eq_true (by kernel_rfl), of_decide_eq_true (by kernel_rfl)⟩); (case hs => intro _; exact rfl); (case hs1 => intro _ _; exact rfl); (case' q => skip))
    | ((with_reducible refine' ws_par ?hN ?hi ?hj ?hij ?hc ?nd ?hx ?hy ?hw ?hs ?q); (case hN => first | with_reducible assumption | assumption); (case hi => infer_instance); (case hj => infer_instance); (case hij => decide); (case hc => exact rfl); (case nd => first | with_reducible assumption | assumption); (case hx => exact rfl); (case hy => exact rfl); (case hw => exact rfl); (case hs => exact rfl); (case' q => skip))
    | ((with_reducible refine' ws_par3 ?hN ?hi ?hj ?hl ?hij ?hil ?hjl ?hc ?nd ?hx ?hy ?hz ?hw ?hs ?q); (case hN => first | with_reducible assumption | assumption); (case hi => infer_instance); (case hj => infer_instance); (case hl => infer_instance); (case hij => decide); (case hil => decide); (case hjl => decide); (case hc => exact rfl); (case nd => first | with_reducible assumption | assumption); (case hx => exact rfl); (case hy => exact rfl); (case hz => exact rfl); (case hw => exact rfl); (case hs => exact rfl); (case' q => skip))
    | ((with_reducible refine' ws_fld ?hs ?q); (case hs => exact rfl); (case' q => skip))
    | ((with_reducible refine' ws_asg ?h1 ?h2 ?h3 ?q); (case h1 => exact rfl); (case h2 => exact rfl); (case h3 => exact rfl); (case' q => skip))
    | ((with_reducible refine' ws_expr ?h ?q); (case h => exact rfl); (case' q => skip))
    | ((with_reducible refine' ws_forr1 ?hm ?hg ?hp ?hc ?hfs ?hs1 ?q); (case hm => first | with_reducible assumption | assumption); (case hg => exact rfl); (case hp => first | exact PassesOwn.never | assumption); (case hc => exact rfl); (case hfs => intro _; exact rfl); (case hs1 => exact rfl); (case' q => skip))
    | ((with_reducible refine' ws_forr2 ?hm ?hg ?hp ?hc ?hfs ?hs1 ?hs2 ?q); (case hm => first | with_reducible assumption | assumption); (case hg => exact rfl); (case hp => first | exact PassesOwn.never | assumption); (case hc => exact rfl); (case hfs => intro _; exact rfl); (case hs1 => exact rfl); (case hs2 => exact rfl); (case' q => skip))); kct_strs)
  | ((with_reducible show QG _ _ _ _ _ _); (first
    | ((with_reducible refine' wg_name ?h ?hN ?nd ?hx ?hf ?q); (case hN => first | with_reducible assumption | assumption); (case h => infer_instance); (case nd => first | with_reducible assumption | assumption); (case hx => first | exact Or.inl rfl | exact Or.inr rfl); (case hf => first | exact Or.inl rfl | exact Or.inr rfl); (case' q => skip))
    | ((with_reducible refine' wg_tup ?hc ?ht ?hl ?hst ?q); (case hc => exact rfl); (case ht => exact Or.inl (Or.inl (by assumption))); (case hl => exact rfl); (case hst => exact rfl); (case' q => skip))
    | ((with_reducible refine' wg_sub ?ha ?q); (case ha => intro _; exact rfl); (case' q => skip))); kct_strs)
  | ((with_reducible show QGs _ _ _ _ _ _); (first
    | with_reducible refine wgs_nil ?_
    | ((with_reducible refine' wgs_cons ?h ?q); (case h => exact rfl); (case' q => skip))); kct_strs)
  | ((with_reducible show Exists _); (first
    | with_reducible refine ⟨_, rfl, ?_⟩
    | ((with_reducible refine' ⟨_, _, rfl, _, _, ?p1, ?p2, ?q⟩); (case p1 => infer_instance); (case p2 => infer_instance); (case' q => skip))
    | ((with_reducible refine' ⟨_, _, _, rfl, _, _, _, ?p1, ?p2, ?p3, ?q⟩); (case p1 => infer_instance); (case p2 => infer_instance); (case p3 => infer_instance); (case' q => skip))); kct_strs)
  | skip)
local macro_rules | `(tactic| l_ints) => `(tactic| first
  | ((with_reducible refine' ql_lcr1 ?hm ?hg ?h ?hN ?nd ?hl ?hf ?hs1 ?q); (case hm => first | with_reducible assumption | assumption); (case hg => exact rfl); (case hN => first | with_reducible assumption | assumption); (case h => infer_instance); (case nd => first | with_reducible assumption | assumption); (case hl => intro _ _ _ _ _; first | exact Or.inl rfl | exact Or.inr rfl); (case hf => intro _ _ _ _ _; first | exact Or.inl rfl | exact Or.inr rfl); (case hs1 => exact rfl); (case' q => skip))
  | ((with_reducible refine' ql_lcr2 ?hm ?hg ?h ?hN ?nd ?hl ?hf ?hs1 ?hs2 ?q); (case hm => first | with_reducible assumption | assumption); (case hg => exact rfl); (case hN => first | with_reducible assumption | assumption); (case h => infer_instance); (case nd => first | with_reducible assumption | assumption); (case hl => intro _ _ _ _ _; first | exact Or.inl rfl | exact Or.inr rfl); (case hf => intro _ _ _ _ _; first | exact Or.inl rfl | exact Or.inr rfl); (case hs1 => exact rfl); (case hs2 => exact rfl); (case' q => skip))
  | ((with_reducible refine' ql_lcr2T ?hm ?hg ?h ?hN ?nd ?hl ?hf ?hs1 ?hs2 ?q); (case hm => first | with_reducible assumption | assumption); (case hg => exact rfl); (case hN => first | with_reducible assumption | assumption); (case h => infer_instance); (case nd => first | with_reducible assumption | assumption); (case hl => intro _ _ _ _ _; first | exact Or.inl rfl | exact Or.inr rfl); (case hf => intro _ _ _ _ _; first | exact Or.inl rfl | exact Or.inr rfl); (case hs1 => exact rfl); (case hs2 => exact rfl); (case' q => skip)))
local macro_rules | `(tactic| mem_news) => `(tactic| ((with_reducible refine' ql_lct ?h ?hN ?nd ?hl ?hf ?q); (case hN => first | with_reducible assumption | assumption); (case h => infer_instance); (case nd => first | with_reducible assumption | assumption); (case hl => intro _ _ _ _ _; first | exact Or.inl rfl | exact Or.inr rfl); (case hf => intro _ _ _ _ _; first | exact Or.inl rfl | exact Or.inr rfl); (case' q => skip)))
local macro_rules | `(tactic| mod_arm) => `(tactic| ((with_reducible refine' ql_lcl ?h ?hN ?nd ?hl ?hf ?q); (case hN => first | with_reducible assumption | assumption); (case h => infer_instance); (case nd => first | with_reducible assumption | assumption); (case hl => intro _ _ _ _ _; first | exact Or.inl rfl | exact Or.inr rfl); (case hf => intro _ _ _ _ _; first | exact Or.inl rfl | exact Or.inr rfl); (case' q => skip)))
local macro_rules | `(tactic| one_item) => `(tactic| ((with_reducible refine' ws_fort ?hp ?hc ?hfs ?q); (case hp => first | exact PassesOwn.never | assumption); (case hc => exact rfl); (case hfs => intro _; exact rfl); (case' q => skip)))
local macro_rules | `(tactic| one_place) => `(tactic| ((with_reducible refine' ws_forl ?hp ?hc ?hfs ?q); (case hp => first | exact PassesOwn.never | assumption); (case hc => exact rfl); (case hfs => intro _; exact rfl); (case' q => skip)))
local macro_rules | `(tactic| one_sign) => `(tactic| ((with_reducible refine' ql2_seq ?h1 ?h ?h2 ?hij ?hN ?nd ?hl ?hf ?hl1 ?hf1 ?q); (case hN => first | with_reducible assumption | assumption); (case h1 => infer_instance); (case h => infer_instance); (case h2 => intro _; infer_instance); (case hij => decide); (case nd => first | with_reducible assumption | assumption); (case hl => intro _ _ _ _ _; first | exact Or.inl rfl | exact Or.inr rfl); (case hf => intro _ _ _ _ _; first | exact Or.inl rfl | exact Or.inr rfl); (case hl1 => intro _ _ _ _ _; first | exact Or.inl rfl | exact Or.inr rfl); (case hf1 => intro _ _ _ _ _; first | exact Or.inl rfl | exact Or.inr rfl); (case' q => skip)))
local macro_rules | `(tactic| pv_eval) => `(tactic| ((with_reducible refine' ql_st ?hm ?hg ?h ?hN ?nd ?hl ?hf ?hs1 ?q); (case hm => first | with_reducible assumption | assumption); (case hg => exact rfl); (case hN => first | with_reducible assumption | assumption); (case h => infer_instance); (case nd => first | with_reducible assumption | assumption); (case hl => intro _ _ _ _ _; first | exact Or.inl rfl | exact Or.inr rfl); (case hf => intro _ _ _ _ _; first | exact Or.inl rfl | exact Or.inr rfl); (case hs1 => exact rfl); (case' q => skip)))
local macro_rules | `(tactic| by_item) => `(tactic| ((with_reducible refine' ql_mt ?h ?hN ?nd ?hl ?hf ?q); (case hN => first | with_reducible assumption | assumption); (case h => infer_instance); (case nd => first | with_reducible assumption | assumption); (case hl => intro _ _ _ _ _; first | exact Or.inl rfl | exact Or.inr rfl); (case hf => intro _ _ _ _ _; first | exact Or.inl rfl | exact Or.inr rfl); (case' q => skip)))
local macro_rules | `(tactic| by_place) => `(tactic| ((with_reducible refine' ql_ml ?h ?hN ?nd ?hl ?hf ?q); (case hN => first | with_reducible assumption | assumption); (case h => infer_instance); (case nd => first | with_reducible assumption | assumption); (case hl => intro _ _ _ _ _; first | exact Or.inl rfl | exact Or.inr rfl); (case hf => intro _ _ _ _ _; first | exact Or.inl rfl | exact Or.inr rfl); (case' q => skip)))
local macro_rules | `(tactic| by_in) => `(tactic| ((with_reducible refine' ql_mlT ?h ?hN ?nd ?hl ?hf ?q); (case hN => first | with_reducible assumption | assumption); (case h => infer_instance); (case nd => first | with_reducible assumption | assumption); (case hl => intro _ _ _ _ _; first | exact Or.inl rfl | exact Or.inr rfl); (case hf => intro _ _ _ _ _; first | exact Or.inl rfl | exact Or.inr rfl); (case' q => skip)))
local macro_rules | `(tactic| fin_range) => `(tactic| ((with_reducible refine' ql_r1 ?hm ?hg ?h ?hN ?nd ?hl ?hf ?hs1 ?q); (case hm => first | with_reducible assumption | assumption); (case hg => exact rfl); (case hN => first | with_reducible assumption | assumption); (case h => infer_instance); (case nd => first | with_reducible assumption | assumption); (case hl => intro _ _ _ _ _; first | exact Or.inl rfl | exact Or.inr rfl); (case hf => intro _ _ _ _ _; first | exact Or.inl rfl | exact Or.inr rfl); (case hs1 => exact rfl); (case' q => skip)))
local macro_rules | `(tactic| fin_range_step) => `(tactic| ((with_reducible refine' ql_r1T ?hm ?hg ?h ?hN ?nd ?hl ?hf ?hs1 ?q); (case hm => first | with_reducible assumption | assumption); (case hg => exact rfl); (case hN => first | with_reducible assumption | assumption); (case h => infer_instance); (case nd => first | with_reducible assumption | assumption); (case hl => intro _ _ _ _ _; first | exact Or.inl rfl | exact Or.inr rfl); (case hf => intro _ _ _ _ _; first | exact Or.inl rfl | exact Or.inr rfl); (case hs1 => exact rfl); (case' q => skip)))
local macro_rules | `(tactic| fin_item) => `(tactic| ((refine' ql_zip ⟨?h1, ?h, ?h2, ?hij, ?hN, ?nd, ?hc, ?hl, ?hf, ?hl1, ?hf1⟩ ?hm ?hg ?hs ?hs2 ?hpl ?q); (case hN => first | with_reducible assumption | assumption); (case h1 => infer_instance); (case h => infer_instance); (case h2 => intro _; infer_instance); (case hij => decide); (case nd => first | with_reducible assumption | assumption); (case hc => exact rfl); (case hl => intro _ _ _ _ _; first | exact Or.inl rfl | exact Or.inr rfl); (case hf => intro _ _ _ _ _; first | exact Or.inl rfl | exact Or.inr rfl); (case hl1 => intro _ _ _ _ _; first | exact Or.inl rfl | exact Or.inr rfl); (case hf1 => intro _ _ _ _ _; first | exact Or.inl rfl | exact Or.inr rfl); (case hm => first | with_reducible assumption | assumption); (case hg => exact rfl); (case hs => exact rfl); (case hs2 => exact rfl); (case hpl => exact rfl); (case' q => skip)))
local macro_rules | `(tactic| fin_places) => `(tactic| ((refine' ql_enT ⟨?h1, ?h, ?h2, ?hij, ?hN, ?nd, ?hc, ?hl, ?hf, ?hl1, ?hf1⟩ ?hm ?hg ?hs ?q); (case hN => first | with_reducible assumption | assumption); (case h1 => infer_instance); (case h => infer_instance); (case h2 => intro _; infer_instance); (case hij => decide); (case nd => first | with_reducible assumption | assumption); (case hc => exact rfl); (case hl => intro _ _ _ _ _; first | exact Or.inl rfl | exact Or.inr rfl); (case hf => intro _ _ _ _ _; first | exact Or.inl rfl | exact Or.inr rfl); (case hl1 => intro _ _ _ _ _; first | exact Or.inl rfl | exact Or.inr rfl); (case hf1 => intro _ _ _ _ _; first | exact Or.inl rfl | exact Or.inr rfl); (case hm => first | with_reducible assumption | assumption); (case hg => exact rfl); (case hs => exact rfl); (case' q => skip)))
local macro_rules | `(tactic| fin_iter) => `(tactic| ((with_reducible refine' ws_forz ?hp ?hc ?hfs ?hm ?hg ?hs ?hs2 ?hpl ?q); (case hp => first | exact PassesOwn.never | assumption); (case hc => exact rfl); (case hfs => intro _; exact rfl); (case hm => first | with_reducible assumption | assumption); (case hg => exact rfl); (case hs => exact rfl); (case hs2 => exact rfl); (case hpl => exact rfl); (case' q => skip)))
local macro_rules | `(tactic| fin_fold) => `(tactic| ((with_reducible refine' ws_forA ?hp ?hc ?hfs ?q); (case hp => first | exact PassesOwn.never | assumption); (case hc => exact rfl); (case hfs => intro _; exact rfl); (case' q => skip)))
local macro_rules | `(tactic| fin_run) => `(tactic| ((with_reducible refine' we_append ?hbase ?hfew ?hline ?hs ?hs0 ?hpl ?q); (case hbase => exact rfl); (case hfew => exact rfl); (case hline => exact rfl); (case hs => exact rfl); (case hs0 => exact rfl); (case hpl => exact rfl); (case' q => skip)))
/-- the j-th statement of the class at top i -/
def inC (i j : Nat) : Stmt := match top i with
  | .ClassDef _ _ _ body _ _ _ _ _ _ _ => body.getD j (.Pass ⟨0, 0, 0, 0⟩)
  | _ => .Pass ⟨0, 0, 0, 0⟩
section
variable {P : Program} {w : World} {K : PySem.W.Frag} {mg : Str → Option Value} {base : Heap}
theorem scA : FnScope ["value"] ["value"] (defScope (top 6)) := ⟨rfl, rfl, rfl, by decide +kernel, rfl, by decide +kernel, by decide +kernel⟩
theorem scB : FnScope ["a", "b"] ["a", "b"] (defScope (top 9)) := ⟨rfl, rfl, rfl, by decide +kernel, rfl, by decide +kernel, by decide +kernel⟩
theorem scR : FnScope ["self", "reason"] ["self", "reason"] (defScope (inC 4 0)) := ⟨rfl, rfl, rfl, by decide +kernel, rfl, by decide +kernel, by decide +kernel⟩
theorem scI : FnScope ["self", "n", "d", "g"] ["self", "n", "d"] (defScope (inC 11 0)) := ⟨rfl, rfl, rfl, by decide +kernel, rfl, by decide +kernel, by decide +kernel⟩
theorem scC : FnScope ["value"] ["value"] (defScope (top 12)) := ⟨rfl, rfl, rfl, by decide +kernel, rfl, by decide +kernel, by decide +kernel⟩
def spWhole (K : PySem.W.Frag) : Sp := fun vs H Q _ => ∃ v d, vs = [v] ∧ Rp K H v d ∧ d.ty.isSome = true ∧ Q (.bl d.whole) H
theorem ok_is_integer {f : Addr} {fd : FuncData} (F : Fun K "is_integer" "is_integer" (top 6) f fd) (m1 : mg "isinstance" = none) (m2 : mg "int" = none) (m3 : mg "bool" = none) : FnOk P w K mg base CX0 1 f fd ["value"] (spWhole K) := by
  refine okS F scA (fun vs H Q E ⟨_, _, e, _⟩ => by rw [e]; rfl) ?_
  rintro cdv A outer s H _ Q E hr ⟨v, d, rfl, rp, hd, q⟩ hN nd
  change QB _ (_ :: _) _ [some _] _
  kct_strs
  refine ifb (fun e1 => ?_) (fun e1 => ?_)
  · kct_strs
    rw [D.whole_eq, e1] at q
    exact q
  · rw [D.whole_eq, e1] at q
    exact q
theorem gcd_mod (a b : Int) : Int.gcd b (a % b) = Int.gcd a b := by
  rw [Int.emod_def, Int.gcd_sub_mul_left_right, Int.gcd_comm]
def spCommon : Sp := fun vs H Q _ => ∃ a b : Int, vs = [.int a, .int b] ∧ Q (.int (Int.gcd a b)) H
theorem ok_common {f : Addr} {fd : FuncData} (F : Fun K "common" "common" (top 9) f fd) (m1 : mg "abs" = none) : FnOk P w K mg base CX0 1 f fd ["a", "b"] spCommon := by
  refine okS F scB (fun vs H Q E ⟨_, _, e, _⟩ => by rw [e]; rfl) ?_
  rintro cdv A outer s H _ Q E hr ⟨a, b, rfl, q⟩ hN nd
  change QB _ (_ :: _) _ [some _, some _] _
  kct_strs
  refine ws_while (fun σ1 H1 => ∃ a1 b1 : Int, σ1 = [some (.int a1), some (.int b1)] ∧ H = H1 ∧ 0 ≤ a1 ∧ 0 ≤ b1 ∧ Int.gcd a1 b1 = Int.gcd a b) (fun σ1 _ => match σ1 with | [_, some (.int b)] => b.toNat | _ => 0) PassesOwn.never ?_ ?_
  · refine ⟨_, _, rfl, rfl, by split <;> omega, by split <;> omega, ?_⟩
    split <;> split <;> simp [Int.gcd]
  · rintro _ H1 ⟨a1, b1, rfl, rfl, ha1, hb1, hg⟩
    kct_strs
    refine ifd (fun hb => ?_) (fun hb => ?_)
    · kct_strs
      refine opw_mod hb ?_
      kct_strs
      refine ⟨⟨_, _, rfl, rfl, hb1, Int.emod_nonneg _ (by omega), ?_⟩, ?_⟩
      · rw [← hg, gcd_mod]
      · have := Int.emod_lt_of_pos a1 hb
        show (a1 % b1).toNat < b1.toNat
        omega
    · have e : b1 = 0 := by omega
      subst e
      kct_strs
      rw [Int.gcd_zero_right] at hg
      have e : a1 = (Int.gcd a b : Int) := by omega
      rw [e]
      exact q
/-- what the text's classes are: F the base of the errors, M, R the errors, C the ratios -/
structure Cls4 (K : PySem.W.Frag) (mg : Str → Option Value) (Fa M R C : Addr) : Prop where
  gF : mg "Fault" = some (.ref Fa)
  sF : PySem.W.specialIn K (.ref Fa) "__getattribute__" = some (some (.builtin "type.__getattribute__"))
  tF : PySem.W.typeIn K (.ref Fa) = some (.type "type")
  rF : PySem.W.readsIn K Fa (.type "type") = true
  vF : PySem.W.findCls K (.ref Fa) (.type "type") "__init__" = some (.val (.builtin "ValueError.__init__"))
  gM : mg "Malformed" = some (.ref M)
  xM : PySem.W.excIn K M [.type "ValueError", .type "Exception", .type "BaseException", .type "object"] "ValueError.__new__" = true
  kM : PySem.W.keepIn K (.ref M) = true
  bM : PySem.W.subIn K (.ref M) (.type "BaseException") = some true
  tM : PySem.W.typeIn K (.ref M) = some (.type "type")
  gR : mg "Refused" = some (.ref R)
  oR : OexC K R
  nR : PySem.W.findIn K (.ref R) "reason" = some none
  xR : XfC K R
  eMM : PySem.W.exmOne K (.ref M) (.ref M) = some true
  eRM : PySem.W.exmOne K (.ref R) (.ref M) = some false
  eRR : PySem.W.exmOne K (.ref R) (.ref R) = some true
  gC : mg "Ratio" = some (.ref C)
  iC : C8.InsC K C
  pC : PySem.W.selfFirst K C = true
  an : NoAttr K C "n"
  ad : NoAttr K C "d"
  k0 : PySem.W.kitOne K (.type "NoneType") (.ref C) = some false
  k1 : PySem.W.kitOne K (.type "bool") (.ref C) = some false
  k2 : PySem.W.kitOne K (.type "int") (.ref C) = some false
  k3 : PySem.W.kitOne K (.type "str") (.ref C) = some false
  k4 : PySem.W.kitOne K (.type "tuple") (.ref C) = some false
  nR2 : R ≠ M
theorem ok_refused {f Fa M R C : Addr} {fd : FuncData} (F : Fun K "__init__" "Refused.__init__" (inC 4 0) f fd) (T : Cls4 K mg Fa M R C) : FnOk P w K mg base CX0 1 f fd ["self", "reason"] (spErr R "reason") := by
  refine okS F scR (fun vs H Q E ⟨_, _, e, _⟩ => by rw [e]; rfl) ?_
  rintro cdv A outer s H _ Q E hr ⟨a, v, rfl, ha, q⟩ hN nd
  change QB _ (_ :: _) _ [some _, some _] _
  refine wss_cons ?_
  refine ws_expr rfl ?_
  refine we_clsinit rfl T.gF T.sF T.tF T.rF T.vF ?_ rfl rfl rfl (by decide)
  kct_strs
  refine ⟨a, R, [v], rfl, by simp, T.oR, ha, ?_⟩
  refine wss_one ?_
  refine ws_ost rfl T.oR T.nR ?_
  kct_strs
  exact ⟨ha, q⟩
/-- the ratio of n and d in lowest terms -/
def rp (n d : Int) : Int := if 0 < d then n / (Int.gcd n d : Int) else (-n) / (Int.gcd n d : Int)
def rq (n d : Int) : Int := (if d < 0 then -d else d) / (Int.gcd n d : Int)
def spInit (M R C : Addr) : Sp := fun vs H Q E => ∃ (a dx : Addr) (x y : V) (d1 d2 : D), vs = [.ref a, x, y] ∧ H a = some (.ins C dx []) ∧ Rp K H x d1 ∧ Rp K H y d2 ∧ d1.ty.isSome = true ∧ d2.ty.isSome = true ∧ (∀ j, d2 = .int j → j.natAbs < 1073741824) ∧
  ((d1.whole && d2.whole) = false → E (.ref M) none H) ∧ (∀ n, d1 = .int n → d2 = .int 0 → ∀ d H', H d = none → Same H H' → H' d = some (.xd [("reason", .str "zero")]) → E (.ref R) (some d) H') ∧
  (∀ n m, d1 = .int n → d2 = .int m → m ≠ 0 → ∀ H', (∀ b o, b ≠ a → H b = some o → H' b = some o) → H' a = some (.ins C dx [("n", .int (rp n m)), ("d", .int (rq n m))]) → Q .non H')
theorem ok_ratio {f fR Fa M R C : Addr} {fd fdR : FuncData} (F : FunD K "__init__" "Ratio.__init__" (defArgs (inC 11 0)) (defBody (inC 11 0)) (defScope (inC 11 0)) [.int 1] [] f fd) (T : Cls4 K mg Fa M R C) (c1 : Cal P w K mg base 1 "is_integer" (spWhole K) []) (c2 : Cal P w K mg base 1 "common" spCommon [])
    (FR : FnOk P w K mg base CX0 1 fR fdR ["self", "reason"] (spErr R "reason")) (iR : PySem.W.findIn K (.ref R) "__init__" = some (some (.ref fR))) (tR : PySem.W.typeIn K (.ref fR) = some (.type "function")) (bR : Binds K fdR ["self", "reason"] []) (m1 : mg "abs" = none) :
    FnOk P w K mg base (L2.CX P w) 3 f fd ["self", "n", "d"] (spInit (K := K) M R C) := by
  refine okXD F scI (fun vs H Q E ⟨_, _, _, _, _, _, e, _⟩ => by rw [e]; rfl) ?_
  rintro cdv A outer s H _ Q E hr ⟨a, dx, x, y, d1, d2, rfl, ha, r1, r2, t1, t2, hs, qM, qR, q⟩ hN nd tk
  change QB _ (_ :: _) _ [some _, some _, some _, none] _
  kct_strs
  refine ⟨_, _, rfl, r1, t1, ?_⟩
  kct_strs
  have bad : ∀ {E1 : Ends} {σ1 : Sl}, (d1.whole && d2.whole) = false → QS (cxOf (L2.CX P w) P w K mg base ["self", "n", "d", "g"] "Ratio.__init__" (defScope (inC 11 0)) f cdv A outer s H E) (.Raise (some (.Call (.Name "Malformed" ⟨31, 18, 31, 27⟩) [.Constant (.str "a number") 0 ⟨31, 28, 31, 38⟩] [] ⟨31, 18, 31, 39⟩)) none ⟨31, 12, 31, 39⟩) E1 σ1 H :=
    fun {E1 σ1} e => ws_raise rfl tk PySem.F.excBase_ValueError T.xM T.gM T.kM (raises_own T.bM T.tM) rfl (qM e)
  refine ifnb (fun e1 => ?_) (fun e1 => ?_)
  · rw [if_pos rfl]
    kct_strs
    exact bad (by rw [e1]; rfl)
  kct_strs
  refine ⟨_, _, rfl, r2, t2, ?_⟩
  kct_strs
  refine ifnb (fun e2 => ?_) (fun e2 => ?_)
  · kct_strs
    exact bad (by rw [e2, Bool.and_false])
  obtain ⟨n, rfl⟩ : ∃ n, d1 = .int n := by
    cases d1 <;> first | exact ⟨_, rfl⟩ | cases e1
  obtain ⟨m, rfl⟩ : ∃ n, d2 = .int n := by
    cases d2 <;> first | exact ⟨_, rfl⟩ | cases e2
  cases r1
  cases r2
  have hm := hs m rfl
  kct_strs
  refine ifd (fun e3 => ?_) (fun e3 => ?_)
  · subst e3
    kct_strs
    exact ws_raiseR rfl tk T.oR iR tR FR hr (by decide) bR rfl T.gR (qR n rfl rfl) (by decide) rfl rfl
  kct_strs
  refine ⟨_, _, rfl, ?_⟩
  have hg : 0 < Int.gcd n m := Nat.pos_of_ne_zero fun e => e3 (Int.gcd_eq_zero_iff.mp e).2
  have hg2 : Int.gcd n m ≤ m.natAbs := Nat.le_of_dvd (by omega) (Nat.gcd_dvd_right _ _)
  have fin : ∀ p q' : Int, p = rp n m → q' = rq n m → Q .non (upd (upd H a (.ins C dx (putF "n" (.int p) []))) a (.ins C dx (putF "d" (.int q') (putF "n" (.int p) [])))) := by
    rintro p q' rfl rfl
    refine q n m rfl rfl e3 _ (fun b o hb e => by rw [upd_ne hb, upd_ne hb]; exact e) upd_same
  kct_strs
  refine ifd (fun e4 => ?_) (fun e4 => ?_)
  · kct_strs
    refine opw_div ⟨by omega, by omega⟩ ?_
    kct_strs
    refine ⟨a, C, dx, [], rfl, ha, T.iC.cl, T.an, by decide, ?_⟩
    kct_strs
    refine opw_div ⟨by omega, by omega⟩ ?_
    kct_strs
    refine ⟨a, C, dx, _, rfl, upd_same, T.iC.cl, T.ad, by simp [putF], ?_⟩
    exact fin _ _ (by unfold rp; rw [if_pos e4]) rfl
  · kct_strs
    refine opw_div ⟨by omega, by omega⟩ ?_
    kct_strs
    refine ⟨a, C, dx, [], rfl, ha, T.iC.cl, T.an, by decide, ?_⟩
    kct_strs
    refine opw_div ⟨by omega, by omega⟩ ?_
    kct_strs
    refine ⟨a, C, dx, _, rfl, upd_same, T.iC.cl, T.ad, by simp [putF], ?_⟩
    exact fin _ _ (by unfold rp; rw [if_neg e4]) rfl
/-- an instance that stands for p / q -/
def Rt (C : Addr) (H : Hp) (a : Addr) (p q : Int) : Prop := ∃ dx, H a = some (.ins C dx [("n", .int p), ("d", .int q)])
theorem Rt.to {C : Addr} {H H' : Hp} {a : Addr} {p q : Int} (h : Rt C H a p q) (s : Same H H') : Rt C H' a p q := by
  obtain ⟨dx, e⟩ := h
  exact ⟨dx, s _ _ e⟩
theorem init_use {C M R x dx : Addr} {H H2 : Hp} {N D : Int} {Q : VK} {E : XK} (hx0 : H x = none) (s : Same H H2) (hx : H2 x = some (.ins C dx [])) (hD : D.natAbs < 1073741824)
    (hz : D = 0 → ∀ d H', H2 d = none → Same H2 H' → H' d = some (.xd [("reason", .str "zero")]) → E (.ref R) (some d) H') (q : D ≠ 0 → ∀ H', Same H H' → Rt C H' x (rp N D) (rq N D) → Q (.ref x) H') :
    spInit (K := K) M R C [.ref x, .int N, .int D] H2 (fun v H3 => v = .non ∧ Q (.ref x) H3) E := by
  refine ⟨x, dx, .int N, .int D, .int N, .int D, rfl, hx, .int _, .int _, rfl, rfl, (fun j e => by cases e; exact hD), (fun e => by cases e), fun n _ e => ?_, fun n m e1 e2 hm H' k1 k2 => ⟨rfl, ?_⟩⟩
  · injection e with e
    exact hz e
  · cases e1
    cases e2
    exact q hm H' (fun b o hb => k1 b o (ne_of_none hb hx0) (s b o hb)) ⟨dx, k2⟩
def spChk (K : PySem.W.Frag) (M C : Addr) : Sp := fun vs H Q E => ∃ v, vs = [v] ∧ ((∃ b p q, v = .ref b ∧ Rt C H b p q ∧ Q .non H) ∨ (∃ d n, Rp K H v d ∧ d.ty = some n ∧ n ≠ "list" ∧ E (.ref M) none H))
theorem isi_data {X : Cx} {Fa M R C : Addr} {H : Hp} {Q : VK} {v : V} {d : D} {n : String} (T : Cls4 X.K mg Fa M R C) (h : Rp X.K H v d) (e : d.ty = some n) (hn : n ≠ "list") (q : Q (.bl false) H) : CallW X (.builtin "isinstance") [v, .ref C] H Q := by
  have e' := e
  cases d <;> simp only [D.ty, Option.some.injEq, reduceCtorEq] at e
  · exact isi_not h e' (e ▸ T.k0) q
  · exact isi_not h e' (e ▸ T.k1) q
  · exact isi_not h e' (e ▸ T.k2) q
  · exact isi_not h e' (e ▸ T.k3) q
  · exact isi_not h e' (e ▸ T.k4) q
  · exact absurd e.symm hn
theorem ok_check {f Fa M R C : Addr} {fd : FuncData} (F : Fun K "check_ratio" "check_ratio" (top 12) f fd) (T : Cls4 K mg Fa M R C) (m1 : mg "isinstance" = none) : FnOk P w K mg base (L2.CX P w) 1 f fd ["value"] (spChk K M C) := by
  refine okXS F scC (fun vs H Q E ⟨_, e, _⟩ => by rw [e]; rfl) ?_
  rintro cdv A outer s H _ Q E hr ⟨v, rfl, h⟩ hN nd tk
  have gC := T.gC
  change QB _ (_ :: _) _ [some _] _
  kct_strs
  rcases h with ⟨b, p, q, rfl, ⟨dx, hb⟩, z⟩ | ⟨d, n, r, e, hn, z⟩
  · refine isi_own T.iC hb ?_
    kct_strs
    rw [if_neg (by decide)]
    kct_strs
    exact z
  · refine isi_data (mg := mg) T r e hn ?_
    kct_strs
    rw [if_pos (by decide)]
    kct_strs
    exact ws_raise rfl tk PySem.F.excBase_ValueError T.xM T.gM T.kM (raises_own T.bM T.tM) rfl z
/-- an operator of two ratios, the second small; N, D: what is made; another thing is refused -/
def spOp (K : PySem.W.Frag) (M R C : Addr) (N D : Int → Int → Int → Int → Int) : Sp := fun vs H Q E => ∃ (a : Addr) (y : V) (p q : Int), vs = [.ref a, y] ∧ Rt C H a p q ∧ q.natAbs < 16384 ∧
  ((∃ b p' q', y = .ref b ∧ Rt C H b p' q' ∧ p'.natAbs < 16384 ∧ q'.natAbs < 16384 ∧ (D p q p' q' ≠ 0 → ∀ c H', Same H H' → Rt C H' c (rp (N p q p' q') (D p q p' q')) (rq (N p q p' q') (D p q p' q')) → Q (.ref c) H') ∧
      (D p q p' q' = 0 → ∀ d H', Same H H' → H' d = some (.xd [("reason", .str "zero")]) → E (.ref R) (some d) H')) ∨
   (∃ d n, Rp K H y d ∧ d.ty = some n ∧ n ≠ "list" ∧ E (.ref M) none H))
theorem small_mul {a b : Int} (h1 : a.natAbs < 16384) (h2 : b.natAbs < 16384) : (a * b).natAbs < 1073741824 := by
  rw [Int.natAbs_mul]
  have := Nat.mul_le_mul (Nat.le_of_lt h1) (Nat.le_of_lt h2)
  omega
theorem scM1 : FnScope ["self", "other"] ["self", "other"] (defScope (inC 11 1)) := ⟨rfl, rfl, rfl, by decide +kernel, rfl, by decide +kernel, by decide +kernel⟩
theorem ok_add {f Fa M R C : Addr} {fd : FuncData} (F : Fun K "__add__" "Ratio.__add__" (inC 11 1) f fd) (T : Cls4 K mg Fa M R C) (X1 : CalX P w K mg base 1 "check_ratio" (spChk K M C) []) (m1 : MakX P w K mg base (L2.CX P w) 3 "Ratio" C (spInit (K := K) M R C)) : FnOk P w K mg base (L2.CX P w) 5 f fd ["self", "other"] (spOp K M R C (fun p q p' q' => p * q' + p' * q) (fun p q p' q' => q * q')) := by
  refine okXS F scM1 (fun vs H Q E ⟨_, _, _, _, e, _⟩ => by rw [e]; rfl) ?_
  rintro cdv A outer s H _ Q E hr ⟨a, y, p, q, rfl, ⟨dx, ha⟩, hq, h⟩ hN nd tk
  change QB _ (_ :: _ :: []) _ [some _, some _] _
  kct_strs
  rcases h with ⟨b, p', q', rfl, ⟨dy, hb⟩, hp', hq', z, zz⟩ | ⟨d, n, r, e, hn, z⟩
  · refine ⟨_, rfl, .inl ⟨b, p', q', rfl, ⟨dy, hb⟩, ?_⟩⟩
    kct_strs
    refine fldw_raw T.iC.cl T.an ha rfl ?_
    kct_strs
    refine fldw_raw T.iC.cl T.ad hb rfl ?_
    kct_strs
    refine opw_mul (.inr (by omega)) ?_
    kct_strs
    refine fldw_raw T.iC.cl T.an hb rfl ?_
    kct_strs
    refine fldw_raw T.iC.cl T.ad ha rfl ?_
    kct_strs
    refine opw_mul (.inl (by omega)) ?_
    kct_strs
    refine fldw_raw T.iC.cl T.ad ha rfl ?_
    kct_strs
    refine fldw_raw T.iC.cl T.ad hb rfl ?_
    kct_strs
    refine opw_mul (.inl (by omega)) ?_
    kct_strs
    intro x dx2 H2 hx0 s2 hx hdx hne
    refine init_use hx0 s2 hx (small_mul hq hq') (fun e d H' hd sd ed σ => zz e d H' (s2.trans sd) ed) (fun e H' s' r => z e x H' s' r)
  · exact ⟨_, rfl, .inr ⟨d, n, r, e, hn, fun σ => z⟩⟩
theorem scM3 : FnScope ["self", "other"] ["self", "other"] (defScope (inC 11 3)) := ⟨rfl, rfl, rfl, by decide +kernel, rfl, by decide +kernel, by decide +kernel⟩
theorem ok_mul {f Fa M R C : Addr} {fd : FuncData} (F : Fun K "__mul__" "Ratio.__mul__" (inC 11 3) f fd) (T : Cls4 K mg Fa M R C) (X1 : CalX P w K mg base 1 "check_ratio" (spChk K M C) []) (m1 : MakX P w K mg base (L2.CX P w) 3 "Ratio" C (spInit (K := K) M R C)) : FnOk P w K mg base (L2.CX P w) 5 f fd ["self", "other"] (spOp K M R C (fun p q p' q' => p * p') (fun p q p' q' => q * q')) := by
  refine okXS F scM3 (fun vs H Q E ⟨_, _, _, _, e, _⟩ => by rw [e]; rfl) ?_
  rintro cdv A outer s H _ Q E hr ⟨a, y, p, q, rfl, ⟨dx, ha⟩, hq, h⟩ hN nd tk
  change QB _ (_ :: _ :: []) _ [some _, some _] _
  kct_strs
  rcases h with ⟨b, p', q', rfl, ⟨dy, hb⟩, hp', hq', z, zz⟩ | ⟨d, n, r, e, hn, z⟩
  · refine ⟨_, rfl, .inl ⟨b, p', q', rfl, ⟨dy, hb⟩, ?_⟩⟩
    kct_strs
    refine fldw_raw T.iC.cl T.an ha rfl ?_
    kct_strs
    refine fldw_raw T.iC.cl T.an hb rfl ?_
    kct_strs
    refine opw_mul (.inr (by omega)) ?_
    kct_strs
    refine fldw_raw T.iC.cl T.ad ha rfl ?_
    kct_strs
    refine fldw_raw T.iC.cl T.ad hb rfl ?_
    kct_strs
    refine opw_mul (.inl (by omega)) ?_
    kct_strs
    intro x dx2 H2 hx0 s2 hx hdx hne
    refine init_use hx0 s2 hx (small_mul hq hq') (fun e d H' hd sd ed σ => zz e d H' (s2.trans sd) ed) (fun e H' s' r => z e x H' s' r)
  · exact ⟨_, rfl, .inr ⟨d, n, r, e, hn, fun σ => z⟩⟩
def spTimes (C : Addr) : Sp := fun vs H Q _ => ∃ (a : Addr) (p q k : Int), vs = [.ref a, .int k] ∧ Rt C H a p q ∧ q.natAbs < 16384 ∧ q ≠ 0 ∧ k.natAbs < 16384 ∧ ∀ c H', Same H H' → Rt C H' c (rp (p * k) q) (rq (p * k) q) → Q (.ref c) H'
theorem scM9 : FnScope ["self", "k"] ["self", "k"] (defScope (inC 11 9)) := ⟨rfl, rfl, rfl, by decide +kernel, rfl, by decide +kernel, by decide +kernel⟩
theorem ok_times {f Fa M R C : Addr} {fd : FuncData} (F : Fun K "times" "Ratio.times" (inC 11 9) f fd) (T : Cls4 K mg Fa M R C) (m1 : MakX P w K mg base (L2.CX P w) 3 "Ratio" C (spInit (K := K) M R C))  : FnOk P w K mg base (L2.CX P w) 5 f fd ["self", "k"] (spTimes C) := by
  refine okXS F scM9 (fun vs H Q E ⟨_, _, _, _, e, _⟩ => by rw [e]; rfl) ?_
  rintro cdv A outer s H _ Q E hr ⟨a, p, q, k, rfl, ⟨dx, ha⟩, hq, hq0, hk, z⟩ hN nd tk
  change QB _ (_ :: []) _ [some _, some _] _
  kct_strs
  refine fldw_raw T.iC.cl T.an ha rfl ?_
  kct_strs
  refine opw_mul (.inr (by omega)) ?_
  kct_strs
  refine fldw_raw T.iC.cl T.ad ha rfl ?_
  kct_strs
  intro x dx2 H2 hx0 s2 hx hdx hne
  exact init_use hx0 s2 hx (by omega) (fun e => absurd e hq0) (fun e H' s' r => z x H' s' r)
theorem scM5 : FnScope ["self", "other"] ["self", "other"] (defScope (inC 11 5)) := ⟨rfl, rfl, rfl, by decide +kernel, rfl, by decide +kernel, by decide +kernel⟩
def spEqR (K : PySem.W.Frag) (C : Addr) : Sp := fun vs H Q _ => ∃ (a : Addr) (y : V) (p q : Int), vs = [.ref a, y] ∧ Rt C H a p q ∧ ((∃ b p' q', y = .ref b ∧ Rt C H b p' q' ∧ ∀ c : Bool, (c = true ↔ p = p' ∧ q = q') → Q (.bl c) H) ∨ (∃ d n, Rp K H y d ∧ d.ty = some n ∧ n ≠ "list" ∧ Q (.bl false) H))
theorem ok_eq {f Fa M R C : Addr} {fd : FuncData} (F : Fun K "__eq__" "Ratio.__eq__" (inC 11 5) f fd) (T : Cls4 K mg Fa M R C) (m1 : mg "isinstance" = none) : FnOk P w K mg base CX0 1 f fd ["self", "other"] (spEqR K C) := by
  refine okS F scM5 (fun vs H Q E ⟨_, _, _, _, e, _⟩ => by rw [e]; rfl) ?_
  rintro cdv A outer s H _ Q E hr ⟨a, y, p, q, rfl, ⟨dx, ha⟩, h⟩ hN nd
  have gC := T.gC
  change QB _ (_ :: []) _ [some _, some _] _
  kct_strs
  rcases h with ⟨b, p', q', rfl, ⟨dy, hb⟩, z⟩ | ⟨d, n, r, e, hn, z⟩
  · refine isi_own T.iC hb ?_
    kct_strs
    rw [if_pos rfl]
    kct_strs
    refine fldw_raw T.iC.cl T.an ha rfl ?_
    kct_strs
    refine fldw_raw T.iC.cl T.an hb rfl ?_
    kct_strs
    refine ifd (fun e1 => ?_) (fun e1 => ?_)
    · kct_strs
      refine fldw_raw T.iC.cl T.ad ha rfl ?_
      kct_strs
      refine fldw_raw T.iC.cl T.ad hb rfl ?_
      kct_strs
      exact z _ (by simp [e1])
    · exact z _ (by simp [e1])
  · refine isi_data (mg := mg) T r e hn ?_
    kct_strs
    rw [if_neg (by decide)]
    exact z
theorem sc6 : FnScope ["value", "low", "high"] ["value", "low", "high"] (defScope (top 7)) := ⟨rfl, rfl, rfl, by decide +kernel, rfl, by decide +kernel, by decide +kernel⟩
theorem sc8 : FnScope ["value", "x"] ["value"] (defScope (top 8)) := ⟨rfl, rfl, rfl, by decide +kernel, rfl, by decide +kernel, by decide +kernel⟩
/-- an int between low and high -/
def wi (d : D) (lo hi : Int) : Bool := match d with
  | .int i => decide (lo ≤ i) && decide (i ≤ hi)
  | _ => false
def spCount (K : PySem.W.Frag) : Sp := fun vs H Q _ => ∃ v d lo hi, vs = [v, .int lo, .int hi] ∧ Rp K H v d ∧ d.ty.isSome = true ∧ Q (.bl (wi d lo hi)) H
theorem ok_is_count {f : Addr} {fd : FuncData} (F : Fun K "is_count" "is_count" (top 7) f fd) (c1 : Cal P w K mg base 1 "is_integer" (spWhole K) []) : FnOk P w K mg base CX0 2 f fd ["value", "low", "high"] (spCount K) := by
  refine okS F sc6 (fun vs H Q E ⟨_, _, _, _, e, _⟩ => by rw [e]; rfl) ?_
  rintro cdv A outer s H _ Q E hr ⟨v, d, lo, hi, rfl, rp, hd, q⟩ hN nd
  change QB _ (_ :: _) _ [some _, some _, some _] _
  kct_strs
  refine ⟨_, _, rfl, rp, hd, ?_⟩
  kct_strs
  refine ifb (fun e1 => ?_) (fun e1 => ?_)
  · cases d <;> cases e1
    cases rp
    kct_strs
    refine ifd (fun e2 => ?_) (fun e2 => ?_)
    · kct_strs
      simpa [wi, e2] using q
    · simpa [wi, e2] using q
  · cases d <;> first | exact q | cases e1
/-- a tuple of ints -/
def wr (d : D) : Bool := match d with
  | .tup ds => ds.all D.whole
  | _ => false
def tysAll (d : D) : Prop := match d with
  | .tup ds => (∀ e ∈ ds, e.ty.isSome = true) ∧ ds.length < 1000
  | _ => True
def spRow (K : PySem.W.Frag) : Sp := fun vs H Q _ => ∃ v d, vs = [v] ∧ Rp K H v d ∧ d.ty.isSome = true ∧ tysAll d ∧ ∀ H', Same H H' → Q (.bl (wr d)) H'
theorem ok_is_whole_row {f : Addr} {fd : FuncData} (F : Fun K "is_whole_row" "is_whole_row" (top 8) f fd) (c1 : Cal P w K mg base 1 "is_integer" (spWhole K) []) (m1 : mg "isinstance" = none) (m2 : mg "tuple" = none) (m3 : mg "all" = none) : FnOk P w K mg base CX0 2 f fd ["value"] (spRow K) := by
  refine okS F sc8 (fun vs H Q E ⟨_, _, e, _⟩ => by rw [e]; rfl) ?_
  rintro cdv A outer s H _ Q E hr ⟨v, d, rfl, rp, hd, ht, q⟩ hN nd
  change QB _ (_ :: _) _ [some _, none] _
  kct_strs
  refine ifb (fun e1 => ?_) (fun e1 => ?_)
  · cases d <;> cases e1
    rename_i ds
    kct_strs
    mem_news
    kct_strs
    have hlen := ht.2
    have hz : (1000 : Nat) < sizeLine := by decide
    refine ⟨ds, rp, by omega, fun e => .bl e.whole, ⟨fun _ _ => rfl, fun d u H2 hd s2 r => ?_⟩, fun p H2 ys s2 hp hp2 r => ?_⟩
    · intro s H0 C cl fp
      kct_strs
      refine ⟨_, _, rfl, r, ht.1 d hd, Same.refl _, .bl _⟩
    · kct_strs
      rw [show ds.map (fun e => D.bl e.whole) = (ds.map D.whole).map D.bl by simp] at r
      refine callw_all rfl hp2 r ?_
      have e2 : ((ds.map D.whole).all id) = wr (.tup ds) := by simp [wr, List.all_map]
      rw [e2]
      exact q _ s2
  · cases d <;> first | exact q _ (Same.refl _) | cases e1
theorem sc19 : FnScope ["script", "seed", "total", "cell"] ["script"] (defScope (top 35)) := ⟨rfl, rfl, rfl, by decide +kernel, rfl, by decide +kernel, by decide +kernel⟩
theorem sc20 : FnScope ["state", "m", "value"] ["state", "m"] (defScope (top 36)) := ⟨rfl, rfl, rfl, by decide +kernel, rfl, by decide +kernel, by decide +kernel⟩
theorem sc21 : FnScope ["value", "due"] ["value", "due"] (defScope (top 37)) := ⟨rfl, rfl, rfl, by decide +kernel, rfl, by decide +kernel, by decide +kernel⟩
theorem sc22 : FnScope ["value"] ["value"] (defScope (top 38)) := ⟨rfl, rfl, rfl, by decide +kernel, rfl, by decide +kernel, by decide +kernel⟩
theorem fmod_lt (a b : Int) (h : b ≠ 0) : (a.fmod b).natAbs < b.natAbs := by
  rw [Int.fmod_eq_emod]
  have h1 := Int.emod_nonneg a h
  have h2 := Int.emod_lt a h

  by_cases hc : 0 ≤ b ∨ b ∣ a
  · rw [if_pos hc]
    omega
  · rw [if_neg hc]
    have h3 : a % b ≠ 0 := fun e => hc (.inr (Int.dvd_of_emod_eq_zero e))
    have : b < 0 := by
      apply Int.not_le.mp
      intro e
      exact hc (.inl e)
    omega
def spState (K : PySem.W.Frag) : Sp := fun vs H Q _ => ∃ (v : V) (ns : List Int), vs = [v] ∧ Rp K H v (.lst (ns.map .int)) ∧ ns.length ≤ 63 ∧ ∀ (s t : Int) (p : Addr) (H' : Hp), Same H H' → H' p = some (.lst [.int s, .int t]) → Q (.ref p) H'
theorem ok_law_state {f : Addr} {fd : FuncData} (F : Fun K "_law_state" "_law_state" (top 35) f fd) (m1 : mg "abs" = none) (m2 : mg "int" = none) : FnOk P w K mg base CX0 1 f fd ["script"] (spState K) := by
  refine okS F sc19 (fun vs H Q E ⟨_, _, e, _⟩ => by rw [e]; rfl) ?_
  rintro cdv A outer s H _ Q E hr ⟨v, ns, rfl, rp, hl, q⟩ hN nd
  change QB _ (_ :: _) _ [some _, none, none, none] _
  kct_strs
  one_place
  refine we_sliceHi ?_
  kct_strs
  obtain ⟨a, xs, rfl, h1, h2⟩ := rp.lst_inv
  have hx : xs.length ≤ 63 := by rw [h2.len, List.length_map]; exact hl
  refine ⟨_, _, _, rfl, rfl, h1, fun p H1 hp s1 e1 => ?_⟩
  rw [show (63 : Int) = ((63 : Nat) : Int) from rfl, cut_all hx] at e1
  refine ⟨ns.map .int, .lstOf e1 (h2.to s1), fun k σ H' => ∃ (x y : Int) (z : Option V), Same H1 H' ∧ σ = [some (.ref a), some (.int x), some (.int y), z], ⟨_, _, _, Same.refl _, rfl⟩, fun k σ H' ⟨_, _, _, s, _⟩ => s, ?_, ?_⟩
  · rintro k d u σ1 H2 hd ⟨x, y, z, s2, rfl⟩ r
    rw [List.getElem?_map] at hd
    cases hk : ns[k]? with
    | none => rw [hk] at hd; cases hd
    | some n =>
      rw [hk] at hd
      cases hd
      cases r
      show QG _ _ _ _ _ _
      kct_strs
      refine opw_mul (.inr (by omega)) ?_
      kct_strs
      refine opw_mul (.inr (by omega)) ?_
      kct_strs
      refine opw_mod (by omega) ?_
      kct_strs
      exact ⟨_, _, _, s2, rfl⟩
  · rintro σ1 H2 ⟨x, y, z, s2, rfl⟩
    kct_strs
    refine ifn (fun _ => ?_) (fun _ => ?_)
    · kct_strs
      refine ⟨Nat.le_of_ble_eq_true rfl, fun p3 H3 hp3 s3 e3 => ?_⟩
      exact q _ _ p3 H3 ((s1.trans s2).trans s3) e3
    · kct_strs
      refine ⟨Nat.le_of_ble_eq_true rfl, fun p3 H3 hp3 s3 e3 => ?_⟩
      exact q _ _ p3 H3 ((s1.trans s2).trans s3) e3
theorem ok_law_take {f : Addr} {fd : FuncData} (F : Fun K "_law_take" "_law_take" (top 36) f fd) (m2 : mg "int" = none) : FnOk P w K mg base CX0 1 f fd ["state", "m"] spTake := by
  refine okS F sc20 (fun vs H Q E ⟨_, _, e, _⟩ => by rw [e]; rfl) ?_
  rintro cdv A outer s H _ Q E hr ⟨a, m, rfl, hm, ⟨s0, t0, e0⟩, q⟩ hN nd
  change QB _ (_ :: _) _ [some _, some _, none] _
  have u1 : ∀ x : Int, (upd H a (.lst [.int x, .int t0])) a = some (.lst [.int x, .int t0]) := fun x => upd_same
  kct_strs
  refine ixw_sl (.inl (.inl e0)) rfl ?_
  kct_strs
  refine ifd (fun h0 => ?_) (fun h0 => ?_)
  · kct_strs
    refine ixw_sl (.inl (.inl e0)) rfl ?_
    kct_strs
    refine opw_mod (by omega) ?_
    kct_strs
    refine ixw_sl (.inl (.inl e0)) rfl ?_
    kct_strs
    refine opw_div (by exact hm) ?_
    kct_strs
    refine setw_lst e0 rfl ?_
    kct_strs
    refine q _ _ (Int.emod_nonneg _ (by omega)) (Int.emod_lt_of_pos _ (by omega)) ⟨fun b o n e => by rw [upd_ne n]; exact e, _, _, upd_same⟩
  · kct_strs
    refine ixw_sl (.inl (.inl e0)) rfl ?_
    kct_strs
    refine opw_mul (.inr (by omega)) ?_
    kct_strs
    refine opw_mod (by omega) ?_
    kct_strs
    refine setw_lst e0 rfl ?_
    kct_strs
    refine ixw_sl (.inl (.inl upd_same)) rfl ?_
    kct_strs
    refine opw_div ⟨by omega, by omega⟩ ?_
    kct_strs
    refine opw_mod (by omega) ?_
    kct_strs
    refine q _ _ (Int.emod_nonneg _ (by omega)) (Int.emod_lt_of_pos _ (by omega)) ⟨fun b o n e => by rw [upd_ne n]; exact e, _, _, upd_same⟩
def spSays : Sp := fun vs H Q _ => ∃ b c : Bool, vs = [.bl b, .bl c] ∧ Q (.bl (decide (b = c))) H
theorem ok_law_says {f : Addr} {fd : FuncData} (F : Fun K "_law_says" "_law_says" (top 37) f fd) (m1 : mg "isinstance" = none) (m2 : mg "bool" = none) : FnOk P w K mg base CX0 1 f fd ["value", "due"] spSays := by
  refine okS F sc21 (fun vs H Q E ⟨_, _, e, _⟩ => by rw [e]; rfl) ?_
  rintro cdv A outer s H _ Q E hr ⟨b, c, rfl, q⟩ hN nd
  change QB _ (_ :: _) _ [some _, some _] _
  have rp : Rp K H (.bl b) (.bl b) := .bl b
  kct_strs
  refine ifb (fun _ => ?_) (fun e => by cases e)
  kct_strs
  exact q
theorem ok_law_is_whole {f : Addr} {fd : FuncData} (F : Fun K "_law_is_whole" "_law_is_whole" (top 38) f fd) (m1 : mg "isinstance" = none) (m2 : mg "int" = none) (m3 : mg "bool" = none) : FnOk P w K mg base CX0 1 f fd ["value"] (spWhole K) := by
  refine okS F sc22 (fun vs H Q E ⟨_, _, e, _⟩ => by rw [e]; rfl) ?_
  rintro cdv A outer s H _ Q E hr ⟨v, d, rfl, rp, hd, q⟩ hN nd
  change QB _ (_ :: _) _ [some _] _
  kct_strs
  refine ifb (fun e1 => ?_) (fun e1 => ?_)
  · kct_strs
    rw [D.whole_eq, e1] at q
    exact q
  · rw [D.whole_eq, e1] at q
    exact q
end
/-- a ratio is in lowest terms, and stands for n / d -/
theorem rat_facts (n d : Int) (hd : d ≠ 0) : 0 < rq n d ∧ Int.gcd (rp n d) (rq n d) = 1 ∧ rp n d * d = n * rq n d ∧ (rq n d).natAbs ≤ d.natAbs := by
  have hg : 0 < Int.gcd n d := Nat.pos_of_ne_zero fun e => hd (Int.gcd_eq_zero_iff.mp e).2
  obtain ⟨n', hn⟩ := Int.gcd_dvd_left n d
  obtain ⟨d', hd'⟩ := Int.gcd_dvd_right n d
  generalize hG : Int.gcd n d = g at *
  have hg' : (g : Int) ≠ 0 := by omega
  have h1 : Int.gcd n' d' = 1 := by
    have : Int.gcd ((g : Int) * n') ((g : Int) * d') = g := by rw [← hn, ← hd']; exact hG
    rw [Int.gcd_mul_left, Int.natAbs_natCast] at this
    exact Nat.eq_of_mul_eq_mul_left hg (by omega)
  have q1 : n / (g : Int) = n' := by rw [hn]; exact Int.mul_ediv_cancel_left _ hg'
  have q2 : d / (g : Int) = d' := by rw [hd']; exact Int.mul_ediv_cancel_left _ hg'
  have q3 : (-n) / (g : Int) = -n' := by rw [hn, ← Int.mul_neg]; exact Int.mul_ediv_cancel_left _ hg'
  have q4 : (-d) / (g : Int) = -d' := by rw [hd', ← Int.mul_neg]; exact Int.mul_ediv_cancel_left _ hg'
  have le : d'.natAbs ≤ d.natAbs := by
    rw [hd', Int.natAbs_mul, Int.natAbs_natCast]
    exact Nat.le_mul_of_pos_left _ hg
  unfold rp rq
  rw [hG]
  by_cases h : 0 < d
  · have hp : 0 < d' := by
      apply Int.not_le.mp
      intro hle
      have := Int.mul_le_mul_of_nonneg_left hle (show (0 : Int) ≤ g by omega)
      rw [← hd', Int.mul_zero] at this
      omega
    rw [if_pos h, if_neg (by omega), q1, q2]
    refine ⟨hp, h1, ?_, le⟩
    conv => lhs; rw [hd']
    conv => rhs; rw [hn]
    rw [Int.mul_left_comm, Int.mul_assoc]
  · have hp : d' < 0 := by
      apply Int.not_le.mp
      intro hle
      have := Int.mul_le_mul_of_nonneg_left hle (show (0 : Int) ≤ g by omega)
      rw [← hd', Int.mul_zero] at this
      omega
    rw [if_neg h, if_pos (by omega), q3, q4]
    refine ⟨by omega, by rw [Int.gcd_neg, Int.neg_gcd]; exact h1, ?_, by rw [Int.natAbs_neg]; exact le⟩
    conv => lhs; rw [hd']
    conv => rhs; rw [hn]
    rw [Int.neg_mul, Int.mul_neg, Int.mul_left_comm, Int.mul_assoc]
theorem cross {p q n d : Int} (h : p * d = n * q) {p' q' n' d' : Int} (h' : p' * d' = n' * q') : p * p' * (d * d') = n * n' * (q * q') := by
  have : (p * d) * (p' * d') = (n * q) * (n' * q') := by rw [h, h']
  calc p * p' * (d * d') = (p * d) * (p' * d') := by simp only [Int.mul_assoc, Int.mul_left_comm, Int.mul_comm]
    _ = (n * q) * (n' * q') := this
    _ = n * n' * (q * q') := by simp only [Int.mul_assoc, Int.mul_left_comm, Int.mul_comm]
theorem dvd_cop {a b c : Int} (h : a ∣ b * c) (g : Int.gcd a b = 1) : a ∣ c := by
  rw [← Int.natAbs_dvd_natAbs] at h ⊢
  rw [Int.natAbs_mul] at h
  exact Nat.Coprime.dvd_of_dvd_mul_left g h
/-- lowest terms are told by the cross -/
theorem lowest {p q p' q' : Int} (hq : 0 < q) (hq' : 0 < q') (h : Int.gcd p q = 1) (h' : Int.gcd p' q' = 1) : (p = p' ∧ q = q') ↔ p * q' = p' * q := by
  constructor
  · rintro ⟨rfl, rfl⟩
    rfl
  · intro e
    have d1 : q ∣ p * q' := ⟨p', by rw [e, Int.mul_comm]⟩
    have d2 : q' ∣ p' * q := ⟨p, by rw [← e, Int.mul_comm]⟩
    have c1 : q ∣ q' := dvd_cop d1 (by rw [Int.gcd_comm]; exact h)
    have c2 : q' ∣ q := dvd_cop d2 (by rw [Int.gcd_comm]; exact h')
    have eq : q = q' := Int.dvd_antisymm (by omega) (by omega) c1 c2
    subst eq
    exact ⟨Int.eq_of_mul_eq_mul_right (by omega) e, rfl⟩
theorem rp_le (n d : Int) : (rp n d).natAbs ≤ n.natAbs := by
  unfold rp
  split
  · exact Int.natAbs_ediv_le_natAbs _ _
  · have := Int.natAbs_ediv_le_natAbs (-n) (Int.gcd n d : Int)
    rwa [Int.natAbs_neg] at this
/-- what stands for N / D stands for n / m -/
theorem stand {p q N D n m : Int} (h : p * D = N * q) (h2 : N * m = n * D) (hD : D ≠ 0) : p * m = n * q := by
  apply Int.eq_of_mul_eq_mul_right hD
  calc p * m * D = (p * D) * m := by simp only [Int.mul_assoc, Int.mul_left_comm, Int.mul_comm]
    _ = (N * m) * q := by rw [h]; simp only [Int.mul_assoc, Int.mul_left_comm, Int.mul_comm]
    _ = n * q * D := by rw [h2]; simp only [Int.mul_assoc, Int.mul_left_comm, Int.mul_comm]
section
variable {X : Cx}
theorem eq_rat {Fa M R C : Addr} {mg : Str → Option Value} {H : Hp} {Q : VK} {a b : Addr} {p q p' q' : Int} {k j : Nat} (T : Cls4 X.K mg Fa M R C) (mt : MetX X.prog X.w X.K X.mg X.base CX0 k C "__eq__" (spEqR X.K C)) (hr : Room j X.A) (hk : k ≤ j) (ha : Rt C H a p q) (hb : Rt C H b p' q') (z : ∀ c : Bool, (c = true ↔ p = p' ∧ q = q') → Q (.bl c) H) : OpW X (compareOp .Eq) (.ref a) (.ref b) H Q := by
  obtain ⟨dx, ea⟩ := ha
  obtain ⟨dy, eb⟩ := hb
  refine opw_eqO (tb := .ref C) mt hr hk (by simp [PySem.W.notFirst]) (fun pins σ s u I r => ?_) ea ⟨a, .ref b, p, q, rfl, ⟨dx, ea⟩, .inl ⟨b, p', q', rfl, ⟨dy, eb⟩, z⟩⟩
  cases (show u = Value.ref b from r)
  obtain ⟨ox, od, J⟩ := inst_at I eb
  exact J.type
end
theorem rat_eq {a b c d : Int} (hb : b ≠ 0) (hd : d ≠ 0) : (rp a b = rp c d ∧ rq a b = rq c d) ↔ a * d = b * c := by
  obtain ⟨x1, x2, x3, _⟩ := rat_facts a b hb
  obtain ⟨y1, y2, y3, _⟩ := rat_facts c d hd
  rw [lowest x1 y1 x2 y2]
  generalize rp a b = p at *
  generalize rq a b = q at *
  generalize rp c d = p' at *
  generalize rq c d = q' at *
  constructor
  · intro e
    have : (a * d - b * c) * (q * q') = 0 := by grind
    rcases Int.mul_eq_zero.mp this with h | h
    · omega
    · rcases Int.mul_eq_zero.mp h with h | h <;> omega
  · intro e
    have : (p * q' - p' * q) * (b * d) = 0 := by grind
    rcases Int.mul_eq_zero.mp this with h | h
    · omega
    · rcases Int.mul_eq_zero.mp h with h | h
      · exact absurd h hb
      · exact absurd h hd
abbrev rD (r : List Int) : D := .tup (r.map .int)
abbrev tD (t : List (List Int)) : D := .tup (t.map rD)
theorem rD_map {α : Type} (l : List α) (f : α → Int) : rD (l.map f) = .tup (l.map fun k => D.int (f k)) := by
  show D.tup _ = D.tup _
  rw [List.map_map]
  rfl
theorem tD_map {α : Type} (l : List α) (f : α → List Int) : tD (l.map f) = .tup (l.map fun k => rD (f k)) := by
  show D.tup _ = D.tup _
  rw [List.map_map]
  rfl
theorem ints_im (r : List Int) : (rD r).im = true := by
  show imAll (r.map D.int) = true
  rw [imAll_iff]
  intro d hd
  obtain ⟨i, _, rfl⟩ := List.mem_map.mp hd
  rfl
def at2 (t : List (List Int)) (i k : Nat) : Int := (t.getD i []).getD k 0
def one0 (i k : Nat) : Int := if i = k then 1 else 0
theorem one0_eq (i k : Nat) : (if decide ((i : Int) = (k : Int)) = true then (1 : Int) else 0) = one0 i k := by
  unfold one0
  by_cases h : i = k
  · subst h; simp
  · rw [if_neg h, if_neg]
    simp
    omega
def plain (n : Nat) : List (List Int) := (List.range n).map fun i => (List.range n).map (one0 i)
def turned (n : Nat) : List (List Int) := (List.range n).map fun i => (List.range n).map fun k => -one0 i k
section
variable {P : Program} {w : World} {K : PySem.W.Frag} {mg : Str → Option Value} {base : Heap}
/-- a table is made of a width -/
def spMk (K : PySem.W.Frag) (g : Nat → List (List Int)) : Sp := fun vs H Q _ => ∃ n : Nat, vs = [.int n] ∧ n ≤ 3 ∧ ∀ v H', Same H H' → Rp K H' v (tD (g n)) → Q v H'
theorem scPl : FnScope ["wide", "i", "k"] ["wide"] (defScope (top 19)) := ⟨rfl, rfl, rfl, by decide +kernel, rfl, by decide +kernel, by decide +kernel⟩
theorem scTu : FnScope ["wide", "i", "k"] ["wide"] (defScope (top 20)) := ⟨rfl, rfl, rfl, by decide +kernel, rfl, by decide +kernel, by decide +kernel⟩
theorem ok_plain {f : Addr} {fd : FuncData} (F : Fun K "plain_table" "plain_table" (top 19) f fd) (m1 : mg "tuple" = none) (m2 : mg "range" = none) (m3 : mg "int" = none) : FnOk P w K mg base CX0 1 f fd ["wide"] (spMk K plain) := by
  refine okS F scPl (fun vs H Q E ⟨_, e, _⟩ => by rw [e]; rfl) ?_
  rintro cdv A outer s H _ Q E hr ⟨n, rfl, hn, q⟩ hN nd
  change QB _ (_ :: []) _ [some _, none, none] _
  kct_strs
  fin_range
  kct_strs
  refine ⟨by omega, fun i => rD ((List.range n).map (one0 i)), fun k _ => ints_im _, fun i H2 hi s2 => ?_, fun p H2 ys s2 hp hp2 r => ?_⟩
  · intro s0 H00 C0 cl fp
    kct_strs
    fin_range
    kct_strs
    refine ⟨by omega, fun k => .int (one0 i k), fun k _ => rfl, fun k H3 hk s3 => ?_, fun p H3 ys s3 hp hp2 r => ?_⟩
    · intro s0 H00 C0 cl fp
      kct_strs
      rw [one0_eq]
      exact ⟨Same.refl _, .int _⟩
    · kct_strs
      refine callw_tuple_l (.lstOf hp2 r) fun v H4 s4 r4 => ⟨s3.trans s4, ?_⟩
      dsimp only
      rw [rD_map]
      exact r4
  · kct_strs
    refine callw_tuple_l (.lstOf hp2 r) fun v H4 s4 r4 => ?_
    kct_strs
    refine q v H4 (s2.trans s4) ?_
    unfold plain
    rw [tD_map]
    exact r4
theorem ok_turned {f : Addr} {fd : FuncData} (F : Fun K "turned_table" "turned_table" (top 20) f fd) (m1 : mg "tuple" = none) (m2 : mg "range" = none) (m3 : mg "int" = none) : FnOk P w K mg base CX0 1 f fd ["wide"] (spMk K turned) := by
  refine okS F scTu (fun vs H Q E ⟨_, e, _⟩ => by rw [e]; rfl) ?_
  rintro cdv A outer s H _ Q E hr ⟨n, rfl, hn, q⟩ hN nd
  change QB _ (_ :: []) _ [some _, none, none] _
  kct_strs
  fin_range
  kct_strs
  refine ⟨by omega, fun i => rD ((List.range n).map fun k => -one0 i k), fun k _ => ints_im _, fun i H2 hi s2 => ?_, fun p H2 ys s2 hp hp2 r => ?_⟩
  · intro s0 H00 C0 cl fp
    kct_strs
    fin_range
    kct_strs
    refine ⟨by omega, fun k => .int (-one0 i k), fun k _ => rfl, fun k H3 hk s3 => ?_, fun p H3 ys s3 hp hp2 r => ?_⟩
    · intro s0 H00 C0 cl fp
      kct_strs
      rw [one0_eq]
      exact ⟨Same.refl _, .int _⟩
    · kct_strs
      refine callw_tuple_l (.lstOf hp2 r) fun v H4 s4 r4 => ⟨s3.trans s4, ?_⟩
      dsimp only
      rw [rD_map]
      exact r4
  · kct_strs
    refine callw_tuple_l (.lstOf hp2 r) fun v H4 s4 r4 => ?_
    kct_strs
    refine q v H4 (s2.trans s4) ?_
    unfold turned
    rw [tD_map]
    exact r4
def mul (a b : List (List Int)) : List (List Int) := a.map fun r => (List.range (b.getD 0 []).length).map fun j => ((List.range b.length).map fun k => r.getD k 0 * at2 b k j).sum
/-- n rows (n from 1 on) of m items each -/
def Rows (n m : Nat) (t : List (List Int)) : Prop := t.length = n ∧ ∀ r ∈ t, r.length = m
def Sm (B : Nat) (t : List (List Int)) : Prop := ∀ r ∈ t, ∀ x ∈ r, x.natAbs < B
theorem getD_mem {α : Type} {l : List α} {k : Nat} {d : α} (h : k < l.length) : l.getD k d ∈ l := by
  simp [List.getD_eq_getElem?_getD, h]
theorem Sm.at {B : Nat} {t : List (List Int)} {n m i k : Nat} (h : Sm B t) (r : Rows n m t) (hi : i < n) (hk : k < m) : (at2 t i k).natAbs < B := by
  have h1 : t.getD i [] ∈ t := getD_mem (by rw [r.1]; exact hi)
  exact h _ h1 _ (getD_mem (by rw [r.2 _ h1]; exact hk))
def spMul (K : PySem.W.Frag) : Sp := fun vs H Q _ => ∃ (x y : V) (a b : List (List Int)) (l n : Nat), vs = [x, y] ∧ Rp K H x (tD a) ∧ Rp K H y (tD b) ∧ Rows l n a ∧ Rows n n b ∧ (1 ≤ n ∧ n ≤ 3) ∧ l ≤ 3 ∧ Sm (2 ^ 60) b ∧ ∀ v H', Same H H' → Rp K H' v (tD (mul a b)) → Q v H'
theorem scMu : FnScope ["one", "two", "wide", "row", "j", "k"] ["one", "two"] (defScope (top 21)) := ⟨rfl, rfl, rfl, by decide +kernel, rfl, by decide +kernel, by decide +kernel⟩
theorem ok_times_t {f : Addr} {fd : FuncData} (F : Fun K "table_times" "table_times" (top 21) f fd) (m1 : mg "tuple" = none) (m2 : mg "range" = none) (m3 : mg "len" = none) (m4 : mg "sum" = none) : FnOk P w K mg base CX0 1 f fd ["one", "two"] (spMul K) := by
  refine okS F scMu (fun vs H Q E ⟨_, _, _, _, _, _, e, _⟩ => by rw [e]; rfl) ?_
  rintro cdv A outer s H _ Q E hr ⟨x, y, a, b, l, n, rfl, ra, rb, sa, sb, hn, hl, hB, q⟩ hN nd
  have hz : (1000 : Nat) < sizeLine := by decide
  change QB _ (_ :: _ :: []) _ [some _, some _, none, none, none, none] _
  kct_strs
  refine callw_len_t rb ?_
  kct_strs
  by_item
  kct_strs
  refine ⟨List Int, a, rD, fun r => rD ((List.range (b.getD 0 []).length).map fun j => ((List.range b.length).map fun k => r.getD k 0 * at2 b k j).sum), ra, by rw [sa.1]; omega, fun r _ => ints_im _, fun r hr w1 H2 s2 rr => ?_, fun p H2 ys s2 hp hp2 r => ?_⟩
  · have rb2 := rb.to s2
    intro s0 H00 C0 cl fp
    kct_strs
    fin_range
    kct_strs
    refine ixw_mt (d0 := []) rb2 (by decide) (by rw [sb.1]; show 0 < n; omega) fun w2 r2 => ?_
    kct_strs
    refine callw_len_t r2 ?_
    rw [List.length_map]
    have l0 : (b.getD 0 []).length = n := sb.2 _ (getD_mem (by rw [sb.1]; omega))
    kct_strs
    show (b.getD 0 []).length ≤ 1000 ∧ _
    refine ⟨by omega, fun j => .int (((List.range b.length).map fun k => r.getD k 0 * at2 b k j).sum), fun k _ => rfl, fun j H3 hj s3 => ?_, fun p H3 ys s3 hp hp2 r => ?_⟩
    · have hj' : j < n := by rw [← l0]; exact hj
      have rb3 := rb2.to s3
      have rr3 := rr.to s3
      intro s0 H00 C0 cl fp
      kct_strs
      fin_range
      kct_strs
      refine ⟨by rw [List.length_map, sb.1]; omega, fun k => .int (r.getD k 0 * at2 b k j), fun k _ => rfl, fun k H4 hk s4 => ?_, fun p H4 ys s4 hp hp2 r => ?_⟩
      · rw [List.length_map, sb.1] at hk
        intro s0 H00 C0 cl fp
        kct_strs
        refine ixw_row (rr3.to s4) (by omega) (by rw [Int.toNat_natCast, sa.2 r hr]; exact hk) ?_
        kct_strs
        refine ixw_mt (d0 := []) (rb3.to s4) (by omega) (by rw [Int.toNat_natCast, sb.1]; exact hk) fun w3 r3 => ?_
        kct_strs
        have l1 : (b.getD k []).length = n := sb.2 _ (getD_mem (by rw [sb.1]; exact hk))
        rw [Int.toNat_natCast] at r3
        refine ixw_row r3 (by omega) (by rw [Int.toNat_natCast, l1]; exact hj') ?_
        kct_strs
        rw [Int.toNat_natCast, Int.toNat_natCast]
        have hb := hB.at sb hk hj'
        unfold at2 at hb
        refine opw_mul (.inr (by omega)) ?_
        exact ⟨Same.refl _, .int _⟩
      · kct_strs
        rw [List.length_map] at r
        rw [show ((List.range b.length).map fun k => D.int ((_ : List Int).getD k 0 * at2 b k j)) = ((List.range b.length).map fun k => (_ : List Int).getD k 0 * at2 b k j).map D.int by rw [List.map_map]; rfl] at r
        refine callw_sum rfl hp2 r ?_
        exact ⟨s4, .int _⟩
    · kct_strs
      refine callw_tuple_l (.lstOf hp2 r) fun v H4 s4 r4 => ⟨s3.trans s4, ?_⟩
      dsimp only
      rw [rD_map]
      exact r4
  · kct_strs
    refine callw_tuple_l (.lstOf hp2 r) fun v H4 s4 r4 => ?_
    kct_strs
    refine q v H4 (s2.trans s4) ?_
    unfold mul
    rw [tD_map]
    exact r4
end
section
variable {P : Program} {w : World} {K : PySem.W.Frag} {mg : Str → Option Value} {base : Heap}
def flip (t : List (List Int)) : List (List Int) := (List.range (t.getD 0 []).length).map fun k => t.map fun r => r.getD k 0
def spFlip (K : PySem.W.Frag) : Sp := fun vs H Q _ => ∃ (x : V) (t : List (List Int)) (l n : Nat), vs = [x] ∧ Rp K H x (tD t) ∧ Rows l n t ∧ (1 ≤ l ∧ l ≤ 3) ∧ n ≤ 3 ∧ ∀ v H', Same H H' → Rp K H' v (tD (flip t)) → Q v H'
theorem scFl : FnScope ["table", "k", "row"] ["table"] (defScope (top 23)) := ⟨rfl, rfl, rfl, by decide +kernel, rfl, by decide +kernel, by decide +kernel⟩
theorem scDe : FnScope ["table", "total", "k", "a", "b", "low", "j"] ["table"] (defScope (top 24)) := ⟨rfl, rfl, rfl, by decide +kernel, rfl, by decide +kernel, by decide +kernel⟩
theorem scTr : FnScope ["table", "k"] ["table"] (defScope (top 25)) := ⟨rfl, rfl, rfl, by decide +kernel, rfl, by decide +kernel, by decide +kernel⟩
theorem scSi : FnScope ["k"] ["k"] (defScope (top 28)) := ⟨rfl, rfl, rfl, by decide +kernel, rfl, by decide +kernel, by decide +kernel⟩
theorem ok_flipped {f : Addr} {fd : FuncData} (F : Fun K "flipped" "flipped" (top 23) f fd) (m1 : mg "tuple" = none) (m2 : mg "range" = none) (m3 : mg "len" = none) : FnOk P w K mg base CX0 1 f fd ["table"] (spFlip K) := by
  refine okS F scFl (fun vs H Q E ⟨_, _, _, _, e, _⟩ => by rw [e]; rfl) ?_
  rintro cdv A outer s H _ Q E hr ⟨x, t, l, n, rfl, rt, st, hl, hn, q⟩ hN nd
  have hz : (1000 : Nat) < sizeLine := by decide
  have l0 : (t.getD 0 []).length = n := st.2 _ (getD_mem (by rw [st.1]; omega))
  change QB _ (_ :: []) _ [some _, none, none] _
  kct_strs
  fin_range
  kct_strs
  refine ixw_mt (d0 := []) rt (by decide) (by rw [st.1]; show 0 < l; omega) fun w2 r2 => ?_
  kct_strs
  refine callw_len_t r2 ?_
  rw [List.length_map]
  kct_strs
  show (t.getD 0 []).length ≤ 1000 ∧ _
  refine ⟨by omega, fun k => rD (t.map fun r => r.getD k 0), fun k _ => ints_im _, fun k H2 hk s2 => ?_, fun p H2 ys s2 hp hp2 r => ?_⟩
  · have hk' : k < n := by rw [← l0]; exact hk
    have rt2 := rt.to s2
    intro s0 H00 C0 cl fp
    kct_strs
    by_item
    kct_strs
    refine ⟨List Int, t, rD, fun r => .int (r.getD k 0), rt2, by rw [st.1]; omega, fun r _ => rfl, fun r hr w1 H3 s3 rr => ?_, fun p H3 ys s3 hp hp2 r => ?_⟩
    · intro s0 H00 C0 cl fp
      kct_strs
      refine ixw_row rr (by omega) (by rw [Int.toNat_natCast, st.2 r hr]; exact hk') ?_
      rw [Int.toNat_natCast]
      exact ⟨Same.refl _, .int _⟩
    · kct_strs
      refine callw_tuple_l (.lstOf hp2 r) fun v H4 s4 r4 => ⟨s3.trans s4, ?_⟩
      dsimp only
      rw [rD_map]
      exact r4
  · kct_strs
    refine callw_tuple_l (.lstOf hp2 r) fun v H4 s4 r4 => ?_
    kct_strs
    refine q v H4 (s2.trans s4) ?_
    unfold flip
    rw [tD_map]
    exact r4
def tra (t : List (List Int)) : Int := ((List.range t.length).map fun k => at2 t k k).sum
def spTra (K : PySem.W.Frag) : Sp := fun vs H Q _ => ∃ (x : V) (t : List (List Int)) (n : Nat), vs = [x] ∧ Rp K H x (tD t) ∧ Rows n n t ∧ n ≤ 3 ∧ ∀ H', Same H H' → Q (.int (tra t)) H'
theorem ok_trace {f : Addr} {fd : FuncData} (F : Fun K "trace" "trace" (top 25) f fd) (m1 : mg "sum" = none) (m2 : mg "range" = none) (m3 : mg "len" = none) : FnOk P w K mg base CX0 1 f fd ["table"] (spTra K) := by
  refine okS F scTr (fun vs H Q E ⟨_, _, _, e, _⟩ => by rw [e]; rfl) ?_
  rintro cdv A outer s H _ Q E hr ⟨x, t, n, rfl, rt, st, hn, q⟩ hN nd
  change QB _ (_ :: []) _ [some _, none] _
  kct_strs
  fin_range
  kct_strs
  refine callw_len_t rt ?_
  rw [List.length_map]
  kct_strs
  refine ⟨by rw [st.1]; omega, fun k => .int (at2 t k k), fun k _ => rfl, fun k H2 hk s2 => ?_, fun p H2 ys s2 hp hp2 r => ?_⟩
  · rw [st.1] at hk
    intro s0 H00 C0 cl fp
    kct_strs
    refine ixw_mt (d0 := []) (rt.to s2) (by omega) (by rw [Int.toNat_natCast, st.1]; exact hk) fun w2 r2 => ?_
    kct_strs
    rw [Int.toNat_natCast] at r2
    refine ixw_row r2 (by omega) (by rw [Int.toNat_natCast, st.2 _ (getD_mem (by rw [st.1]; exact hk))]; exact hk) ?_
    rw [Int.toNat_natCast]
    exact ⟨Same.refl _, .int _⟩
  · kct_strs
    rw [show ((List.range t.length).map fun k => D.int (at2 t k k)) = ((List.range t.length).map fun k => at2 t k k).map D.int by rw [List.map_map]; rfl] at r
    refine callw_sum rfl hp2 r ?_
    exact q _ s2
def ia (k : Nat) : Nat := if k = 0 then 1 else 0
def ib (k : Nat) : Nat := if k = 2 then 1 else 2
def low3 (t : List (List Int)) (k : Nat) : Int := at2 t 1 (ia k) * at2 t 2 (ib k) - at2 t 1 (ib k) * at2 t 2 (ia k)
def tot3 (t : List (List Int)) : Nat → Int
  | 0 => 0
  | k + 1 => tot3 t k + (if k ≠ 1 then low3 t k else -low3 t k) * at2 t 0 k
/-- the determinant, as det makes it -/
def dt (t : List (List Int)) : Int := match t.length with
  | 1 => at2 t 0 0
  | 2 => at2 t 0 0 * at2 t 1 1 - at2 t 0 1 * at2 t 1 0
  | _ => tot3 t 3
def spDet (K : PySem.W.Frag) : Sp := fun vs H Q _ => ∃ (x : V) (t : List (List Int)) (n : Nat), vs = [x] ∧ Rp K H x (tD t) ∧ Rows n n t ∧ (1 ≤ n ∧ n ≤ 3) ∧ Sm (2 ^ 20) t ∧ ∀ H', Same H H' → Q (.int (dt t)) H'
theorem ix2 {X : Cx} {H : Hp} {Q : VK} {x : V} {t : List (List Int)} {n : Nat} {i k : Int} (rt : Rp X.K H x (tD t)) (st : Rows n n t) (hi : 0 ≤ i ∧ i < n) (hk : 0 ≤ k ∧ k < n) (q : Q (.int (at2 t i.toNat k.toNat)) H) : IxW X x (.int i) H fun y H1 => H1 = H ∧ IxW X y (.int k) H Q :=
  ixw_mt (d0 := []) rt hi.1 (by rw [st.1]; omega) fun w2 r2 => ⟨rfl, ixw_row r2 hk.1 (by rw [st.2 _ (getD_mem (by rw [st.1]; omega))]; omega) q⟩
theorem mul_sm {a b : Int} {B C : Nat} (h1 : a.natAbs < B) (h2 : b.natAbs < C) : (a * b).natAbs < B * C := by
  rw [Int.natAbs_mul]
  exact Nat.mul_lt_mul'' h1 h2
end
section
variable {P : Program} {w : World} {K : PySem.W.Frag} {mg : Str → Option Value} {base : Heap}
theorem ab3 {k : Nat} (hk : k < 3) : ((List.range 3).filterMap fun j : Nat => if j = k then none else some (D.int j)) = [D.int (ia k : Nat), D.int (ib k : Nat)] := by
  obtain rfl | rfl | rfl : k = 0 ∨ k = 1 ∨ k = 2 := by omega
  · rfl
  · rfl
  · rfl
theorem iab {k : Nat} (hk : k < 3) : ia k < 3 ∧ ib k < 3 := by
  unfold ia ib
  constructor <;> split <;> omega
theorem dt1 {t : List (List Int)} (h : t.length = 1) : dt t = at2 t 0 0 := by simp only [dt, h]
theorem dt2 {t : List (List Int)} (h : t.length = 2) : dt t = at2 t 0 0 * at2 t 1 1 - at2 t 0 1 * at2 t 1 0 := by simp only [dt, h]
theorem dt3 {t : List (List Int)} (h : t.length = 3) : dt t = tot3 t 3 := by simp only [dt, h]
theorem ok_det {f : Addr} {fd : FuncData} (F : Fun K "det" "det" (top 24) f fd) (m1 : mg "len" = none) (m2 : mg "range" = none) : FnOk P w K mg base CX0 1 f fd ["table"] (spDet K) := by
  refine okS F scDe (fun vs H Q E ⟨_, _, _, e, _⟩ => by rw [e]; rfl) ?_
  rintro cdv A outer s H _ Q E hr ⟨x, t, n, rfl, rt, st, hn, hB, q⟩ hN nd
  have sm : ∀ {i k : Nat}, i < n → k < n → (at2 t i k).natAbs < 2 ^ 20 := fun h1 h2 => hB.at st h1 h2
  change QB _ (_ :: _ :: (defBody (top 24)).drop 2) _ [some _, none, none, none, none, none, none] _
  kct_strs
  refine callw_len_t rt ?_
  rw [List.length_map, st.1]
  kct_strs
  refine ifd (fun e => ?_) (fun e => ?_)
  · have e : n = 1 := by omega
    subst e
    kct_strs
    refine ixw_mt (d0 := []) (rt) (by first | decide | omega) (by rw [(st).1]; first | (show 0 < _; omega) | omega) fun wz1 rz1 => ?_
    kct_strs
    refine ixw_row rz1 (by first | decide | omega) (by rw [(st).2 _ (getD_mem (by rw [(st).1]; first | (show 0 < _; omega) | omega))]; first | (show 0 < _; omega) | omega) ?_
    kct_strs
    have : dt t = at2 t 0 0 := dt1 st.1
    rw [← show at2 t 0 0 = (t.getD (Int.toNat 0) []).getD (Int.toNat 0) 0 from rfl, ← this]
    exact q _ (Same.refl _)
  · kct_strs
    refine callw_len_t rt ?_
    rw [List.length_map, st.1]
    kct_strs
    refine ifd (fun e => ?_) (fun e2 => ?_)
    · have e : n = 2 := by omega
      subst e
      have b1 := sm (i := 1) (k := 1) (by omega) (by omega)
      have b2 := sm (i := 1) (k := 0) (by omega) (by omega)
      kct_strs
      refine ixw_mt (d0 := []) (rt) (by first | decide | omega) (by rw [(st).1]; first | (show 0 < _; omega) | omega) fun wz2 rz2 => ?_
      kct_strs
      refine ixw_row rz2 (by first | decide | omega) (by rw [(st).2 _ (getD_mem (by rw [(st).1]; first | (show 0 < _; omega) | omega))]; first | (show 0 < _; omega) | omega) ?_
      kct_strs
      refine ixw_mt (d0 := []) (rt) (by first | decide | omega) (by rw [(st).1]; first | (show 1 < _; omega) | omega) fun wz3 rz3 => ?_
      kct_strs
      refine ixw_row rz3 (by first | decide | omega) (by rw [(st).2 _ (getD_mem (by rw [(st).1]; first | (show 1 < _; omega) | omega))]; first | (show 1 < _; omega) | omega) ?_
      kct_strs
      refine opw_mul (.inr (by show -(2 ^ 64) < at2 t 1 1 ∧ at2 t 1 1 < 2 ^ 64; omega)) ?_
      kct_strs
      refine ixw_mt (d0 := []) (rt) (by first | decide | omega) (by rw [(st).1]; first | (show 0 < _; omega) | omega) fun wz4 rz4 => ?_
      kct_strs
      refine ixw_row rz4 (by first | decide | omega) (by rw [(st).2 _ (getD_mem (by rw [(st).1]; first | (show 0 < _; omega) | omega))]; first | (show 1 < _; omega) | omega) ?_
      kct_strs
      refine ixw_mt (d0 := []) (rt) (by first | decide | omega) (by rw [(st).1]; first | (show 1 < _; omega) | omega) fun wz5 rz5 => ?_
      kct_strs
      refine ixw_row rz5 (by first | decide | omega) (by rw [(st).2 _ (getD_mem (by rw [(st).1]; first | (show 1 < _; omega) | omega))]; first | (show 0 < _; omega) | omega) ?_
      kct_strs
      refine opw_mul (.inr (by show -(2 ^ 64) < at2 t 1 0 ∧ at2 t 1 0 < 2 ^ 64; omega)) ?_
      kct_strs
      have : dt t = at2 t 0 0 * at2 t 1 1 - at2 t 0 1 * at2 t 1 0 := dt2 st.1
      have q' := q H (Same.refl _)
      rw [this] at q'
      exact q'
    · have e : n = 3 := by omega
      subst e
      kct_strs
      change QB _ (_ :: (Stmt.For _ _ _ [] _) :: (defBody (top 24)).drop 4) _ _ _
      kct_strs
      refine ⟨by omega, fun k σ H' => Same H H' ∧ ∃ o1 o2 o3 o4 : Option V, σ = [some x, some (.int (tot3 t k)), o1, o2, o3, o4, none], ⟨Same.refl _, _, _, _, _, rfl⟩, ?_, ?_⟩
      · rintro k σ1 H1 hk ⟨s1, o1, o2, o3, o4, rfl⟩
        have hk : k < 3 := by omega
        have rt1 := rt.to s1
        show QG _ _ _ _ _ _
        kct_strs
        fin_range_step
        kct_strs
        refine ⟨by decide, fun j => if j = k then none else some (.int (j : Nat)), fun j _ d e => ?_, fun j H2 hj s2 => ?_, fun p H2 ys s2 hp hp2 r => ?_⟩
        · dsimp only at e
          split at e <;> cases e
          rfl
        · intro s0 H00 C0 cl fp
          kct_strs
          refine ⟨fun e => ?_, fun e => ?_⟩
          · have hne : j ≠ k := by
              rintro rfl
              simp at e
            intro s0 H00 C0 cl fp
            kct_strs
            exact ⟨Same.refl _, _, by dsimp only; rw [if_neg hne], .int _⟩
          · have he : j = k := by
              have : ((j : Int) = (k : Int)) := by simpa using e
              omega
            exact ⟨Same.refl _, by dsimp only; rw [if_pos he]⟩
        · rw [ab3 hk] at r
          have e2 : ys = [V.int (ia k : Nat), V.int (ib k : Nat)] := RpAll.ints_inv (ns := [(ia k : Nat), (ib k : Nat)]) r
          subst e2
          obtain ⟨i1, i2⟩ := iab hk
          have rt2 := rt1.to s2
          kct_strs
          refine wg_lst rfl (.inl (.inl hp2)) rfl rfl ?_
          kct_strs
          refine ixw_mt (d0 := []) (rt2) (by first | decide | omega) (by rw [(st).1]; first | (show 1 < _; omega) | omega) fun wz6 rz6 => ?_
          kct_strs
          refine ixw_row rz6 (by first | decide | omega) (by rw [(st).2 _ (getD_mem (by rw [(st).1]; first | (show 1 < _; omega) | omega))]; first | (show Int.toNat ((ia k : Nat)) < _; omega) | omega) ?_
          kct_strs
          refine ixw_mt (d0 := []) (rt2) (by first | decide | omega) (by rw [(st).1]; first | (show 2 < _; omega) | omega) fun wz7 rz7 => ?_
          kct_strs
          refine ixw_row rz7 (by first | decide | omega) (by rw [(st).2 _ (getD_mem (by rw [(st).1]; first | (show 2 < _; omega) | omega))]; first | (show Int.toNat ((ib k : Nat)) < _; omega) | omega) ?_
          kct_strs
          have c1 : (t.getD (Int.toNat 1) []).getD (Int.toNat (ia k : Nat)) 0 = at2 t 1 (ia k) := by rw [Int.toNat_natCast]; rfl
          have c2 : (t.getD (Int.toNat 2) []).getD (Int.toNat (ib k : Nat)) 0 = at2 t 2 (ib k) := by rw [Int.toNat_natCast]; rfl
          have c3 : (t.getD (Int.toNat 1) []).getD (Int.toNat (ib k : Nat)) 0 = at2 t 1 (ib k) := by rw [Int.toNat_natCast]; rfl
          have c4 : (t.getD (Int.toNat 2) []).getD (Int.toNat (ia k : Nat)) 0 = at2 t 2 (ia k) := by rw [Int.toNat_natCast]; rfl
          have c5 : (t.getD (Int.toNat 0) []).getD (Int.toNat (k : Nat)) 0 = at2 t 0 k := by rw [Int.toNat_natCast]; rfl
          have b1 := sm (i := 2) (k := ib k) (by omega) i2
          have b2 := sm (i := 2) (k := ia k) (by omega) i1
          have b3 := sm (i := 0) (k := k) (by omega) hk
          rw [c1, c2]
          refine opw_mul (.inr (by omega)) ?_
          kct_strs
          refine ixw_mt (d0 := []) (rt2) (by first | decide | omega) (by rw [(st).1]; first | (show 1 < _; omega) | omega) fun wz8 rz8 => ?_
          kct_strs
          refine ixw_row rz8 (by first | decide | omega) (by rw [(st).2 _ (getD_mem (by rw [(st).1]; first | (show 1 < _; omega) | omega))]; first | (show Int.toNat ((ib k : Nat)) < _; omega) | omega) ?_
          kct_strs
          refine ixw_mt (d0 := []) (rt2) (by first | decide | omega) (by rw [(st).1]; first | (show 2 < _; omega) | omega) fun wz9 rz9 => ?_
          kct_strs
          refine ixw_row rz9 (by first | decide | omega) (by rw [(st).2 _ (getD_mem (by rw [(st).1]; first | (show 2 < _; omega) | omega))]; first | (show Int.toNat ((ia k : Nat)) < _; omega) | omega) ?_
          kct_strs
          rw [c3, c4]
          refine opw_mul (.inr (by omega)) ?_
          kct_strs
          have nx : ∀ y : Int, y = (if k ≠ 1 then low3 t k else -low3 t k) * at2 t 0 k → ∃ o1 o2 o3 o4 : Option V, [some x, some (V.int (tot3 t k + y)), some (.int (k : Nat)), some (.int (ia k : Nat)), some (.int (ib k : Nat)), some (.int (low3 t k)), none] = [some x, some (.int (tot3 t (k + 1))), o1, o2, o3, o4, none] := by
            rintro y rfl
            exact ⟨_, _, _, _, rfl⟩
          refine ifn (fun e => ?_) (fun e => ?_)
          · kct_strs
            refine ixw_mt (d0 := []) (rt2) (by first | decide | omega) (by rw [(st).1]; first | (show 0 < _; omega) | omega) fun wz10 rz10 => ?_
            kct_strs
            refine ixw_row rz10 (by first | decide | omega) (by rw [(st).2 _ (getD_mem (by rw [(st).1]; first | (show 0 < _; omega) | omega))]; first | (show Int.toNat ((k : Nat)) < _; omega) | omega) ?_
            kct_strs
            rw [c5]
            refine opw_mul (.inr (by omega)) ?_
            kct_strs
            exact ⟨s1.trans s2, nx _ (by rw [if_pos (by omega)]; rfl)⟩
          · kct_strs
            refine ixw_mt (d0 := []) (rt2) (by first | decide | omega) (by rw [(st).1]; first | (show 0 < _; omega) | omega) fun wz11 rz11 => ?_
            kct_strs
            refine ixw_row rz11 (by first | decide | omega) (by rw [(st).2 _ (getD_mem (by rw [(st).1]; first | (show 0 < _; omega) | omega))]; first | (show Int.toNat ((k : Nat)) < _; omega) | omega) ?_
            kct_strs
            rw [c5]
            refine opw_mul (.inr (by omega)) ?_
            kct_strs
            exact ⟨s1.trans s2, nx _ (by rw [if_neg (by omega)]; rfl)⟩
      · rintro σ1 H1 ⟨s1, o1, o2, o3, o4, rfl⟩
        change QB _ (_ :: []) _ _ _
        kct_strs
        have : dt t = tot3 t 3 := dt3 st.1
        rw [← show tot3 t 3 = tot3 t (Int.toNat 3) from rfl, ← this]
        exact q _ s1
end
section
variable {P : Program} {w : World} {K : PySem.W.Frag} {mg : Str → Option Value} {base : Heap}
def sg (k : Int) : Int := if k % 2 = 0 then 1 else -1
def spSg : Sp := fun vs H Q _ => ∃ k : Int, vs = [.int k] ∧ Q (.int (sg k)) H
theorem ok_sign {f : Addr} {fd : FuncData} (F : Fun K "sign" "sign" (top 28) f fd) : FnOk P w K mg base CX0 1 f fd ["k"] spSg := by
  refine okS F scSi (fun vs H Q E ⟨_, e, _⟩ => by rw [e]; rfl) ?_
  rintro cdv A outer s H _ Q E hr ⟨k, rfl, q⟩ hN nd
  change QB _ (_ :: []) _ [some _] _
  kct_strs
  refine opw_mod (by decide) ?_
  kct_strs
  unfold sg at q
  refine ifd (fun e => ?_) (fun e => ?_)
  · kct_strs
    rw [if_pos e] at q
    exact q
  · kct_strs
    rw [if_neg e] at q
    exact q
/-- without a row and a column -/
def cutT (t : List (List Int)) (i k : Nat) : List (List Int) := (t.eraseIdx i).map fun r => r.eraseIdx k
def mn (t : List (List Int)) (i k : Nat) : Int := if t.length = 2 then at2 (cutT t i k) 0 0 else dt (cutT t i k)
def spMin (K : PySem.W.Frag) : Sp := fun vs H Q _ => ∃ (x : V) (t : List (List Int)) (n i k : Nat), vs = [x, .int i, .int k] ∧ Rp K H x (tD t) ∧ Rows n n t ∧ (n = 2 ∨ n = 3) ∧ (i < n ∧ k < n) ∧ Sm (2 ^ 20) t ∧ ∀ H', Same H H' → Q (.int (mn t i k)) H'
theorem scMi : FnScope ["table", "i", "k", "rows", "j", "row"] ["table", "i", "k"] (defScope (top 29)) := ⟨rfl, rfl, rfl, by decide +kernel, rfl, by decide +kernel, by decide +kernel⟩
theorem erase_td {r : List Int} {k : Nat} (h : k < r.length) : (r.map D.int).take k ++ (r.map D.int).drop (k + 1) = (r.eraseIdx k).map D.int := by
  rw [List.eraseIdx_eq_take_drop_succ, List.map_append, List.map_take, List.map_drop]
theorem bits_erase {t : List (List Int)} {n i : Nat} (hn : n = 2 ∨ n = 3) (h : t.length = n) (hi : i < n) (g : List Int → D) : (bits t.length fun j => (t[j]?).bind fun r => if j = i then none else some (g r)) = (t.eraseIdx i).map g := by
  unfold bits
  rcases hn with rfl | rfl
  · obtain ⟨a, b, rfl⟩ : ∃ a b, t = [a, b] := by
      match t, h with
      | [a, b], _ => exact ⟨a, b, rfl⟩
    obtain rfl | rfl : i = 0 ∨ i = 1 := by omega
    · rfl
    · rfl
  · obtain ⟨a, b, c, rfl⟩ : ∃ a b c, t = [a, b, c] := by
      match t, h with
      | [a, b, c], _ => exact ⟨a, b, c, rfl⟩
    obtain rfl | rfl | rfl : i = 0 ∨ i = 1 ∨ i = 2 := by omega
    · rfl
    · rfl
    · rfl
theorem cut_rows {t : List (List Int)} {n i k : Nat} (h : Rows (n + 1) (n + 1) t) (hi : i < n + 1) (hk : k < n + 1) : Rows n n (cutT t i k) := by
  refine ⟨?_, fun r hr => ?_⟩
  · unfold cutT
    rw [List.length_map, List.length_eraseIdx, h.1, if_pos hi]
    omega
  · unfold cutT at hr
    obtain ⟨r', h1, rfl⟩ := List.mem_map.mp hr
    rw [List.length_eraseIdx, h.2 _ (List.mem_of_mem_eraseIdx h1), if_pos hk]
    omega
theorem cut_sm {t : List (List Int)} {B i k : Nat} (h : Sm B t) : Sm B (cutT t i k) := by
  intro r hr x hx
  unfold cutT at hr
  obtain ⟨r', h1, rfl⟩ := List.mem_map.mp hr
  exact h _ (List.mem_of_mem_eraseIdx h1) _ (List.mem_of_mem_eraseIdx hx)
theorem ok_minor {f : Addr} {fd : FuncData} (F : Fun K "minor" "minor" (top 29) f fd) (m1 : mg "len" = none) (m2 : mg "enumerate" = none) (m3 : mg "tuple" = none) (c1 : Cal P w K mg base 1 "det" (spDet K) []) : FnOk P w K mg base CX0 2 f fd ["table", "i", "k"] (spMin K) := by
  refine okS F scMi (fun vs H Q E ⟨_, _, _, _, _, e, _⟩ => by rw [e]; rfl) ?_
  rintro cdv A outer s H _ Q E hr ⟨x, t, n, i, k, rfl, rt, st, hn, ⟨hi, hk⟩, hB, q⟩ hN nd
  have hz : (1000 : Nat) < sizeLine := by decide
  change QB _ (_ :: _ :: []) _ [some _, some _, some _, none, none, none] _
  refine wss_cons ?_
  refine ws_set1 (own := [("j", 4), ("row", 5)]) (by infer_instance) hN rfl rfl nd rfl rfl ⟨rfl, of_decide_eq_true (by kernel_rfl), of_decide_eq_true (by kernel_rfl), of_decide_eq_true (by kernel_rfl), of_decide_eq_true (by kernel_rfl)⟩ (fun _ => rfl) ?_
  fin_places
  kct_strs
  refine ⟨List Int, true, t, rD, fun j r => if j = i then none else some (rD (r.eraseIdx k)), rt, by rw [st.1]; omega, fun j r d e => ?_, fun j r u H2 hj s2 rr => ?_, fun p H2 ys s2 hp hp2 r => ?_⟩
  · dsimp only at e
    split at e <;> cases e
    exact ints_im _
  · have hr := st.2 r (List.mem_of_getElem? hj)
    intro s0 H00 C0 cl fp
    kct_strs
    refine ⟨fun e => ?_, fun e => ?_⟩
    · have hne : j ≠ i := by
        rintro rfl
        simp at e
      intro s0 H00 C0 cl fp
      kct_strs
      refine we_slHiT ?_
      kct_strs
      refine ⟨_, k, rfl, by rw [List.length_map, hr]; exact hk, rr, fun v3 H3 s3 r3 => ?_⟩
      refine we_slLoT ?_
      kct_strs
      refine ⟨_, k + 1, by simp, by rw [List.length_map, hr]; omega, rr.to s3, fun v4 H4 s4 r4 => ?_⟩
      refine opw_catT (r3.to s4) r4 (by simp; omega) fun v5 H5 s5 r5 => ?_
      refine ⟨s3.trans (s4.trans s5), _, by dsimp only; rw [if_neg hne], ?_⟩
      rw [erase_td (by rw [hr]; exact hk)] at r5
      exact r5
    · have he : j = i := by
        have : ((j : Int) = (i : Int)) := by simpa using e
        omega
      exact ⟨Same.refl _, by dsimp only; rw [if_pos he]⟩
  · rw [bits_erase hn st.1 hi] at r
    have r2 : Rp K H2 (.ref p) (.lst ((cutT t i k).map rD)) := by
      unfold cutT
      rw [List.map_map]
      exact .lstOf hp2 r
    have lc : (cutT t i k).length = n - 1 := by
      rcases hn with rfl | rfl
      · exact (cut_rows st hi hk).1
      · exact (cut_rows st hi hk).1
    kct_strs
    refine callw_len_l r2 ?_
    rw [List.length_map, lc]
    kct_strs
    refine ifd (fun e => ?_) (fun e => ?_)
    · have e : n = 2 := by omega
      subst e
      have sc := cut_rows (n := 1) st hi hk
      kct_strs
      refine ixw_ml (d0 := []) r2 (by decide) (by rw [sc.1]; decide) fun w3 r3 => ?_
      kct_strs
      refine ixw_row r3 (by decide) (by rw [sc.2 _ (getD_mem (by rw [sc.1]; decide))]; decide) ?_
      have q' := q H2 s2
      unfold mn at q'
      rw [if_pos st.1] at q'
      exact q'
    · have e : n = 3 := by omega
      subst e
      have sc := cut_rows (n := 2) st hi hk
      kct_strs
      refine callw_tuple_l r2 fun v4 H4 s4 r4 => ?_
      kct_strs
      refine ⟨v4, cutT t i k, 2, rfl, r4, sc, by omega, cut_sm hB, fun H5 s5 => ?_⟩
      have q' := q H5 (s2.trans (s4.trans s5))
      unfold mn at q'
      rw [if_neg (by rw [st.1]; decide)] at q'
      exact q'
end
section
variable {P : Program} {w : World} {K : PySem.W.Frag} {mg : Str → Option Value} {base : Heap}
def rlen : D → Nat
  | .tup ds => ds.length
  | _ => 0
def lit : D → Bool
  | .int i => decide ((if i < 0 then -i else i) ≤ 1000000)
  | _ => false
def big : D → Bool
  | .tup ds => ds.all lit
  | _ => false
def itb : D → Bool
  | .tup ds => decide (1 ≤ ds.length ∧ ds.length ≤ 3) && (ds.all (fun r => wr r && decide (rlen r = ds.length)) && ds.all big)
  | _ => false
def tys2 : D → Prop
  | .tup ds => ds.length < 1000 ∧ ∀ r ∈ ds, r.ty.isSome = true ∧ tysAll r
  | _ => True
def spTab (K : PySem.W.Frag) : Sp := fun vs H Q _ => ∃ v d, vs = [v] ∧ Rp K H v d ∧ d.ty.isSome = true ∧ tys2 d ∧ ∀ H', Same H H' → Q (.bl (itb d)) H'
theorem scIt : FnScope ["value", "row", "x"] ["value"] (defScope (top 16)) := ⟨rfl, rfl, rfl, by decide +kernel, rfl, by decide +kernel, by decide +kernel⟩
theorem ok_is_table {f : Addr} {fd : FuncData} {t3 tM : Tok} (F : Fun K "is_table" "is_table" (top 16) f fd) (c1 : Cal P w K mg base 2 "is_whole_row" (spRow K) []) (m1 : mg "isinstance" = none) (m2 : mg "tuple" = none) (m3 : mg "all" = none) (m4 : mg "len" = none) (m5 : mg "abs" = none) (g3 : mg "MOST_WIDE" = some (.int 3 t3)) (gM : mg "MOST_ITEM" = some (.int 1000000 tM)) : FnOk P w K mg base CX0 3 f fd ["value"] (spTab K) := by
  refine okS F scIt (fun vs H Q E ⟨_, _, e, _⟩ => by rw [e]; rfl) ?_
  rintro cdv A outer s H _ Q E hr ⟨v, d, rfl, rp, hd, ht, q⟩ hN nd
  have hz : (1000 : Nat) < sizeLine := by decide
  change QB _ (_ :: _ :: (defBody (top 16)).drop 2) _ [some _, none, none] _
  kct_strs
  refine ifnb (fun e1 => ?_) (fun e1 => ?_)
  · kct_strs
    have : itb d = false := by cases d <;> first | rfl | cases e1
    rw [this] at q
    rw [if_pos rfl]
    kct_strs
    exact q _ (Same.refl _)
  · cases d <;> cases e1
    rename_i ds
    obtain ⟨hl, hy⟩ := ht
    kct_strs
    refine callw_len_t rp ?_
    have out : ∀ H', Same H H' → ¬ (1 ≤ ds.length ∧ ds.length ≤ 3) → Q (.bl false) H' := fun H' s' hn => by
      have : itb (.tup ds) = false := by simp only [itb, decide_eq_false hn, Bool.false_and]
      rw [← this]
      exact q _ s'
    kct_strs
    refine ifd (fun e2 => ?_) (fun e2 => ?_)
    · kct_strs
      refine ifn (fun e3 => ?_) (fun e3 => ?_)
      · kct_strs
        exact out _ (Same.refl _) (by omega)
      · kct_strs
        mem_news
        kct_strs
        refine ⟨ds, rp, by omega, fun r => .bl (wr r && decide (rlen r = ds.length)), ⟨fun _ _ => rfl, fun r u H2 hd s2 rr => ?_⟩, fun p H2 ys s2 hp hp2 r => ?_⟩
        · have rp2 := rp.to s2
          obtain ⟨y1, y2⟩ := hy r hd
          intro s H0 C cl fp
          kct_strs
          refine ⟨_, _, rfl, rr, y1, y2, fun H3 s3 => ?_⟩
          kct_strs
          refine ifb (fun e4 => ?_) (fun e4 => ?_)
          · obtain ⟨es, rfl⟩ : ∃ es, r = .tup es := by
              cases r <;> first | exact ⟨_, rfl⟩ | cases e4
            kct_strs
            refine callw_len_t (rr.to s3) ?_
            kct_strs
            refine callw_len_t (rp2.to s3) ?_
            kct_strs
            refine ⟨s3, ?_⟩
            dsimp only
            rw [e4, Bool.true_and]
            show Rp _ _ _ (.bl (decide (es.length = ds.length)))
            rw [show decide ((es.length : Int) = (ds.length : Int)) = decide (es.length = ds.length) from by rw [decide_eq_decide]; omega]
            exact .bl _
          · refine ⟨s3, ?_⟩
            dsimp only
            rw [e4]
            exact .bl _
        · kct_strs
          rw [show ds.map (fun r => D.bl (wr r && decide (rlen r = ds.length))) = (ds.map fun r => wr r && decide (rlen r = ds.length)).map D.bl by rw [List.map_map]; rfl] at r
          have e5 : ((ds.map fun r => wr r && decide (rlen r = ds.length)).all id) = ds.all (fun r => wr r && decide (rlen r = ds.length)) := by rw [List.all_map]; rfl
          have e0 : decide (1 ≤ ds.length ∧ ds.length ≤ 3) = true := decide_eq_true ⟨by omega, by omega⟩
          refine callw_all rfl hp2 r ?_
          rw [e5]
          kct_strs
          refine ifnb (fun e4 => ?_) (fun e4 => ?_)
          · kct_strs
            have : itb (.tup ds) = false := by simp only [itb, e4, Bool.false_and, Bool.and_false]
            rw [← this]
            exact q _ s2
          · have e6 : itb (.tup ds) = ds.all big := by simp only [itb, e4, e0, Bool.true_and]
            have rp2 := rp.to s2
            kct_strs
            change QB _ (_ :: []) _ _ _
            kct_strs
            mem_news
            kct_strs
            refine ⟨ds, rp2, by omega, fun r => .bl (big r), ⟨fun _ _ => rfl, fun r u H3 hd s3 rr => ?_⟩, fun p H3 ys s3 hp hp2 r => ?_⟩
            · have wd := List.all_eq_true.mp e4 r hd
              have w1 : wr r = true := (Bool.and_eq_true_iff.mp wd).1
              obtain ⟨es, rfl⟩ : ∃ es, r = .tup es := by
                cases r <;> first | exact ⟨_, rfl⟩ | cases w1
              have hes : es.length < 1000 := (hy _ hd).2.2
              intro s0 H00 C0 cl fp
              kct_strs
              mem_news
              kct_strs
              refine ⟨es, rr, by omega, fun e => .bl (lit e), ⟨fun _ _ => rfl, fun e u H4 he s4 re => ?_⟩, fun p H4 ys s4 hp hp2 r => ?_⟩
              · have w2 : e.whole = true := List.all_eq_true.mp w1 e he
                obtain ⟨i, rfl⟩ : ∃ i, e = .int i := by
                  cases e <;> first | exact ⟨_, rfl⟩ | cases w2
                obtain rfl := re.int_inv
                intro s0 H00 C0 cl fp
                kct_strs
                exact ⟨Same.refl _, .bl _⟩
              · kct_strs
                rw [show es.map (fun e => D.bl (lit e)) = (es.map lit).map D.bl by rw [List.map_map]; rfl] at r
                refine callw_all rfl hp2 r ?_
                have e7 : ((es.map lit).all id) = big (.tup es) := by rw [List.all_map]; rfl
                rw [e7]
                exact ⟨s4, .bl _⟩
            · kct_strs
              rw [show ds.map (fun r => D.bl (big r)) = (ds.map big).map D.bl by rw [List.map_map]; rfl] at r
              refine callw_all rfl hp2 r ?_
              have e7 : ((ds.map big).all id) = ds.all big := by rw [List.all_map]; rfl
              rw [e7, ← e6]
              exact q _ (s2.trans s3)
    · kct_strs
      rw [if_pos (by decide)]
      kct_strs
      exact out _ (Same.refl _) (by omega)
end
section
variable {P : Program} {w : World} {K : PySem.W.Frag} {mg : Str → Option Value} {base : Heap}
theorem whole_int {e : D} (h : e.whole = true) : ∃ i, e = .int i := by
  cases e <;> first | exact ⟨_, rfl⟩ | cases h
theorem all_ints : ∀ {es : List D}, es.all D.whole = true → ∃ r : List Int, es = r.map D.int
  | [], _ => ⟨[], rfl⟩
  | e :: es, h => by
    rw [List.all_cons, Bool.and_eq_true_iff] at h
    obtain ⟨i, rfl⟩ := whole_int h.1
    obtain ⟨r, rfl⟩ := all_ints h.2
    exact ⟨i :: r, rfl⟩
theorem wr_row {d : D} (h : wr d = true) : ∃ r, d = rD r := by
  obtain ⟨es, rfl⟩ : ∃ es, d = .tup es := by
    cases d <;> first | exact ⟨_, rfl⟩ | cases h
  obtain ⟨r, rfl⟩ := all_ints (es := es) h
  exact ⟨r, rfl⟩
theorem rows_tab : ∀ {ds : List D}, ds.all wr = true → ∃ t : List (List Int), ds = t.map rD
  | [], _ => ⟨[], rfl⟩
  | d :: ds, h => by
    rw [List.all_cons, Bool.and_eq_true_iff] at h
    obtain ⟨r, rfl⟩ := wr_row h.1
    obtain ⟨t, rfl⟩ := rows_tab h.2
    exact ⟨r :: t, rfl⟩
/-- what is a table -/
theorem itb_tab {d : D} (h : itb d = true) : ∃ n t, d = tD t ∧ Rows n n t ∧ (1 ≤ n ∧ n ≤ 3) ∧ Sm (2 ^ 20) t := by
  obtain ⟨ds, rfl⟩ : ∃ ds, d = .tup ds := by
    cases d <;> first | exact ⟨_, rfl⟩ | cases h
  simp only [itb, Bool.and_eq_true_iff, decide_eq_true_eq] at h
  obtain ⟨h1, h2, h3⟩ := h
  have hw : ds.all wr = true := List.all_eq_true.mpr fun r hr => (Bool.and_eq_true_iff.mp (List.all_eq_true.mp h2 r hr)).1
  obtain ⟨t, rfl⟩ := rows_tab hw
  refine ⟨t.length, t, rfl, ⟨rfl, fun r hr => ?_⟩, by rw [List.length_map] at h1; exact h1, fun r hr x hx => ?_⟩
  · have := (Bool.and_eq_true_iff.mp (List.all_eq_true.mp h2 (rD r) (List.mem_map_of_mem hr))).2
    have := of_decide_eq_true this
    rw [List.length_map] at this
    rw [← this]
    show r.length = (r.map D.int).length
    rw [List.length_map]
  · have h4 : (r.map D.int).all lit = true := List.all_eq_true.mp h3 (rD r) (List.mem_map_of_mem hr)
    have h5 : lit (D.int x) = true := List.all_eq_true.mp h4 _ (List.mem_map_of_mem hx)
    have h6 := of_decide_eq_true h5
    have : (if x < 0 then -x else x) = (x.natAbs : Int) := by split <;> omega
    rw [this] at h6
    omega
theorem tab_itb {n : Nat} {t : List (List Int)} (st : Rows n n t) (hn : 1 ≤ n ∧ n ≤ 3) (hB : Sm 1000001 t) : itb (tD t) = true := by
  simp only [itb, Bool.and_eq_true_iff, decide_eq_true_eq, List.length_map]
  refine ⟨by rw [st.1]; exact hn, List.all_eq_true.mpr fun d hd => ?_, List.all_eq_true.mpr fun d hd => ?_⟩
  · obtain ⟨r, hr, rfl⟩ := List.mem_map.mp hd
    rw [Bool.and_eq_true_iff]
    refine ⟨List.all_eq_true.mpr fun e he => ?_, decide_eq_true ?_⟩
    · obtain ⟨i, _, rfl⟩ := List.mem_map.mp he
      rfl
    · show (r.map D.int).length = _
      rw [List.length_map, st.2 r hr, st.1]
  · obtain ⟨r, hr, rfl⟩ := List.mem_map.mp hd
    refine List.all_eq_true.mpr fun e he => ?_
    obtain ⟨i, hi, rfl⟩ := List.mem_map.mp he
    have := hB r hr i hi
    refine decide_eq_true ?_
    split <;> omega
theorem tab_tys {n : Nat} {t : List (List Int)} (st : Rows n n t) (hn : n ≤ 100) : (tD t).ty.isSome = true ∧ tys2 (tD t) := by
  refine ⟨rfl, ?_, fun d hd => ?_⟩
  · rw [List.length_map, st.1]
    omega
  · obtain ⟨r, hr, rfl⟩ := List.mem_map.mp hd
    refine ⟨rfl, fun e he => ?_, ?_⟩
    · obtain ⟨i, _, rfl⟩ := List.mem_map.mp he
      rfl
    · rw [List.length_map, st.2 r hr]
      omega
def spCT (K : PySem.W.Frag) (M : Addr) : Sp := fun vs H Q E => ∃ v d, vs = [v] ∧ Rp K H v d ∧ d.ty.isSome = true ∧ tys2 d ∧ (itb d = true → ∀ H', Same H H' → Q .non H') ∧ (itb d = false → ∀ H', Same H H' → E (.ref M) none H')
theorem scCT : FnScope ["value"] ["value"] (defScope (top 17)) := ⟨rfl, rfl, rfl, by decide +kernel, rfl, by decide +kernel, by decide +kernel⟩
theorem scWT : FnScope ["value"] ["value"] (defScope (top 26)) := ⟨rfl, rfl, rfl, by decide +kernel, rfl, by decide +kernel, by decide +kernel⟩
theorem scUn : FnScope ["table", "d", "wide", "i", "k"] ["table"] (defScope (top 27)) := ⟨rfl, rfl, rfl, by decide +kernel, rfl, by decide +kernel, by decide +kernel⟩
theorem ok_check_table {f Fa M R C : Addr} {fd : FuncData} (F : Fun K "check_table" "check_table" (top 17) f fd) (T : Cls4 K mg Fa M R C) (c1 : Cal P w K mg base 3 "is_table" (spTab K) []) : FnOk P w K mg base (L2.CX P w) 4 f fd ["value"] (spCT K M) := by
  refine okXS F scCT (fun vs H Q E ⟨_, _, e, _⟩ => by rw [e]; rfl) ?_
  rintro cdv A outer s H _ Q E hr ⟨v, d, rfl, rp, hd, ht, q, qM⟩ hN nd tk
  change QB _ (_ :: []) _ [some _] _
  kct_strs
  refine ⟨_, _, rfl, rp, hd, ht, fun H1 s1 => ?_⟩
  kct_strs
  refine ifnb (fun e => ?_) (fun e => ?_)
  · kct_strs
    exact ws_raise rfl tk PySem.F.excBase_ValueError T.xM T.gM T.kM (raises_own T.bM T.tM) rfl (qM e H1 s1)
  · kct_strs
    exact q e H1 s1
def spWT (K : PySem.W.Frag) : Sp := fun vs H Q _ => ∃ v d, vs = [v] ∧ Rp K H v d ∧ d.ty.isSome = true ∧ tys2 d ∧ (itb d = false → ∀ H', Same H H' → Q (.bl false) H') ∧ (∀ t, d = tD t → itb d = true → ∀ H', Same H H' → Q (.bl (decide (dt t ∈ [(1 : Int), -1]))) H')
theorem ok_whole_turn {f : Addr} {fd : FuncData} (F : Fun K "is_whole_turn" "is_whole_turn" (top 26) f fd) (c1 : Cal P w K mg base 3 "is_table" (spTab K) []) (c2 : Cal P w K mg base 1 "det" (spDet K) []) : FnOk P w K mg base CX0 4 f fd ["value"] (spWT K) := by
  refine okS F scWT (fun vs H Q E ⟨_, _, e, _⟩ => by rw [e]; rfl) ?_
  rintro cdv A outer s H _ Q E hr ⟨v, d, rfl, rp, hd, ht, q1, q2⟩ hN nd
  change QB _ (_ :: []) _ [some _] _
  kct_strs
  refine ⟨_, _, rfl, rp, hd, ht, fun H1 s1 => ?_⟩
  kct_strs
  refine ifb (fun e => ?_) (fun e => ?_)
  · obtain ⟨n, t, rfl, st, hn, hB⟩ := itb_tab e
    kct_strs
    refine we_cmp rfl ?_
    kct_strs
    refine ⟨v, t, n, rfl, rp.to s1, st, hn, hB, fun H2 s2 => ?_⟩
    kct_strs
    refine ⟨Nat.le_of_ble_eq_true rfl, fun p H3 hp s3 e3 => ?_⟩
    refine opw_inI (ns := [1, -1]) e3 ?_
    exact q2 t rfl e _ (s1.trans (s2.trans s3))
  · exact q1 e _ s1
/-- what undoes a table -/
def und (t : List (List Int)) : List (List Int) := if t.length = 1 then [[dt t]] else (List.range t.length).map fun i : Nat => (List.range t.length).map fun k : Nat => dt t * sg ((i : Int) + (k : Int)) * mn t k i
def spUnd (K : PySem.W.Frag) (M R : Addr) : Sp := fun vs H Q E => ∃ v d, vs = [v] ∧ Rp K H v d ∧ d.ty.isSome = true ∧ tys2 d ∧ (itb d = false → ∀ H', Same H H' → E (.ref M) none H') ∧
  (∀ t, d = tD t → itb d = true → dt t ∉ [(1 : Int), -1] → ∀ x H', Same H H' → H' x = some (.xd [("reason", .str "determinant")]) → E (.ref R) (some x) H') ∧
  (∀ t, d = tD t → itb d = true → dt t ∈ [(1 : Int), -1] → ∀ u H', Same H H' → Rp K H' u (tD (und t)) → Q u H')
theorem ok_undone {f fR Fa M R C : Addr} {fd fdR : FuncData} (F : Fun K "undone" "undone" (top 27) f fd) (T : Cls4 K mg Fa M R C) (c1 : CalX P w K mg base 4 "check_table" (spCT K M) []) (c2 : Cal P w K mg base 1 "det" (spDet K) []) (c3 : Cal P w K mg base 1 "sign" spSg []) (c4 : Cal P w K mg base 2 "minor" (spMin K) [])
    (FR : FnOk P w K mg base CX0 1 fR fdR ["self", "reason"] (spErr R "reason")) (iR : PySem.W.findIn K (.ref R) "__init__" = some (some (.ref fR))) (tR : PySem.W.typeIn K (.ref fR) = some (.type "function")) (bR : Binds K fdR ["self", "reason"] []) (m1 : mg "len" = none) (m2 : mg "tuple" = none) (m3 : mg "range" = none) :
    FnOk P w K mg base (L2.CX P w) 5 f fd ["table"] (spUnd K M R) := by
  refine okXS F scUn (fun vs H Q E ⟨_, _, e, _⟩ => by rw [e]; rfl) ?_
  rintro cdv A outer s H _ Q E hr ⟨v, d, rfl, rp, hd, ht, qM, qR, q⟩ hN nd tk
  change QB _ (_ :: _ :: _ :: _ :: (defBody (top 27)).drop 4) _ [some _, none, none, none, none] _
  kct_strs
  refine ⟨v, d, rfl, rp, hd, ht, fun e H1 s1 => ?_, fun e H1 s1 σ => qM e H1 s1⟩
  obtain ⟨n, t, rfl, st, hn, hB⟩ := itb_tab e
  have rt := rp.to s1
  kct_strs
  refine ⟨v, t, n, rfl, rt, st, hn, hB, fun H2 s2 => ?_⟩
  kct_strs
  have rt2 := rt.to s2
  refine callw_len_t rt2 ?_
  rw [List.length_map, st.1]
  kct_strs
  refine ⟨Nat.le_of_ble_eq_true rfl, fun p0 H30 hp0 s30 e30 => ?_⟩
  kct_strs
  refine wt_cmp rfl ?_
  kct_strs
  refine ⟨Nat.le_of_ble_eq_true rfl, fun p H3 hp s31 e3 => ?_⟩
  refine opw_ninI (ns := [1, -1]) e3 ?_
  have s3 := s30.trans s31
  have S3 := s1.trans (s2.trans s3)
  kct_strs
  refine ifn (fun h => ?_) (fun h => ?_)
  · kct_strs
    exact ws_raiseR rfl tk T.oR iR tR FR hr (by decide) bR rfl T.gR (fun x H' hx s' ex => qR t rfl e h x H' (S3.trans s') ex) (by decide) rfl rfl
  · have rt3 := rt2.to s3
    kct_strs
    refine ifd (fun e1 => ?_) (fun e1 => ?_)
    · have e1 : n = 1 := by omega
      subst e1
      kct_strs
      refine ⟨Nat.le_of_ble_eq_true rfl, fun p4 H4 hp4 s4 e4 => ?_⟩
      kct_strs
      refine ⟨Nat.le_of_ble_eq_true rfl, fun p5 H5 hp5 s5 e5 => ?_⟩
      refine q t rfl e h _ H5 (S3.trans (s4.trans s5)) ?_
      unfold und
      rw [if_pos st.1]
      exact .tupOf e5 (.cons (.tupOf (s5 _ _ e4) (.cons (.int _) .nil)) .nil)
    · have hn2 : n = 2 ∨ n = 3 := by omega
      have hd1 : dt t = 1 ∨ dt t = -1 := by simpa using h
      kct_strs
      change QB _ (_ :: []) _ _ _
      kct_strs
      fin_range
      kct_strs
      refine ⟨by omega, fun i => rD ((List.range n).map fun k : Nat => dt t * sg ((i : Int) + (k : Int)) * mn t k i), fun k _ => ints_im _, fun i H4 hi s4 => ?_, fun p H4 ys s4 hp hp2 r => ?_⟩
      · intro s0 H00 C0 cl fp
        kct_strs
        fin_range
        kct_strs
        refine ⟨by omega, fun k => .int (dt t * sg ((i : Int) + (k : Int)) * mn t k i), fun k _ => rfl, fun k H5 hk s5 => ?_, fun p H5 ys s5 hp hp2 r => ?_⟩
        · intro s0 H00 C0 cl fp
          kct_strs
          refine ⟨_, rfl, ?_⟩
          have hs : sg ((i : Int) + (k : Int)) = 1 ∨ sg ((i : Int) + (k : Int)) = -1 := by unfold sg; split <;> simp
          kct_strs
          refine opw_mul (.inl (by omega)) ?_
          kct_strs
          refine ⟨v, t, n, k, i, rfl, rt3.to (s4.trans s5), st, hn2, ⟨hk, hi⟩, hB, fun H6 s6 => ?_⟩
          refine opw_mul (.inl ?_) ?_
          · rcases hs with e5 | e5 <;> rcases hd1 with e6 | e6 <;> rw [e5, e6] <;> decide
          · exact ⟨s6, .int _⟩
        · kct_strs
          refine callw_tuple_l (.lstOf hp2 r) fun v H6 s6 r6 => ⟨s5.trans s6, ?_⟩
          dsimp only
          rw [rD_map]
          exact r6
      · kct_strs
        refine callw_tuple_l (.lstOf hp2 r) fun v H6 s6 r6 => ?_
        kct_strs
        refine q t rfl e h _ H6 (S3.trans (s4.trans s6)) ?_
        unfold und
        rw [if_neg (by rw [st.1]; omega), st.1, tD_map]
        exact r6
end
section
variable {P : Program} {w : World} {K : PySem.W.Frag} {mg : Str → Option Value} {base : Heap}
theorem plain_rows (n : Nat) : Rows n n (plain n) := by
  refine ⟨by simp [plain], fun r hr => ?_⟩
  unfold plain at hr
  obtain ⟨i, _, rfl⟩ := List.mem_map.mp hr
  simp
theorem turned_rows (n : Nat) : Rows n n (turned n) := by
  refine ⟨by simp [turned], fun r hr => ?_⟩
  unfold turned at hr
  obtain ⟨i, _, rfl⟩ := List.mem_map.mp hr
  simp
theorem mul_rows {a b : List (List Int)} {l n : Nat} (ha : Rows l n a) (hb : Rows n n b) (hn : 1 ≤ n) : Rows l n (mul a b) := by
  refine ⟨by unfold mul; rw [List.length_map]; exact ha.1, fun r hr => ?_⟩
  unfold mul at hr
  obtain ⟨r', _, rfl⟩ := List.mem_map.mp hr
  rw [List.length_map, List.length_range]
  exact hb.2 _ (getD_mem (by rw [hb.1]; omega))
theorem rD_inj {r r' : List Int} (h : rD r = rD r') : r = r' := by
  injection h with h
  exact List.map_inj_right (fun a b e => by injection e) |>.mp h
theorem tD_inj {t t' : List (List Int)} (h : tD t = tD t') : t = t' := by
  injection h with h
  exact List.map_inj_right (fun a b e => rD_inj e) |>.mp h
theorem rD_pure (r : List Int) : (rD r).pure = true ∧ (rD r).dep ≤ 1 := by
  have h : ∀ r : List Int, pureAll (r.map D.int) = true ∧ depAll (r.map D.int) ≤ 0 := by
    intro r
    induction r with
    | nil => exact ⟨rfl, Nat.le_refl _⟩
    | cons a r ih => exact ⟨by simp [pureAll, D.pure, ih.1], by simp [depAll, D.dep]; omega⟩
  exact ⟨by simp [D.pure, (h r).1], by have := (h r).2; simp [D.dep]; omega⟩
theorem tD_pure (t : List (List Int)) : (tD t).pure = true ∧ (tD t).dep ≤ 64 := by
  have h : ∀ t : List (List Int), pureAll (t.map rD) = true ∧ depAll (t.map rD) ≤ 1 := by
    intro t
    induction t with
    | nil => exact ⟨rfl, Nat.zero_le _⟩
    | cons a t ih =>
      refine ⟨by rw [List.map_cons]; unfold pureAll; rw [(rD_pure a).1, ih.1]; rfl, ?_⟩
      rw [List.map_cons]
      unfold depAll
      have := (rD_pure a).2
      omega
  refine ⟨?_, ?_⟩
  · show pureAll (t.map rD) = true
    exact (h t).1
  · show depAll (t.map rD) + 1 ≤ 64
    have := (h t).2
    omega
def pw (t : List (List Int)) : Nat → List (List Int)
  | 0 => plain t.length
  | k + 1 => mul (pw t k) t
theorem pw_rows {t : List (List Int)} {n : Nat} (h : Rows n n t) (hn : 1 ≤ n) : ∀ k, Rows n n (pw t k)
  | 0 => by unfold pw; rw [h.1]; exact plain_rows n
  | k + 1 => mul_rows (pw_rows h hn k) h hn
def spPow (K : PySem.W.Frag) : Sp := fun vs H Q _ => ∃ (v : V) (t : List (List Int)) (n k : Nat), vs = [v, .int k] ∧ Rp K H v (tD t) ∧ Rows n n t ∧ (1 ≤ n ∧ n ≤ 3) ∧ Sm (2 ^ 60) t ∧ k ≤ 1000 ∧ ∀ u H', Same H H' → Rp K H' u (tD (pw t k)) → Q u H'
theorem scPo : FnScope ["table", "k", "found", "_"] ["table", "k"] (defScope (top 30)) := ⟨rfl, rfl, rfl, by decide +kernel, rfl, by decide +kernel, by decide +kernel⟩
theorem scRe : FnScope ["table", "own", "k"] ["table"] (defScope (top 31)) := ⟨rfl, rfl, rfl, by decide +kernel, rfl, by decide +kernel, by decide +kernel⟩
theorem scWi : FnScope ["value"] ["value"] (defScope (top 33)) := ⟨rfl, rfl, rfl, by decide +kernel, rfl, by decide +kernel, by decide +kernel⟩
theorem ok_power {f : Addr} {fd : FuncData} (F : Fun K "table_power" "table_power" (top 30) f fd) (c1 : Cal P w K mg base 1 "plain_table" (spMk K plain) []) (c2 : Cal P w K mg base 1 "table_times" (spMul K) []) (m1 : mg "len" = none) (m2 : mg "range" = none) : FnOk P w K mg base CX0 2 f fd ["table", "k"] (spPow K) := by
  refine okS F scPo (fun vs H Q E ⟨_, _, _, _, e, _⟩ => by rw [e]; rfl) ?_
  rintro cdv A outer s H _ Q E hr ⟨v, t, n, k, rfl, rt, st, hn, hB, hk, q⟩ hN nd
  change QB _ (_ :: (Stmt.For _ _ _ [] _) :: (defBody (top 30)).drop 2) _ [some _, some _, none, none] _
  kct_strs
  refine callw_len_t rt ?_
  rw [List.length_map, st.1]
  kct_strs
  refine ⟨n, rfl, hn.2, fun v1 H1 s1 r1 => ?_⟩
  kct_strs
  refine ⟨by omega, fun j σ H' => Same H H' ∧ ∃ (u : V) (o : Option V), Rp K H' u (tD (pw t j)) ∧ σ = [some v, some (.int k), some u, o], ⟨s1, v1, none, by unfold pw; rw [st.1]; exact r1, rfl⟩, ?_, ?_⟩
  · rintro j σ1 H2 hj ⟨s2, u, o, ru, rfl⟩
    show QG _ _ _ _ _ _
    kct_strs
    refine ⟨u, v, pw t j, t, n, n, rfl, ru, rt.to s2, pw_rows st hn.1 j, st, hn, hn.2, hB, fun u2 H3 s3 r3 => ?_⟩
    kct_strs
    exact ⟨s2.trans s3, u2, _, r3, rfl⟩
  · rintro σ1 H2 ⟨s2, u, o, ru, rfl⟩
    rw [Int.toNat_natCast] at ru
    change QB _ (_ :: []) _ _ _
    kct_strs
    exact q u H2 s2 ru
def up (t : List (List Int)) : Nat → List (List Int)
  | 0 => t
  | k + 1 => mul (up t k) t
theorem up_rows {t : List (List Int)} {n : Nat} (h : Rows n n t) (hn : 1 ≤ n) : ∀ k, Rows n n (up t k)
  | 0 => h
  | k + 1 => mul_rows (up_rows h hn k) h hn
/-- k + 1 is the least number of repeats, when it is at most m -/
def First (t : List (List Int)) (k : Nat) : Prop := up t k = plain t.length ∧ ∀ j, j < k → up t j ≠ plain t.length
def spRep (K : PySem.W.Frag) (M : Addr) : Sp := fun vs H Q E => ∃ v d, vs = [v] ∧ Rp K H v d ∧ d.ty.isSome = true ∧ tys2 d ∧ (itb d = false → ∀ H', Same H H' → E (.ref M) none H') ∧
  (∀ t, d = tD t → itb d = true → (∀ k, k < 6 → First t k → ∀ H', Same H H' → Q (.int ((k + 1 : Nat) : Int)) H') ∧ ((∀ k, k < 6 → up t k ≠ plain t.length) → ∀ H', Same H H' → Q .non H'))
theorem ok_repeats {f Fa M R C : Addr} {fd : FuncData} (F : Fun K "repeats" "repeats" (top 31) f fd) (T : Cls4 K mg Fa M R C) (c0 : CalX P w K mg base 4 "check_table" (spCT K M) []) (c1 : Cal P w K mg base 1 "plain_table" (spMk K plain) []) (c2 : Cal P w K mg base 1 "table_times" (spMul K) []) (m1 : mg "len" = none) (m2 : mg "range" = none) : FnOk P w K mg base (L2.CX P w) 5 f fd ["table"] (spRep K M) := by
  refine okXS F scRe (fun vs H Q E ⟨_, _, e, _⟩ => by rw [e]; rfl) ?_
  rintro cdv A outer s H _ Q E hr ⟨v, d, rfl, rp, hd, ht, qM, q⟩ hN nd tk
  have pp := passes_of (X := cxOf (L2.CX P w) P w K mg base ["table", "own", "k"] "repeats" (defScope (top 31)) f cdv A outer s H E) rfl
  change QB _ (_ :: _ :: (Stmt.For _ _ _ [] _) :: (defBody (top 31)).drop 3) _ [some _, none, none] _
  kct_strs
  refine ⟨v, d, rfl, rp, hd, ht, fun e H1 s1 => ?_, fun e H1 s1 σ => qM e H1 s1⟩
  obtain ⟨n, t, rfl, st, hn, hB⟩ := itb_tab e
  obtain ⟨q1, q2⟩ := q t rfl e
  kct_strs
  refine ⟨_, _, rfl, rfl, by decide, fun j σ H' => Same H H' ∧ (∀ i, i < j → up t i ≠ plain t.length) ∧ ∃ (u : V) (o : Option V), Rp K H' u (tD (up t j)) ∧ σ = [some v, some u, o], ⟨s1, (fun i hi => absurd hi (Nat.not_lt_zero _)), v, none, rp.to s1, rfl⟩, ?_, ?_⟩
  · rintro j σ1 H2 hj ⟨s2, hno, u, o, ru, rfl⟩
    have rt2 := rp.to s2
    show QG _ _ _ _ _ _
    kct_strs
    refine callw_len_t rt2 ?_
    rw [List.length_map, st.1]
    kct_strs
    refine ⟨n, rfl, hn.2, fun v3 H3 s3 r3 => ?_⟩
    refine opw_eqd hr (ru.to s3) r3 (tD_pure _).1 (tD_pure _).1 (tD_pure _).2 (tD_pure _).2 fun bb hbb => ?_
    kct_strs
    refine ifb (fun e1 => ?_) (fun e1 => ?_)
    · have e2 := tD_inj (hbb.mp e1)
      rw [← st.1] at e2
      kct_strs
      have q3 := q1 j (by omega) ⟨e2, hno⟩ H3 (s2.trans s3)
      rw [show ((j + 1 : Nat) : Int) = 1 + (j : Int) by omega] at q3
      exact q3
    · kct_strs
      refine ⟨u, v, up t j, t, n, n, rfl, ru.to s3, rt2.to s3, up_rows st hn.1 j, st, hn, hn.2, fun r hr x hx => Nat.lt_trans (hB r hr x hx) (by decide), fun u2 H4 s4 r4 => ?_⟩
      kct_strs
      refine ⟨s2.trans (s3.trans s4), fun i hi => ?_, u2, _, r4, rfl⟩
      by_cases h : i = j
      · rw [h]
        intro e2
        rw [hbb.mpr (by rw [e2])] at e1
        cases e1
      · rw [← st.1]
        exact hno i (by omega)
  · rintro σ1 H2 ⟨s2, hno, u, o, ru, rfl⟩
    change QB _ (_ :: []) _ _ _
    kct_strs
    exact q2 (fun k hk => hno k hk) H2 s2
def spWi (K : PySem.W.Frag) : Sp := fun vs H Q _ => ∃ v d, vs = [v] ∧ Rp K H v d ∧ d.ty.isSome = true ∧ Q (.bl (wi d 1 3)) H
theorem ok_is_wide {f : Addr} {fd : FuncData} {t3 : Tok} (F : Fun K "is_wide" "is_wide" (top 33) f fd) (c1 : Cal P w K mg base 2 "is_count" (spCount K) []) (g3 : mg "MOST_WIDE" = some (.int 3 t3)) : FnOk P w K mg base CX0 3 f fd ["value"] (spWi K) := by
  refine okS F scWi (fun vs H Q E ⟨_, _, e, _⟩ => by rw [e]; rfl) ?_
  rintro cdv A outer s H _ Q E hr ⟨v, d, rfl, rp, hd, q⟩ hN nd
  change QB _ (_ :: []) _ [some _] _
  kct_strs
  exact ⟨_, _, _, _, rfl, rp, hd, q⟩
end
section
variable {P : Program} {w : World} {K : PySem.W.Frag} {mg : Str → Option Value} {base : Heap}
def pr1 (t : List (List Int)) (i k : Nat) : Int := at2 t i i * at2 t k k - at2 t i k * at2 t k i
def prs (t : List (List Int)) : Int := [pr1 t 1 0, pr1 t 2 0, pr1 t 2 1].sum
/-- the row of a table's polynomial -/
def poly (t : List (List Int)) : List Int := match t.length with
  | 1 => [-at2 t 0 0, 1]
  | 2 => [dt t, -tra t, 1]
  | _ => [-dt t, prs t, -tra t, 1]
theorem poly1 {t : List (List Int)} (h : t.length = 1) : poly t = [-at2 t 0 0, 1] := by simp only [poly, h]
theorem poly2 {t : List (List Int)} (h : t.length = 2) : poly t = [dt t, -tra t, 1] := by simp only [poly, h]
theorem poly3 {t : List (List Int)} (h : t.length = 3) : poly t = [-dt t, prs t, -tra t, 1] := by simp only [poly, h]
def spPoly (K : PySem.W.Frag) (M : Addr) : Sp := fun vs H Q E => ∃ v d, vs = [v] ∧ Rp K H v d ∧ d.ty.isSome = true ∧ tys2 d ∧ (itb d = false → ∀ H', Same H H' → E (.ref M) none H') ∧
  (∀ t, d = tD t → itb d = true → ∀ u H', Same H H' → Rp K H' u (rD (poly t)) → Q u H')
theorem scPy : FnScope ["table", "wide", "pairs", "i", "k"] ["table"] (defScope (top 32)) := ⟨rfl, rfl, rfl, by decide +kernel, rfl, by decide +kernel, by decide +kernel⟩
theorem ok_told_poly {f Fa M R C : Addr} {fd : FuncData} (F : Fun K "told_poly" "told_poly" (top 32) f fd) (T : Cls4 K mg Fa M R C) (c0 : CalX P w K mg base 4 "check_table" (spCT K M) []) (c1 : Cal P w K mg base 1 "det" (spDet K) []) (c2 : Cal P w K mg base 1 "trace" (spTra K) []) (m1 : mg "len" = none) (m2 : mg "range" = none) (m3 : mg "sum" = none) : FnOk P w K mg base (L2.CX P w) 5 f fd ["table"] (spPoly K M) := by
  refine okXS F scPy (fun vs H Q E ⟨_, _, e, _⟩ => by rw [e]; rfl) ?_
  rintro cdv A outer s H _ Q E hr ⟨v, d, rfl, rp, hd, ht, qM, q⟩ hN nd tk
  change QB _ (_ :: _ :: _ :: _ :: (defBody (top 32)).drop 4) _ [some _, none, none, none, none] _
  kct_strs
  refine ⟨v, d, rfl, rp, hd, ht, fun e H1 s1 => ?_, fun e H1 s1 σ => qM e H1 s1⟩
  obtain ⟨n, t, rfl, st, hn, hB⟩ := itb_tab e
  have q1 := q t rfl e
  have sm : ∀ {i k : Nat}, i < n → k < n → (at2 t i k).natAbs < 2 ^ 20 := fun h1 h2 => hB.at st h1 h2
  have rt := rp.to s1
  kct_strs
  refine callw_len_t rt ?_
  rw [List.length_map, st.1]
  kct_strs
  refine ifd (fun e1 => ?_) (fun e1 => ?_)
  · have e1 : n = 1 := by omega
    subst e1
    kct_strs
    refine ixw_mt (d0 := []) (rt) (by first | decide | omega) (by rw [(st).1]; first | (show 0 < _; omega) | omega) fun wz1 rz1 => ?_
    kct_strs
    refine ixw_row rz1 (by first | decide | omega) (by rw [(st).2 _ (getD_mem (by rw [(st).1]; first | (show 0 < _; omega) | omega))]; first | (show 0 < _; omega) | omega) ?_
    kct_strs
    refine ⟨Nat.le_of_ble_eq_true rfl, fun p4 H4 hp4 s4 e4 => ?_⟩
    refine q1 _ H4 (s1.trans s4) ?_
    rw [poly1 st.1]
    exact .tupOf e4 (.cons (.int _) (.cons (.int _) .nil))
  · kct_strs
    refine ifd (fun e2 => ?_) (fun e2 => ?_)
    · have e1 : n = 2 := by omega
      subst e1
      kct_strs
      refine ⟨v, t, 2, rfl, rt, st, hn, hB, fun H2 s2 => ?_⟩
      kct_strs
      refine ⟨v, t, 2, rfl, rt.to s2, st, hn.2, fun H3 s3 => ?_⟩
      kct_strs
      refine ⟨Nat.le_of_ble_eq_true rfl, fun p4 H4 hp4 s4 e4 => ?_⟩
      refine q1 _ H4 (s1.trans (s2.trans (s3.trans s4))) ?_
      rw [poly2 st.1]
      exact .tupOf e4 (.cons (.int _) (.cons (.int _) (.cons (.int _) .nil)))
    · have e1 : n = 3 := by omega
      subst e1
      kct_strs
      change QB _ (_ :: _ :: []) _ _ _
      kct_strs
      one_sign
      refine qi_range1 m2 rfl rfl ?_
      kct_strs
      refine ⟨by decide, 3, _, _, walk_range, fun _ _ => trivial, fun i => i, 3, fun i j => some (.int (pr1 t i j)), by decide, fun _ h => Nat.le_of_lt h, fun i j d e => by cases e; rfl, ?_, ?_⟩
      · rintro i v1 H4 H5 hi s4 ⟨rfl, rfl⟩
        intro s0 H0 C cl fp
        refine qi_range1 m2 rfl rfl ?_
        kct_strs
        refine ⟨by omega, Same.refl _, ?_⟩
        rw [Int.zero_add, Int.toNat_natCast]
        refine ⟨_, _, walk_range, fun _ _ _ => trivial, ?_⟩
        rintro j u H6 H7 hj s6 k6 ⟨rfl, rfl⟩
        refine ⟨fun _ => ?_, fun e => by cases e⟩
        have hj : j < i := hj
        simp only [Int.zero_add]
        have rt6 := rt.to s6
        have b1 := sm (i := j) (k := j) (by omega) (by omega)
        have b2 := sm (i := j) (k := i) (by omega) (by omega)
        intro s0 H0 C cl fp
        kct_strs
        refine ixw_mt (d0 := []) (rt6) (by first | decide | omega) (by rw [(st).1]; first | (show Int.toNat ((i : Nat)) < _; omega) | omega) fun wz2 rz2 => ?_
        kct_strs
        refine ixw_row rz2 (by first | decide | omega) (by rw [(st).2 _ (getD_mem (by rw [(st).1]; first | (show Int.toNat ((i : Nat)) < _; omega) | omega))]; first | (show Int.toNat ((i : Nat)) < _; omega) | omega) ?_
        kct_strs
        refine ixw_mt (d0 := []) (rt6) (by first | decide | omega) (by rw [(st).1]; first | (show Int.toNat ((j : Nat)) < _; omega) | omega) fun wz3 rz3 => ?_
        kct_strs
        refine ixw_row rz3 (by first | decide | omega) (by rw [(st).2 _ (getD_mem (by rw [(st).1]; first | (show Int.toNat ((j : Nat)) < _; omega) | omega))]; first | (show Int.toNat ((j : Nat)) < _; omega) | omega) ?_
        kct_strs
        have c1 : ∀ x y : Nat, (t.getD (Int.toNat (x : Nat)) []).getD (Int.toNat (y : Nat)) 0 = at2 t x y := fun x y => by rw [Int.toNat_natCast, Int.toNat_natCast]; rfl
        simp only [c1]
        refine opw_mul (.inr (by omega)) ?_
        kct_strs
        refine ixw_mt (d0 := []) (rt6) (by first | decide | omega) (by rw [(st).1]; first | (show Int.toNat ((i : Nat)) < _; omega) | omega) fun wz4 rz4 => ?_
        kct_strs
        refine ixw_row rz4 (by first | decide | omega) (by rw [(st).2 _ (getD_mem (by rw [(st).1]; first | (show Int.toNat ((i : Nat)) < _; omega) | omega))]; first | (show Int.toNat ((j : Nat)) < _; omega) | omega) ?_
        kct_strs
        refine ixw_mt (d0 := []) (rt6) (by first | decide | omega) (by rw [(st).1]; first | (show Int.toNat ((j : Nat)) < _; omega) | omega) fun wz5 rz5 => ?_
        kct_strs
        refine ixw_row rz5 (by first | decide | omega) (by rw [(st).2 _ (getD_mem (by rw [(st).1]; first | (show Int.toNat ((j : Nat)) < _; omega) | omega))]; first | (show Int.toNat ((i : Nat)) < _; omega) | omega) ?_
        kct_strs
        simp only [c1]
        refine opw_mul (.inr (by omega)) ?_
        kct_strs
        exact ⟨Same.refl _, _, rfl, .int _⟩
      · intro p H2 ys s2 hp hp2 r
        have e5 : flat (fun i => i) (fun i j => some (D.int (pr1 t i j))) 3 = [pr1 t 1 0, pr1 t 2 0, pr1 t 2 1].map D.int := rfl
        rw [e5] at r
        kct_strs
        refine callw_sum rfl hp2 r ?_
        kct_strs
        refine ⟨v, t, 3, rfl, rt.to s2, st, hn, hB, fun H3 s3 => ?_⟩
        kct_strs
        refine ⟨v, t, 3, rfl, rt.to (s2.trans s3), st, hn.2, fun H4 s4 => ?_⟩
        kct_strs
        refine ⟨Nat.le_of_ble_eq_true rfl, fun p5 H5 hp5 s5 e5 => ?_⟩
        refine q1 _ H5 (s1.trans (s2.trans (s3.trans (s4.trans s5)))) ?_
        rw [poly3 st.1]
        exact .tupOf e5 (.cons (.int _) (.cons (.int _) (.cons (.int _) (.cons (.int _) .nil))))
end
section
variable {P : Program} {w : World} {K : PySem.W.Frag} {mg : Str → Option Value} {base : Heap}
def dot0 (r c : List Int) : Int := (List.zipWith (fun a b => a * b) (r.drop 1) (c.drop 1)).foldl (fun x y => x + y) (r.getD 0 0 * c.getD 0 0)
def ledI (t : List (List Int)) (c : List Int) : List Int := t.map fun r => dot0 r c
theorem scLe : FnScope ["table", "x", "found", "row", "total", "c", "y"] ["table", "x"] (defScope (top 22)) := ⟨rfl, rfl, rfl, by decide +kernel, rfl, by decide +kernel, by decide +kernel⟩
def spLedI (K : PySem.W.Frag) : Sp := fun vs H Q _ => ∃ (x y : V) (t : List (List Int)) (c : List Int) (n : Nat), vs = [x, y] ∧ Rp K H x (tD t) ∧ Rp K H y (rD c) ∧ Rows n n t ∧ c.length = n ∧ (1 ≤ n ∧ n ≤ 3) ∧ (∀ z ∈ c, z.natAbs < 2 ^ 60) ∧ ∀ u H', Same H H' → Rp K H' u (rD (ledI t c)) → Q u H'
theorem foldl_take {zs : List Int} {k : Nat} {a z : Int} (h : zs[k]? = some z) : (zs.take (k + 1)).foldl (fun x y => x + y) a = (zs.take k).foldl (fun x y => x + y) a + z := by
  rw [List.take_succ, h]
  simp
theorem ok_ledI {f Fa M R C : Addr} {fd : FuncData} (F : Fun K "led" "led" (top 22) f fd) (T : Cls4 K mg Fa M R C) (m1 : mg "isinstance" = none) (m2 : mg "zip" = none) (m3 : mg "tuple" = none) : FnOk P w K mg base (L2.CX P w) 6 f fd ["table", "x"] (spLedI K) := by
  refine okXS F scLe (fun vs H Q E ⟨_, _, _, _, _, e, _⟩ => by rw [e]; rfl) ?_
  rintro cdv A outer s H _ Q E hr ⟨x, y, t, c, n, rfl, rt, rc, st, lc, hn, hB, q⟩ hN nd tk
  have gC := T.gC
  have pp := passes_of (X := cxOf (L2.CX P w) P w K mg base ["table", "x", "found", "row", "total", "c", "y"] "led" (defScope (top 22)) f cdv A outer s H E) rfl
  have hz : (1000 : Nat) < sizeLine := by decide
  change QB _ (_ :: (Stmt.For _ _ _ [] _) :: (defBody (top 22)).drop 2) _ [some _, some _, none, none, none, none, none] _
  kct_strs
  refine ⟨Nat.le_of_ble_eq_true rfl, fun lf H1 hlf s1 e1 => ?_⟩
  kct_strs
  fin_fold
  kct_strs
  have kl0 : Lst H1 lf := ⟨_, e1⟩
  refine ⟨_, lf, rt.to s1, imAll_map ints_im, kl0, fun k σ H' => KL lf H1 H' ∧ ∃ (acc : List V) (o1 o2 o3 o4 : Option V), H' lf = some (.lst acc) ∧ RpAll K H' acc ((t.take k).map fun r => D.int (dot0 r c)) ∧ σ = [some x, some y, some (.ref lf), o1, o2, o3, o4], ⟨KL.refl, [], none, none, none, none, e1, .nil, rfl⟩, fun k σ H' h => h.1, ?_, ?_⟩
  · rintro k d w σ1 H2 hk ⟨k2, acc, o1, o2, o3, o4, e2, ra, rfl⟩ rr
    rw [List.getElem?_map] at hk
    cases hr : t[k]? with
    | none => rw [hr] at hk; cases hk
    | some r =>
      rw [hr] at hk
      cases hk
      have lr : r.length = n := st.2 r (List.mem_of_getElem? hr)
      have rc2 := k2.rp kl0 (rc.to s1) (ints_im _)
      have sm : ∀ i, i < n → (c.getD i 0).natAbs < 2 ^ 60 := fun i hi => hB _ (getD_mem (by omega))
      have sm0 := sm 0 (by omega)
      show QG _ _ _ _ _ _
      kct_strs
      refine ixw_row rc2 (by decide) (by rw [lc]; show 0 < n; omega) ?_
      kct_strs
      refine isi_not (.int _) rfl T.k2 ?_
      kct_strs
      rw [if_pos (by decide)]
      kct_strs
      refine ixw_row rr (by decide) (by rw [lr]; show 0 < n; omega) ?_
      kct_strs
      refine ixw_row rc2 (by decide) (by rw [lc]; show 0 < n; omega) ?_
      kct_strs
      refine opw_mul (.inr (by show -(2 ^ 64) < c.getD 0 0 ∧ c.getD 0 0 < 2 ^ 64; omega)) ?_
      kct_strs
      fin_iter
      refine we_slLoT ?_
      kct_strs
      refine ⟨_, 1, rfl, ⟨by decide, by rw [List.length_map, lr]; omega⟩, rr, fun v3 H3 s3 r3 => ?_⟩
      refine we_slLoT ?_
      kct_strs
      refine ⟨_, 1, rfl, ⟨by decide, by rw [List.length_map, lc]; omega⟩, rc2.to s3, fun v4 H4 s4 r4 => ?_⟩
      rw [← List.map_drop] at r3 r4
      have tt : ∀ j, j < 3 → True := fun _ _ => trivial
      refine ⟨true, true, _, _, r3.to s4, r4, fun j σ H' => Same H4 H' ∧ ∃ o5 o6 : Option V, σ = [some x, some y, some (.ref lf), some w, some (.int (((List.zipWith (fun a b => a * b) (r.drop 1) (c.drop 1)).take j).foldl (fun x y => x + y) (r.getD 0 0 * c.getD 0 0))), o5, o6], ⟨Same.refl _, _, _, rfl⟩, fun j σ H' h => h.1, ?_, ?_⟩
      · rintro j d1 d2 u1 u2 p σ3 H5 H6 hj1 hj2 ⟨s5, o5, o6, rfl⟩ s6 hp ru1 ru2
        rw [List.getElem?_map] at hj1 hj2
        cases ha : (r.drop 1)[j]? with
        | none => rw [ha] at hj1; cases hj1
        | some a =>
          cases hb : (c.drop 1)[j]? with
          | none => rw [hb] at hj2; cases hj2
          | some b =>
            rw [ha] at hj1
            rw [hb] at hj2
            cases hj1
            cases hj2
            obtain rfl := ru1.int_inv
            obtain rfl := ru2.int_inv
            have bb := hB b (List.mem_of_mem_drop (List.mem_of_getElem? hb))
            have hz : (List.zipWith (fun a b => a * b) (r.drop 1) (c.drop 1))[j]? = some (a * b) := by rw [List.getElem?_zipWith, ha, hb]
            kct_strs
            refine isi_not (.int _) rfl T.k2 ?_
            kct_strs
            rw [if_pos (by decide)]
            kct_strs
            refine opw_mul (.inr (by omega)) ?_
            kct_strs
            exact ⟨s5.trans s6, _, _, by rw [foldl_take hz]⟩
      · rintro σ3 H5 ⟨s5, o5, o6, rfl⟩
        have lz : (List.zipWith (fun a b => a * b) (r.drop 1) (c.drop 1)).length = min ((r.drop 1).map D.int).length ((c.drop 1).map D.int).length := by simp
        rw [← lz, List.take_length]
        have S5 : Same H2 H5 := s3.trans (s4.trans s5)
        kct_strs
        fin_run
        kct_strs
        refine ⟨lf, acc, rfl, S5 _ _ e2, ?_⟩
        kct_strs
        have la : acc.length = k := by
          rw [ra.len, List.length_map, List.length_take]
          have := (List.getElem?_eq_some_iff.mp hr).1
          omega
        have hk3 : k < 3 := by
          have := (List.getElem?_eq_some_iff.mp hr).1
          have := st.1
          omega
        refine ⟨acc, S5 _ _ e2, by omega, ?_⟩
        kct_strs
        refine ⟨(k2.same S5).trans KL.upd, acc ++ [.int (dot0 r c)], _, _, _, _, upd_same, ?_, rfl⟩
        have l5 : Lst H5 lf := ⟨_, S5 _ _ e2⟩
        rw [List.take_succ, hr, List.map_append]
        exact (KL.upd.rpA l5 (ra.to S5) (imAll_map fun _ => rfl)).snoc (.int _)
  · rintro σ1 H2 ⟨k2, acc, o1, o2, o3, o4, e2, ra, rfl⟩
    rw [List.length_map, List.take_length] at ra
    change QB _ (_ :: []) _ _ _
    kct_strs
    refine callw_tuple_l (.lstOf e2 ra) fun v H3 s3 r3 => ?_
    kct_strs
    refine q v H3 (fun b o e => s3 b o (k2.s b o (ne_of_none e hlf) (s1 b o e))) ?_
    unfold ledI
    rw [rD_map]
    exact r3
end
/-- the ratio of z and 3 -/
def rt3 (C : Addr) (z : Int) : D := .obj C ["n", "d"] [.int (rp z 3), .int (rq z 3)]
theorem Rt.dat {K : PySem.W.Frag} {C : Addr} {H : Hp} {a : Addr} {z : Int} (h : Rt C H a (rp z 3) (rq z 3)) : Rp K H (.ref a) (rt3 C z) := by
  obtain ⟨dx, e⟩ := h
  exact .obj e rfl (.cons (.int _) (.cons (.int _) .nil))
theorem Rp.rat {K : PySem.W.Frag} {C : Addr} {H : Hp} {v : V} {z : Int} (h : Rp K H v (rt3 C z)) : ∃ a, v = .ref a ∧ Rt C H a (rp z 3) (rq z 3) := by
  unfold rt3 at h
  cases h with
  | @obj a _ dx fs _ _ h1 h2 h3 =>
    refine ⟨a, rfl, dx, ?_⟩
    match fs, h2, h3, h1 with
    | [(n, v), (m, u)], h2, h3, h1 =>
      simp only [List.map_cons, List.map_nil, List.cons.injEq, and_true] at h2
      obtain ⟨rfl, rfl⟩ := h2
      simp only [List.map_cons, List.map_nil] at h3
      cases h3 with
      | cons r1 r2 =>
        cases r2 with
        | cons r3 r4 =>
          rw [r1.int_inv, r3.int_inv] at h1
          exact h1
theorem rt3_im (C : Addr) (z : Int) : (rt3 C z).im = true := rfl
theorem b3 {z : Int} {B : Nat} (h : z.natAbs < B) (hB : B ≤ 16384) : (rp z 3).natAbs < 16384 ∧ (rq z 3).natAbs < 16384 ∧ rq z 3 ≠ 0 := by
  obtain ⟨h1, _, _, h4⟩ := rat_facts z 3 (by decide)
  have := rp_le z 3
  have : (3 : Int).natAbs = 3 := rfl
  omega
theorem add3 (a b : Int) : rp (rp a 3 * rq b 3 + rp b 3 * rq a 3) (rq a 3 * rq b 3) = rp (a + b) 3 ∧ rq (rp a 3 * rq b 3 + rp b 3 * rq a 3) (rq a 3 * rq b 3) = rq (a + b) 3 := by
  obtain ⟨h1, _, h3, _⟩ := rat_facts a 3 (by decide)
  obtain ⟨k1, _, k3, _⟩ := rat_facts b 3 (by decide)
  refine (rat_eq (Int.ne_of_gt (Int.mul_pos h1 k1)) (by decide)).mpr ?_
  generalize rp a 3 = p at *
  generalize rq a 3 = q at *
  generalize rp b 3 = p' at *
  generalize rq b 3 = q' at *
  grind
theorem tim3 (a b : Int) : rp (rp a 3 * b) (rq a 3) = rp (b * a) 3 ∧ rq (rp a 3 * b) (rq a 3) = rq (b * a) 3 := by
  obtain ⟨h1, _, h3, _⟩ := rat_facts a 3 (by decide)
  refine (rat_eq (Int.ne_of_gt h1) (by decide)).mpr ?_
  generalize rp a 3 = p at *
  generalize rq a 3 = q at *
  grind
theorem mul3 (a b : Int) : rp (rp a 1 * rp b 3) (rq a 1 * rq b 3) = rp (a * b) 3 ∧ rq (rp a 1 * rp b 3) (rq a 1 * rq b 3) = rq (a * b) 3 := by
  obtain ⟨h1, _, h3, _⟩ := rat_facts a 1 (by decide)
  obtain ⟨k1, _, k3, _⟩ := rat_facts b 3 (by decide)
  refine (rat_eq (Int.ne_of_gt (Int.mul_pos h1 k1)) (by decide)).mpr ?_
  generalize rp a 1 = p at *
  generalize rq a 1 = q at *
  generalize rp b 3 = p' at *
  generalize rq b 3 = q' at *
  grind
theorem zero3 : rp 0 1 = rp 0 3 ∧ rq 0 1 = rq 0 3 := (rat_eq (by decide) (by decide)).mpr (by decide)
section
variable {P : Program} {w : World} {K : PySem.W.Frag} {mg : Str → Option Value} {base : Heap}
theorem acc_sm {r c : List Int} {n : Nat} (hr : ∀ x ∈ r, x.natAbs < 4) (hc : ∀ x ∈ c, x.natAbs ≤ 4) {z : Int} (hz : z.natAbs ≤ 12) : ∀ j, j ≤ 3 → ((List.zipWith (fun a b => a * b) r c).take j).length ≤ 3 → (((List.zipWith (fun a b => a * b) r c).take j).foldl (fun x y => x + y) z).natAbs ≤ 48 := by
  intro j hj hl
  have hb : ∀ x ∈ (List.zipWith (fun a b => a * b) r c).take j, x.natAbs ≤ 12 := by
    intro x hx
    have hx := List.mem_of_mem_take hx
    obtain ⟨k, hk⟩ := List.getElem?_of_mem hx
    rw [List.getElem?_zipWith] at hk
    cases e1 : r[k]? with
    | none => rw [e1] at hk; cases hk
    | some a =>
      cases e2 : c[k]? with
      | none => rw [e1, e2] at hk; cases hk
      | some b =>
        rw [e1, e2] at hk
        cases hk
        have h1 := hr a (List.mem_of_getElem? e1)
        have h2 := hc b (List.mem_of_getElem? e2)
        show (a * b).natAbs ≤ 12
        rw [Int.natAbs_mul]
        exact Nat.le_trans (Nat.mul_le_mul (show a.natAbs ≤ 3 by omega) h2) (by decide)
  generalize (List.zipWith (fun a b => a * b) r c).take j = l at *
  match l, hl, hb with
  | [], _, _ => show z.natAbs ≤ 48; omega
  | [a], _, hb => have := hb a (by simp); show (z + a).natAbs ≤ 48; omega
  | [a, b], _, hb => have := hb a (by simp); have := hb b (by simp); show (z + a + b).natAbs ≤ 48; omega
  | [a, b, d], _, hb => have := hb a (by simp); have := hb b (by simp); have := hb d (by simp); show (z + a + b + d).natAbs ≤ 48; omega
def spLedR (K : PySem.W.Frag) (C : Addr) : Sp := fun vs H Q _ => ∃ (x y : V) (t : List (List Int)) (c : List Int) (n : Nat), vs = [x, y] ∧ Rp K H x (tD t) ∧ Rp K H y (.tup (c.map (rt3 C))) ∧ Rows n n t ∧ c.length = n ∧ (1 ≤ n ∧ n ≤ 3) ∧ Sm 4 t ∧ (∀ z ∈ c, z.natAbs ≤ 4) ∧ ∀ u H', Same H H' → Rp K H' u (.tup ((ledI t c).map (rt3 C))) → Q u H'
theorem rats_im (C : Addr) (l : List Int) : (D.tup (l.map (rt3 C))).im = true := by
  show imAll (l.map (rt3 C)) = true
  exact imAll_map fun a => rt3_im C a
theorem ok_ledR {f Fa M R C : Addr} {fd : FuncData} (F : Fun K "led" "led" (top 22) f fd) (T : Cls4 K mg Fa M R C) (m1 : mg "isinstance" = none) (m2 : mg "zip" = none) (m3 : mg "tuple" = none)
    (a1 : MetX P w K mg base (L2.CX P w) 5 C "__add__" (spOp K M R C (fun p q p' q' => p * q' + p' * q) (fun p q p' q' => q * q'))) (a2 : MetX P w K mg base (L2.CX P w) 5 C "times" (spTimes C)) : FnOk P w K mg base (L2.CX P w) 6 f fd ["table", "x"] (spLedR K C) := by
  refine okXS F scLe (fun vs H Q E ⟨_, _, _, _, _, e, _⟩ => by rw [e]; rfl) ?_
  rintro cdv A outer s H _ Q E hr ⟨x, y, t, c, n, rfl, rt, rc, st, lc, hn, hS, hB, q⟩ hN nd tk
  have gC := T.gC
  have pp := passes_of (X := cxOf (L2.CX P w) P w K mg base ["table", "x", "found", "row", "total", "c", "y"] "led" (defScope (top 22)) f cdv A outer s H E) rfl
  have hz : (1000 : Nat) < sizeLine := by decide
  have al : ∀ (m : Str) (p q : Int), (m == "n") = false → (m == "d") = false → List.lookup m [(("n" : Str), V.int p), ("d", V.int q)] = none := fun m p q h1 h2 => by simp [List.lookup, h1, h2]
  change QB _ (_ :: (Stmt.For _ _ _ [] _) :: (defBody (top 22)).drop 2) _ [some _, some _, none, none, none, none, none] _
  kct_strs
  refine ⟨Nat.le_of_ble_eq_true rfl, fun lf H1 hlf s1 e1 => ?_⟩
  kct_strs
  fin_fold
  kct_strs
  have kl0 : Lst H1 lf := ⟨_, e1⟩
  refine ⟨_, lf, rt.to s1, imAll_map ints_im, kl0, fun k σ H' => KL lf H1 H' ∧ ∃ (acc : List V) (o1 o2 o3 o4 : Option V), H' lf = some (.lst acc) ∧ RpAll K H' acc ((t.take k).map fun r => rt3 C (dot0 r c)) ∧ σ = [some x, some y, some (.ref lf), o1, o2, o3, o4], ⟨KL.refl, [], none, none, none, none, e1, .nil, rfl⟩, fun k σ H' h => h.1, ?_, ?_⟩
  · rintro k d w σ1 H2 hk ⟨k2, acc, o1, o2, o3, o4, e2, ra, rfl⟩ rr
    rw [List.getElem?_map] at hk
    cases hr' : t[k]? with
    | none => rw [hr'] at hk; cases hk
    | some r =>
      rw [hr'] at hk
      cases hk
      have lr : r.length = n := st.2 r (List.mem_of_getElem? hr')
      have rc2 := k2.rp kl0 (rc.to s1) (rats_im _ _)
      have sr : ∀ x ∈ r, x.natAbs < 4 := hS r (List.mem_of_getElem? hr')
      have sc0 : (c.getD 0 0).natAbs ≤ 4 := hB _ (getD_mem (by omega))
      have sr0 : (r.getD 0 0).natAbs < 4 := sr _ (getD_mem (by omega))
      show QG _ _ _ _ _ _
      kct_strs
      refine ixw_mt (d0 := (0 : Int)) rc2 (by decide) (by rw [lc]; show 0 < n; omega) fun w1 r1 => ?_
      kct_strs
      obtain ⟨a0, rfl, dx0, h0⟩ := Rp.rat r1
      refine isi_own T.iC h0 ?_
      kct_strs
      rw [if_neg (by decide)]
      kct_strs
      refine we_methX T.iC.cl a2 tk hr (by decide) ?_ rfl rfl rfl
      kct_strs
      refine ixw_mt (d0 := (0 : Int)) rc2 (by decide) (by rw [lc]; show 0 < n; omega) fun w2 r2 => ?_
      obtain ⟨a1', rfl, dx1, h1⟩ := Rp.rat r2
      refine ⟨a1', dx1, _, rfl, h1, al _ _ _ (by decide) (by decide), ?_⟩
      kct_strs
      refine ixw_row rr (by decide) (by rw [lr]; show 0 < n; omega) ?_
      kct_strs
      obtain ⟨f1, f2, f3⟩ := b3 (z := c.getD (Int.toNat 0) 0) (B := 5) (by show (c.getD 0 0).natAbs < 5; omega) (by decide)
      refine ⟨a1', _, _, _, rfl, ⟨dx1, h1⟩, f2, f3, by show (r.getD 0 0).natAbs < _; omega, fun a5 H3 s3 r3 => ?_⟩
      rw [(tim3 _ _).1, (tim3 _ _).2] at r3
      have rt3' := Rt.dat (K := K) r3
      kct_strs
      fin_iter
      refine we_slLoT ?_
      kct_strs
      refine ⟨_, 1, rfl, ⟨by decide, by rw [List.length_map, lr]; omega⟩, rr.to s3, fun v3 H4 s4 r4 => ?_⟩
      refine we_slLoT ?_
      kct_strs
      refine ⟨_, 1, rfl, ⟨by decide, by rw [List.length_map, lc]; omega⟩, rc2.to (s3.trans s4), fun v4 H5 s5 r5 => ?_⟩
      rw [← List.map_drop] at r4 r5
      refine ⟨true, true, _, _, r4.to s5, r5, fun j σ H' => Same H5 H' ∧ ∃ (u : V) (o5 o6 : Option V), Rp K H' u (rt3 C (((List.zipWith (fun a b => a * b) (r.drop 1) (c.drop 1)).take j).foldl (fun x y => x + y) (r.getD 0 0 * c.getD 0 0))) ∧ σ = [some x, some y, some (.ref lf), some w, some u, o5, o6], ⟨Same.refl _, _, _, _, rt3'.to (s4.trans s5), rfl⟩, fun j σ H' h => h.1, ?_, ?_⟩
      · rintro j d1 d2 u1 u2 p σ3 H6 H7 hj1 hj2 ⟨s6, u, o5, o6, ru, rfl⟩ s7 hp ru1 ru2
        rw [List.getElem?_map] at hj1 hj2
        cases ha : (r.drop 1)[j]? with
        | none => rw [ha] at hj1; cases hj1
        | some a =>
          cases hb : (c.drop 1)[j]? with
          | none => rw [hb] at hj2; cases hj2
          | some b =>
            rw [ha] at hj1
            rw [hb] at hj2
            cases hj1
            cases hj2
            obtain rfl := ru1.int_inv
            obtain ⟨b1, rfl, dy, hb1⟩ := Rp.rat ru2
            have sa : a.natAbs < 4 := sr a (List.mem_of_mem_drop (List.mem_of_getElem? ha))
            have sb : b.natAbs ≤ 4 := hB b (List.mem_of_mem_drop (List.mem_of_getElem? hb))
            have hz : (List.zipWith (fun a b => a * b) (r.drop 1) (c.drop 1))[j]? = some (a * b) := by rw [List.getElem?_zipWith, ha, hb]
            have hj3 : j < 3 := by
              have := (List.getElem?_eq_some_iff.mp ha).1
              rw [List.length_drop] at this
              omega
            have sacc := acc_sm (n := n) (r := r.drop 1) (c := c.drop 1) (fun x hx => sr x (List.mem_of_mem_drop hx)) (fun x hx => hB x (List.mem_of_mem_drop hx)) (z := r.getD 0 0 * c.getD 0 0) (by rw [Int.natAbs_mul]; exact Nat.le_trans (Nat.mul_le_mul (show (r.getD 0 0).natAbs ≤ 3 by omega) sc0) (by decide)) j (by omega) (by simp; omega)
            kct_strs
            refine isi_own T.iC hb1 ?_
            kct_strs
            rw [if_neg (by decide)]
            kct_strs
            refine we_methX T.iC.cl a2 tk hr (by decide) ?_ rfl rfl rfl
            kct_strs
            refine ⟨b1, dy, _, rfl, hb1, al _ _ _ (by decide) (by decide), ?_⟩
            kct_strs
            obtain ⟨f1, f2, f3⟩ := b3 (z := b) (B := 5) (by omega) (by decide)
            refine ⟨b1, _, _, _, rfl, ⟨dy, hb1⟩, f2, f3, by omega, fun a6 H8 s8 r8 => ?_⟩
            rw [(tim3 _ _).1, (tim3 _ _).2] at r8
            obtain ⟨u6, rfl, du, hu6⟩ := Rp.rat (ru.to (s7.trans s8))
            obtain ⟨d8, h8⟩ := r8
            refine opw_own a1 T.pC tk hr (by decide) hu6 h8 ?_
            obtain ⟨g1, g2, g3⟩ := b3 (z := a * b) (B := 13) (by rw [Int.natAbs_mul]; exact Nat.lt_of_le_of_lt (Nat.mul_le_mul (show a.natAbs ≤ 3 by omega) sb) (by decide)) (by decide)
            obtain ⟨e1, e2, e3⟩ := b3 (B := 49) (Nat.lt_succ_of_le sacc) (by decide)
            refine ⟨u6, _, _, _, rfl, ⟨du, hu6⟩, e2, .inl ⟨a6, _, _, rfl, ⟨d8, h8⟩, g1, g2, fun _ a9 H9 s9 r9 => ?_, fun e => ((Int.mul_eq_zero.mp e).elim e3 g3).elim⟩⟩
            rw [(add3 _ _).1, (add3 _ _).2] at r9
            kct_strs
            exact ⟨s6.trans (s7.trans (s8.trans s9)), .ref a9, _, _, by rw [foldl_take hz]; exact Rt.dat r9, rfl⟩
      · rintro σ3 H6 ⟨s6, u, o5, o6, ru, rfl⟩
        have lz : (List.zipWith (fun a b => a * b) (r.drop 1) (c.drop 1)).length = min ((r.drop 1).map D.int).length ((c.drop 1).map (rt3 C)).length := by simp
        rw [← lz, List.take_length] at ru
        have S6 : Same H2 H6 := s3.trans (s4.trans (s5.trans s6))
        kct_strs
        fin_run
        kct_strs
        refine ⟨lf, acc, rfl, S6 _ _ e2, ?_⟩
        kct_strs
        have la : acc.length = k := by
          rw [ra.len, List.length_map, List.length_take]
          have := (List.getElem?_eq_some_iff.mp hr').1
          omega
        have hk3 : k < 3 := by
          have := (List.getElem?_eq_some_iff.mp hr').1
          have := st.1
          omega
        refine ⟨acc, S6 _ _ e2, by omega, ?_⟩
        kct_strs
        have l6 : Lst H6 lf := ⟨_, S6 _ _ e2⟩
        refine ⟨(k2.same S6).trans KL.upd, acc ++ [u], _, _, _, _, upd_same, ?_, rfl⟩
        rw [List.take_succ, hr', List.map_append]
        exact (KL.upd.rpA l6 (ra.to S6) (imAll_map fun _ => rt3_im C _)).snoc (KL.upd.rp l6 ru (rt3_im C _))
  · rintro σ1 H2 ⟨k2, acc, o1, o2, o3, o4, e2, ra, rfl⟩
    rw [List.length_map, List.take_length] at ra
    change QB _ (_ :: []) _ _ _
    kct_strs
    refine callw_tuple_l (.lstOf e2 ra) fun v H3 s3 r3 => ?_
    kct_strs
    refine q v H3 (fun b o e => s3 b o (k2.s b o (ne_of_none e hlf) (s1 b o e))) ?_
    unfold ledI
    rw [List.map_map]
    exact r3
end
section
variable {P : Program} {w : World} {K : PySem.W.Frag} {mg : Str → Option Value} {base : Heap}
/-- one def keeps two promises -/
theorem FnOk.or {CX : CXT} {k : Nat} {f : Addr} {fd : FuncData} {ps : List Str} {sp sp' : Sp} (F : FnOk P w K mg base CX k f fd ps sp) (F' : FnOk P w K mg base CX k f fd ps sp') : FnOk P w K mg base CX k f fd ps (fun vs H Q E => sp vs H Q E ∨ sp' vs H Q E) :=
  ⟨fun vs H Q E q => q.elim (F.len vs H Q E) (F'.len vs H Q E), fun A outer s H args us vs Q E hr he hb hv hs => hs.elim (F.run A outer s H args us vs Q E hr he hb hv) (F'.run A outer s H args us vs Q E hr he hb hv)⟩
theorem scSo : FnScope ["k"] ["k"] (defScope (top 41)) := ⟨rfl, rfl, rfl, by decide +kernel, rfl, by decide +kernel, by decide +kernel⟩
theorem scMp : FnScope ["wide", "i", "k"] ["wide"] (defScope (top 42)) := ⟨rfl, rfl, rfl, by decide +kernel, rfl, by decide +kernel, by decide +kernel⟩
theorem scMt : FnScope ["one", "two", "row", "j", "k"] ["one", "two"] (defScope (top 43)) := ⟨rfl, rfl, rfl, by decide +kernel, rfl, by decide +kernel, by decide +kernel⟩
theorem scMf : FnScope ["table", "k", "row"] ["table"] (defScope (top 44)) := ⟨rfl, rfl, rfl, by decide +kernel, rfl, by decide +kernel, by decide +kernel⟩
theorem scMl : FnScope ["line", "wide", "a"] ["line", "wide"] (defScope (top 48)) := ⟨rfl, rfl, rfl, by decide +kernel, rfl, by decide +kernel, by decide +kernel⟩
theorem scCs : FnScope ["values", "own"] ["values"] (defScope (top 18)) := ⟨rfl, rfl, rfl, by decide +kernel, rfl, by decide +kernel, by decide +kernel⟩
theorem ok_law_sign_of {f : Addr} {fd : FuncData} (F : Fun K "_law_sign_of" "_law_sign_of" (top 41) f fd) (m1 : mg "int" = none) : FnOk P w K mg base CX0 1 f fd ["k"] spSg := by
  refine okS F scSo (fun vs H Q E ⟨_, e, _⟩ => by rw [e]; rfl) ?_
  rintro cdv A outer s H _ Q E hr ⟨k, rfl, q⟩ hN nd
  change QB _ (_ :: []) _ [some _] _
  kct_strs
  refine opw_mod (by decide) ?_
  kct_strs
  unfold sg at q
  refine ifd (fun e => ?_) (fun e => ?_)
  · kct_strs
    rw [if_pos e] at q
    exact q
  · kct_strs
    rw [if_neg e] at q
    exact q
theorem ok_mo_plain {f : Addr} {fd : FuncData} (F : Fun K "_law_mo_plain" "_law_mo_plain" (top 42) f fd) (m1 : mg "tuple" = none) (m2 : mg "range" = none) (m3 : mg "int" = none) : FnOk P w K mg base CX0 1 f fd ["wide"] (spMk K plain) := by
  refine okS F scMp (fun vs H Q E ⟨_, e, _⟩ => by rw [e]; rfl) ?_
  rintro cdv A outer s H _ Q E hr ⟨n, rfl, hn, q⟩ hN nd
  change QB _ (_ :: []) _ [some _, none, none] _
  kct_strs
  fin_range
  kct_strs
  refine ⟨by omega, fun i => rD ((List.range n).map (one0 i)), fun k _ => ints_im _, fun i H2 hi s2 => ?_, fun p H2 ys s2 hp hp2 r => ?_⟩
  · intro s0 H00 C0 cl fp
    kct_strs
    fin_range
    kct_strs
    refine ⟨by omega, fun k => .int (one0 i k), fun k _ => rfl, fun k H3 hk s3 => ?_, fun p H3 ys s3 hp hp2 r => ?_⟩
    · intro s0 H00 C0 cl fp
      kct_strs
      rw [one0_eq]
      exact ⟨Same.refl _, .int _⟩
    · kct_strs
      refine callw_tuple_l (.lstOf hp2 r) fun v H4 s4 r4 => ⟨s3.trans s4, ?_⟩
      dsimp only
      rw [rD_map]
      exact r4
  · kct_strs
    refine callw_tuple_l (.lstOf hp2 r) fun v H4 s4 r4 => ?_
    kct_strs
    refine q v H4 (s2.trans s4) ?_
    unfold plain
    rw [tD_map]
    exact r4
theorem ok_mo_times {f : Addr} {fd : FuncData} (F : Fun K "_law_mo_times" "_law_mo_times" (top 43) f fd) (m1 : mg "tuple" = none) (m2 : mg "range" = none) (m3 : mg "len" = none) (m4 : mg "sum" = none) : FnOk P w K mg base CX0 1 f fd ["one", "two"] (spMul K) := by
  refine okS F scMt (fun vs H Q E ⟨_, _, _, _, _, _, e, _⟩ => by rw [e]; rfl) ?_
  rintro cdv A outer s H _ Q E hr ⟨x, y, a, b, l, n, rfl, ra, rb, sa, sb, hn, hl, hB, q⟩ hN nd
  have hz : (1000 : Nat) < sizeLine := by decide
  change QB _ (_ :: []) _ [some _, some _, none, none, none] _
  kct_strs
  by_item
  kct_strs
  refine ⟨List Int, a, rD, fun r => rD ((List.range (b.getD 0 []).length).map fun j => ((List.range b.length).map fun k => r.getD k 0 * at2 b k j).sum), ra, by rw [sa.1]; omega, fun r _ => ints_im _, fun r hr w1 H2 s2 rr => ?_, fun p H2 ys s2 hp hp2 r => ?_⟩
  · have rb2 := rb.to s2
    intro s0 H00 C0 cl fp
    kct_strs
    fin_range
    kct_strs
    refine ixw_mt (d0 := []) rb2 (by decide) (by rw [sb.1]; show 0 < n; omega) fun w2 r2 => ?_
    kct_strs
    refine callw_len_t r2 ?_
    rw [List.length_map]
    have l0 : (b.getD 0 []).length = n := sb.2 _ (getD_mem (by rw [sb.1]; omega))
    kct_strs
    show (b.getD 0 []).length ≤ 1000 ∧ _
    refine ⟨by omega, fun j => .int (((List.range b.length).map fun k => r.getD k 0 * at2 b k j).sum), fun k _ => rfl, fun j H3 hj s3 => ?_, fun p H3 ys s3 hp hp2 r => ?_⟩
    · have hj' : j < n := by rw [← l0]; exact hj
      have rb3 := rb2.to s3
      have rr3 := rr.to s3
      intro s0 H00 C0 cl fp
      kct_strs
      fin_range
      kct_strs
      refine callw_len_t rb3 ?_
      rw [List.length_map]
      kct_strs
      refine ⟨by rw [sb.1]; omega, fun k => .int (r.getD k 0 * at2 b k j), fun k _ => rfl, fun k H4 hk s4 => ?_, fun p H4 ys s4 hp hp2 r => ?_⟩
      · rw [sb.1] at hk
        intro s0 H00 C0 cl fp
        kct_strs
        refine ixw_row (rr3.to s4) (by omega) (by rw [Int.toNat_natCast, sa.2 r hr]; exact hk) ?_
        kct_strs
        refine ixw_mt (d0 := []) (rb3.to s4) (by omega) (by rw [Int.toNat_natCast, sb.1]; exact hk) fun w3 r3 => ?_
        kct_strs
        have l1 : (b.getD k []).length = n := sb.2 _ (getD_mem (by rw [sb.1]; exact hk))
        rw [Int.toNat_natCast] at r3
        refine ixw_row r3 (by omega) (by rw [Int.toNat_natCast, l1]; exact hj') ?_
        kct_strs
        rw [Int.toNat_natCast, Int.toNat_natCast]
        have hb := hB.at sb hk hj'
        unfold at2 at hb
        refine opw_mul (.inr (by omega)) ?_
        exact ⟨Same.refl _, .int _⟩
      · kct_strs
        rw [show ((List.range b.length).map fun k => D.int ((_ : List Int).getD k 0 * at2 b k j)) = ((List.range b.length).map fun k => (_ : List Int).getD k 0 * at2 b k j).map D.int by rw [List.map_map]; rfl] at r
        refine callw_sum rfl hp2 r ?_
        exact ⟨s4, .int _⟩
    · kct_strs
      refine callw_tuple_l (.lstOf hp2 r) fun v H4 s4 r4 => ⟨s3.trans s4, ?_⟩
      dsimp only
      rw [rD_map]
      exact r4
  · kct_strs
    refine callw_tuple_l (.lstOf hp2 r) fun v H4 s4 r4 => ?_
    kct_strs
    refine q v H4 (s2.trans s4) ?_
    unfold mul
    rw [tD_map]
    exact r4
theorem ok_mo_flip {f : Addr} {fd : FuncData} (F : Fun K "_law_mo_flip" "_law_mo_flip" (top 44) f fd) (m1 : mg "tuple" = none) (m2 : mg "range" = none) (m3 : mg "len" = none) : FnOk P w K mg base CX0 1 f fd ["table"] (spFlip K) := by
  refine okS F scMf (fun vs H Q E ⟨_, _, _, _, e, _⟩ => by rw [e]; rfl) ?_
  rintro cdv A outer s H _ Q E hr ⟨x, t, l, n, rfl, rt, st, hl, hn, q⟩ hN nd
  have hz : (1000 : Nat) < sizeLine := by decide
  have l0 : (t.getD 0 []).length = n := st.2 _ (getD_mem (by rw [st.1]; omega))
  change QB _ (_ :: []) _ [some _, none, none] _
  kct_strs
  fin_range
  kct_strs
  refine ixw_mt (d0 := []) rt (by decide) (by rw [st.1]; show 0 < l; omega) fun w2 r2 => ?_
  kct_strs
  refine callw_len_t r2 ?_
  rw [List.length_map]
  kct_strs
  show (t.getD 0 []).length ≤ 1000 ∧ _
  refine ⟨by omega, fun k => rD (t.map fun r => r.getD k 0), fun k _ => ints_im _, fun k H2 hk s2 => ?_, fun p H2 ys s2 hp hp2 r => ?_⟩
  · have hk' : k < n := by rw [← l0]; exact hk
    have rt2 := rt.to s2
    intro s0 H00 C0 cl fp
    kct_strs
    by_item
    kct_strs
    refine ⟨List Int, t, rD, fun r => .int (r.getD k 0), rt2, by rw [st.1]; omega, fun r _ => rfl, fun r hr w1 H3 s3 rr => ?_, fun p H3 ys s3 hp hp2 r => ?_⟩
    · intro s0 H00 C0 cl fp
      kct_strs
      refine ixw_row rr (by omega) (by rw [Int.toNat_natCast, st.2 r hr]; exact hk') ?_
      rw [Int.toNat_natCast]
      exact ⟨Same.refl _, .int _⟩
    · kct_strs
      refine callw_tuple_l (.lstOf hp2 r) fun v H4 s4 r4 => ⟨s3.trans s4, ?_⟩
      dsimp only
      rw [rD_map]
      exact r4
  · kct_strs
    refine callw_tuple_l (.lstOf hp2 r) fun v H4 s4 r4 => ?_
    kct_strs
    refine q v H4 (s2.trans s4) ?_
    unfold flip
    rw [tD_map]
    exact r4
/-- a line of n whole numbers, none above the limit -/
def lin (d : D) (n : Int) : Bool := match d with
  | .tup ds => decide ((ds.length : Int) = n) && ds.all lit
  | _ => false
def spLine (K : PySem.W.Frag) : Sp := fun vs H Q _ => ∃ v d n, vs = [v, .int n] ∧ Rp K H v d ∧ d.ty.isSome = true ∧ tysAll d ∧ ∀ H', Same H H' → Q (.bl (lin d n)) H'
theorem ok_is_line {f : Addr} {fd : FuncData} (F : Fun K "_law_mo_is_line" "_law_mo_is_line" (top 48) f fd) (c1 : Cal P w K mg base 1 "_law_is_whole" (spWhole K) []) (m1 : mg "isinstance" = none) (m2 : mg "tuple" = none) (m3 : mg "all" = none) (m4 : mg "len" = none) (m5 : mg "abs" = none) : FnOk P w K mg base CX0 2 f fd ["line", "wide"] (spLine K) := by
  refine okS F scMl (fun vs H Q E ⟨_, _, _, e, _⟩ => by rw [e]; rfl) ?_
  rintro cdv A outer s H _ Q E hr ⟨v, d, n, rfl, rp, hd, ht, q⟩ hN nd
  have hz : (1000 : Nat) < sizeLine := by decide
  change QB _ (_ :: []) _ [some _, some _, none] _
  kct_strs
  refine ifb (fun e1 => ?_) (fun e1 => ?_)
  · cases d <;> cases e1
    rename_i ds
    kct_strs
    refine callw_len_t rp ?_
    kct_strs
    refine ifd (fun e2 => ?_) (fun e2 => ?_)
    · kct_strs
      mem_news
      kct_strs
      refine ⟨ds, rp, by have := ht.2; omega, fun e => .bl (lit e), ⟨fun _ _ => rfl, fun d u H2 hd s2 r => ?_⟩, fun p H2 ys s2 hp hp2 r => ?_⟩
      · intro s H0 C cl fp
        kct_strs
        refine ⟨_, _, rfl, r, ht.1 d hd, ?_⟩
        kct_strs
        refine ifb (fun e4 => ?_) (fun e4 => ?_)
        · obtain ⟨i, rfl⟩ := whole_int e4
          obtain rfl := r.int_inv
          kct_strs
          exact ⟨Same.refl _, .bl _⟩
        · refine ⟨Same.refl _, ?_⟩
          have : lit d = false := by cases d <;> first | rfl | cases e4
          dsimp only
          rw [this]
          exact .bl _
      · kct_strs
        rw [show ds.map (fun e => D.bl (lit e)) = (ds.map lit).map D.bl by rw [List.map_map]; rfl] at r
        refine callw_all rfl hp2 r ?_
        have e3 : ((ds.map lit).all id) = lin (.tup ds) n := by
          rw [List.all_map]
          simp only [lin, e2, decide_true, Bool.true_and]
          rfl
        rw [e3]
        exact q _ s2
    · have : lin (.tup ds) n = false := by simp only [lin, decide_eq_false e2, Bool.false_and]
      rw [← this]
      exact q _ (Same.refl _)
  · have : lin d n = false := by cases d <;> first | rfl | cases e1
    rw [← this]
    exact q _ (Same.refl _)
/-- what check_tables refuses -/
def spCTs (K : PySem.W.Frag) (M : Addr) : Sp := fun vs H Q E => ∃ v d, vs = [v] ∧ Rp K H v d ∧ (d = .non ∨ d = .lst [] ∨ ∃ a b : List (List Int), d = .lst [tD a, tD b] ∧ itb (tD a) = true ∧ itb (tD b) = true ∧ a.length ≠ b.length) ∧ ∀ H', Same H H' → E (.ref M) none H'
theorem ok_check_tables {f Fa M R C : Addr} {fd : FuncData} (F : Fun K "check_tables" "check_tables" (top 18) f fd) (T : Cls4 K mg Fa M R C) (c1 : Cal P w K mg base 3 "is_table" (spTab K) []) (m1 : mg "isinstance" = none) (m2 : mg "tuple" = none) (m3 : mg "list" = none) (m4 : mg "len" = none) (m5 : mg "all" = none) : FnOk P w K mg base (L2.CX P w) 4 f fd ["values"] (spCTs K M) := by
  refine okXS F scCs (fun vs H Q E ⟨_, _, e, _⟩ => by rw [e]; rfl) ?_
  rintro cdv A outer s H _ Q E hr ⟨v, d, rfl, rp, hd, q⟩ hN nd tk
  have hz : (1000 : Nat) < sizeLine := by decide
  obtain ⟨t1, t2, t3, t4⟩ := kit_lt (K := K)
  change QB _ (_ :: _ :: []) _ [some _, none] _
  kct_strs
  refine ⟨Nat.le_of_ble_eq_true rfl, fun tp H1 htp s1 e1 => ?_⟩
  have rp1 := rp.to s1
  kct_strs
  rcases hd with rfl | rfl | ⟨a, b, rfl, ia, ib, hne⟩
  · refine callw_isiT rp1 rfl e1 t1 ?_
    kct_strs
    rw [if_pos (by decide)]
    kct_strs
    rw [if_pos rfl]
    kct_strs
    exact ws_raise rfl tk PySem.F.excBase_ValueError T.xM T.gM T.kM (raises_own T.bM T.tM) rfl (q H1 s1)
  · refine callw_isiT rp1 rfl e1 t3 ?_
    kct_strs
    rw [if_neg (by decide)]
    kct_strs
    refine callw_len_l rp1 ?_
    kct_strs
    rw [if_pos (by decide)]
    kct_strs
    rw [if_pos rfl]
    kct_strs
    exact ws_raise rfl tk PySem.F.excBase_ValueError T.xM T.gM T.kM (raises_own T.bM T.tM) rfl (q H1 s1)
  · refine callw_isiT rp1 rfl e1 t3 ?_
    kct_strs
    rw [if_neg (by decide)]
    kct_strs
    refine callw_len_l rp1 ?_
    kct_strs
    rw [if_neg (by simp)]
    kct_strs
    by_place
    kct_strs
    have ty2 : ∀ {t : List (List Int)}, itb (tD t) = true → tys2 (tD t) := fun {t} h => by
      obtain ⟨n, t', e, st, hn, _⟩ := itb_tab h
      rw [e]
      exact (tab_tys st (by omega)).2
    refine ⟨List (List Int), [a, b], tD, fun _ => .bl true, rp1, by show 2 < sizeLine; omega, fun _ _ => rfl, fun t ht w H2 s2 rt => ?_, fun p H2 ys s2 hp hp2 r => ?_⟩
    · have ti : itb (tD t) = true := by
        rcases List.mem_cons.mp ht with rfl | h
        · exact ia
        · rw [List.mem_singleton.mp h]; exact ib
      intro s0 H00 C0 cl fp
      kct_strs
      refine ⟨_, _, rfl, rt, rfl, ty2 ti, fun H3 s3 => ⟨s3, ?_⟩⟩
      rw [ti]
      exact .bl _
    · kct_strs
      refine callw_all (bs := [true, true]) rfl hp2 r ?_
      kct_strs
      rw [if_neg (by decide)]
      kct_strs
      have rp2 := rp1.to s2
      by_place
      kct_strs
      refine ⟨List (List Int), [a, b], tD, fun t => .bl (decide (t.length = a.length)), rp2, by show 2 < sizeLine; omega, fun _ _ => rfl, fun t ht w H3 s3 rt => ?_, fun p H3 ys s3 hp hp2 r => ?_⟩
      · intro s0 H00 C0 cl fp
        kct_strs
        refine callw_len_t rt ?_
        kct_strs
        refine ixw_ml (xs := [a, b]) (g := tD) (d0 := []) (rp2.to s3) (by decide) (by show 0 < 2; decide) fun w1 r1 => ?_
        kct_strs
        refine callw_len_t r1 ?_
        kct_strs
        refine ⟨Same.refl _, ?_⟩
        rw [List.length_map, List.length_map, show decide ((t.length : Int) = ((([a, b] : List (List (List Int))).getD (Int.toNat 0) []).length : Int)) = decide (t.length = a.length) from by rw [decide_eq_decide]; exact Int.natCast_inj]
        exact .bl _
      · kct_strs
        refine callw_all (bs := [decide (a.length = a.length), decide (b.length = a.length)]) rfl hp2 r ?_
        rw [decide_eq_false (show ¬ (b.length = a.length) from fun e => hne e.symm)]
        kct_strs
        rw [if_pos (by simp)]
        kct_strs
        exact ws_raise rfl tk PySem.F.excBase_ValueError T.xM T.gM T.kM (raises_own T.bM T.tM) rfl (q H3 (s1.trans (s2.trans s3)))
end
section
variable {P : Program} {w : World} {K : PySem.W.Frag} {mg : Str → Option Value} {base : Heap}
/-- without the first row and the column k -/
def cut0 (t : List (List Int)) (k : Nat) : List (List Int) := (t.drop 1).map fun r => r.take k ++ r.drop (k + 1)
/-- by the first row -/
def ld : Nat → List (List Int) → Int
  | 0, _ => 1
  | n + 1, t => ((List.range (n + 1)).map fun k : Nat => sg (k : Nat) * at2 t 0 k * ld n (cut0 t k)).sum
theorem cut0_rows {n : Nat} {t : List (List Int)} (h : Rows (n + 1) (n + 1) t) (k : Nat) (hk : k < n + 1) : Rows n n (cut0 t k) := by
  refine ⟨by unfold cut0; rw [List.length_map, List.length_drop, h.1]; rfl, fun r hr => ?_⟩
  unfold cut0 at hr
  obtain ⟨r', hr', rfl⟩ := List.mem_map.mp hr
  have := h.2 r' (List.mem_of_mem_drop hr')
  rw [List.length_append, List.length_take, List.length_drop]
  omega
theorem cut0_sm {B : Nat} {t : List (List Int)} (h : Sm B t) (k : Nat) : Sm B (cut0 t k) := by
  intro r hr x hx
  unfold cut0 at hr
  obtain ⟨r', hr', rfl⟩ := List.mem_map.mp hr
  rcases List.mem_append.mp hx with hx | hx
  · exact h r' (List.mem_of_mem_drop hr') x (List.mem_of_mem_take hx)
  · exact h r' (List.mem_of_mem_drop hr') x (List.mem_of_mem_drop hx)
/-- rows, each a tuple (b2) or a list, in a tuple (b) or a list -/
def TabB (K : PySem.W.Frag) (b b2 : Bool) (H : Hp) (v : V) (t : List (List Int)) : Prop := RpB K b H v (t.map fun r => dB b2 (r.map D.int))
theorem TabB.to {b b2 : Bool} {H H' : Hp} {v : V} {t : List (List Int)} (h : TabB K b b2 H v t) (s : Same H H') : TabB K b b2 H' v t := RpB.to h s
def spLD (K : PySem.W.Frag) (n : Nat) : Sp := fun vs H Q _ => ∃ (v : V) (b b2 : Bool) (t : List (List Int)), vs = [v] ∧ TabB K b b2 H v t ∧ Rows n n t ∧ Sm (2 ^ 20) t ∧ ∀ H', Same H H' → Q (.int (ld n t)) H'
theorem scLD : FnScope ["rows", "found", "k", "row"] ["rows"] (defScope (top 45)) := ⟨rfl, rfl, rfl, by decide +kernel, rfl, by decide +kernel, by decide +kernel⟩
theorem imInts (l : List Int) : imAll (l.map D.int) = true := imAll_map fun _ => rfl
theorem ok_mo_det {f : Addr} {fd : FuncData} (F : Fun K "_law_mo_det" "_law_mo_det" (top 45) f fd) (c1 : Cal P w K mg base 1 "_law_sign_of" spSg []) (g : mg "_law_mo_det" = some (.ref f)) (kp : PySem.W.keepIn K (.ref f) = true) (bd : Binds K fd ["rows"] []) (m1 : mg "len" = none) (m2 : mg "range" = none) : ∀ n, n ≤ 3 → FnOk P w K mg base CX0 (n + 2) f fd ["rows"] (spLD K n) := by
  intro n
  induction n with
  | zero =>
    intro _
    refine okS F scLD (fun vs H Q E ⟨_, _, _, _, e, _⟩ => by rw [e]; rfl) ?_
    rintro cdv A outer s H _ Q E hr ⟨v, b, b2, t, rfl, rt, st, hB, q⟩ hN nd
    change QB _ (_ :: (defBody (top 45)).drop 1) _ [some _, none, none, none] _
    kct_strs
    refine callw_len_B rt ?_
    rw [List.length_map, st.1]
    kct_strs
    rw [if_pos (by decide)]
    kct_strs
    exact q _ (Same.refl _)
  | succ n ih =>
    intro hn
    have O := ih (by omega)
    have c2 : Cal P w K mg base (n + 2) "_law_mo_det" (spLD K n) [] := ⟨f, fd, _, _, O, g, kp, bd, .nil⟩
    refine okS F scLD (fun vs H Q E ⟨_, _, _, _, e, _⟩ => by rw [e]; rfl) ?_
    rintro cdv A outer s H _ Q E hr ⟨v, b, b2, t, rfl, rt, st, hB, q⟩ hN nd
    have hr1 : Room 1 _ := hr.mono (by omega)
    have hz : (1000 : Nat) < sizeLine := by decide
    change QB _ (_ :: _ :: (Stmt.For _ _ _ [] _) :: (defBody (top 45)).drop 3) _ [some _, none, none, none] _
    kct_strs
    refine callw_len_B rt ?_
    rw [List.length_map, st.1]
    kct_strs
    rw [if_neg (by simp; omega)]
    kct_strs
    refine callw_len_B rt ?_
    rw [List.length_map, st.1]
    kct_strs
    refine ⟨by omega, fun k σ H' => Same H H' ∧ ∃ o1 : Option V, σ = [some v, some (.int (((List.range k).map fun k : Nat => sg (k : Nat) * at2 t 0 k * ld n (cut0 t k)).sum)), o1, none], ⟨Same.refl _, none, rfl⟩, ?_, ?_⟩
    · rintro k σ1 H1 hk ⟨s1, o1, rfl⟩
      have hk : k < n + 1 := by omega
      have rt1 := rt.to s1
      show QG _ _ _ _ _ _
      kct_strs
      refine ⟨_, rfl, ?_⟩
      kct_strs
      have t0 : 0 < t.length := by rw [st.1]; omega
      have l0 : (t.getD 0 []).length = n + 1 := st.2 _ (getD_mem t0)
      refine ixw_mB (xs := t) (d0 := []) rt1 (by decide) (by show 0 < t.length; omega) fun w1 r1 => ?_
      kct_strs
      refine ixw_rowB (rpB_dB.mpr r1) (by omega) (by rw [Int.toNat_natCast]; show k < (t.getD 0 []).length; omega) ?_
      have e0 : (t.getD (Int.toNat 0) []).getD (Int.toNat (k : Nat)) 0 = at2 t 0 k := by rw [Int.toNat_natCast]; rfl
      have b0 := hB.at st (i := 0) (k := k) (by omega) hk
      have sgs : sg (k : Nat) = 1 ∨ sg (k : Nat) = -1 := by unfold sg; split <;> simp
      have b1 : (sg (k : Nat) * at2 t 0 k).natAbs < 2 ^ 20 := by rcases sgs with e | e <;> rw [e] <;> omega
      kct_strs
      rw [e0]
      refine opw_mul (.inl (by omega)) ?_
      refine we_call c2 hr (Nat.le_refl _) rfl ?_ (by decide) rfl rfl
      kct_strs
      (with_reducible refine' ql_mB b b2 ?h ?hN ?nd ?hl ?hf ?q); (case hN => first | with_reducible assumption | assumption); (case h => infer_instance); (case nd => first | with_reducible assumption | assumption); (case hl => (intro _ _ _ _ _; first | exact Or.inl rfl | exact Or.inr rfl)); (case hf => (intro _ _ _ _ _; first | exact Or.inl rfl | exact Or.inr rfl)); (case' q => skip)
      refine we_slLoB b ?_
      kct_strs
      refine ⟨_, 1, rfl, ⟨by decide, by rw [List.length_map]; omega⟩, rt1, fun v2 H2 s2 r2 => ?_⟩
      have r2' := r2.rpb
      rw [← List.map_drop] at r2'
      refine ⟨List Int, t.drop 1, _, fun r => (r.take k ++ r.drop (k + 1)).map D.int, r2', by rw [List.length_drop, st.1]; omega, fun r _ => imInts _, fun r hr w3 H3 s3 rr => ?_, fun p H3 ys s3 hp hp2 r => ?_⟩
      · have lr : r.length = n + 1 := st.2 r (List.mem_of_mem_drop hr)
        intro s0 H00 C0 cl fp
        kct_strs
        refine we_slHiB b2 ?_
        kct_strs
        refine ⟨_, k, rfl, by rw [List.length_map]; omega, rpB_dB.mpr rr, fun v4 H4 s4 r4 => ?_⟩
        refine we_slLoB b2 ?_
        kct_strs
        refine ⟨_, k + 1, by simp, ⟨by omega, by rw [List.length_map]; omega⟩, (rpB_dB.mpr rr).to s4, fun v5 H5 s5 r5 => ?_⟩
        refine opw_catB (r4.to s5).lv r5.lv (by rw [List.length_take, List.length_drop, List.length_map]; omega) fun v6 H6 s6 r6 => ?_
        refine ⟨s4.trans (s5.trans s6), ?_⟩
        rw [← List.map_take, ← List.map_drop, ← List.map_append] at r6
        exact r6.mono (s4.trans s5)
      · kct_strs
        have r3 : TabB K false b2 H3 (.ref p) (cut0 t k) := by
          show Rp K H3 (.ref p) (.lst _)
          unfold cut0
          rw [List.map_map]
          exact .lstOf hp2 r
        refine ⟨.ref p, false, b2, cut0 t k, rfl, r3, cut0_rows st k hk, cut0_sm hB k, fun H4 s4 => ?_⟩
        refine opw_mul (.inl (by omega)) ?_
        kct_strs
        refine ⟨s1.trans (s2.trans (s3.trans s4)), some (.int (k : Nat)), ?_⟩
        rw [List.range_succ, List.map_append, List.sum_append]
        simp only [List.map_cons, List.map_nil, List.sum_cons, List.sum_nil, Int.add_zero]
    · rintro σ1 H1 ⟨s1, o1, rfl⟩
      change QB _ (_ :: []) _ _ _
      kct_strs
      exact q _ s1
end
section
variable {P : Program} {w : World} {K : PySem.W.Frag} {mg : Str → Option Value} {base : Heap}
def dotL (r c : List Int) : Int := (List.zipWith (fun a b => a * b) r c).foldl (fun x y => x + y) 0
def moLed (t : List (List Int)) (c : List Int) : List Int := t.map fun r => dotL r c
theorem scLr : FnScope ["table", "x", "found", "row", "total_sum", "a", "y"] ["table", "x"] (defScope (top 46)) := ⟨rfl, rfl, rfl, by decide +kernel, rfl, by decide +kernel, by decide +kernel⟩
theorem scSk : FnScope ["state", "wide", "found", "turn", "rows", "i", "k", "row"] ["state", "wide"] (defScope (top 47)) := ⟨rfl, rfl, rfl, by decide +kernel, rfl, by decide +kernel, by decide +kernel⟩
def spMoLed (K : PySem.W.Frag) (C : Addr) : Sp := fun vs H Q _ => ∃ (x y : V) (t : List (List Int)) (c : List Int) (n : Nat), vs = [x, y] ∧ Rp K H x (tD t) ∧ Rp K H y (.tup (c.map (rt3 C))) ∧ Rows n n t ∧ c.length = n ∧ (1 ≤ n ∧ n ≤ 3) ∧ Sm 4 t ∧ (∀ z ∈ c, z.natAbs ≤ 4) ∧ ∀ u H', Same H H' → Rp K H' u (.tup ((moLed t c).map (rt3 C))) → Q u H'
theorem init_use2 {C M R x dx : Addr} {H H2 : Hp} {N D : Int} {Q : Hp → Prop} {E : XK} (hx0 : H x = none) (s : Same H H2) (hx : H2 x = some (.ins C dx [])) (hD : D.natAbs < 1073741824)
    (hz : D ≠ 0) (q : ∀ H', Same H H' → Rt C H' x (rp N D) (rq N D) → Q H') : spInit (K := K) M R C [.ref x, .int N, .int D] H2 (fun v H3 => v = .non ∧ Q H3) E :=
  init_use (Q := fun _ H3 => Q H3) hx0 s hx hD (fun e => absurd e hz) fun _ => q
theorem ok_mo_led {f Fa M R C : Addr} {fd : FuncData} (F : Fun K "_law_mo_led" "_law_mo_led" (top 46) f fd) (T : Cls4 K mg Fa M R C) (m2 : mg "zip" = none) (m3 : mg "tuple" = none) (mkD : MakD P w K mg base (L2.CX P w) 3 "Ratio" C (spInit (K := K) M R C) [.int 1])
    (a1 : MetX P w K mg base (L2.CX P w) 5 C "__add__" (spOp K M R C (fun p q p' q' => p * q' + p' * q) (fun p q p' q' => q * q'))) (a2 : MetX P w K mg base (L2.CX P w) 5 C "__mul__" (spOp K M R C (fun p q p' q' => p * p') (fun p q p' q' => q * q'))) : FnOk P w K mg base (L2.CX P w) 6 f fd ["table", "x"] (spMoLed K C) := by
  refine okXS F scLr (fun vs H Q E ⟨_, _, _, _, _, e, _⟩ => by rw [e]; rfl) ?_
  rintro cdv A outer s H _ Q E hr ⟨x, y, t, c, n, rfl, rt, rc, st, lc, hn, hS, hB, q⟩ hN nd tk
  have pp := passes_of (X := cxOf (L2.CX P w) P w K mg base ["table", "x", "found", "row", "total_sum", "a", "y"] "_law_mo_led" (defScope (top 46)) f cdv A outer s H E) rfl
  have hz : (1000 : Nat) < sizeLine := by decide
  change QB _ (_ :: (Stmt.For _ _ _ [] _) :: (defBody (top 46)).drop 2) _ [some _, some _, none, none, none, none, none] _
  kct_strs
  refine ⟨Nat.le_of_ble_eq_true rfl, fun lf H1 hlf s1 e1 => ?_⟩
  kct_strs
  fin_fold
  kct_strs
  have kl0 : Lst H1 lf := ⟨_, e1⟩
  refine ⟨_, lf, rt.to s1, imAll_map ints_im, kl0, fun k σ H' => KL lf H1 H' ∧ ∃ (acc : List V) (o1 o2 o3 o4 : Option V), H' lf = some (.lst acc) ∧ RpAll K H' acc ((t.take k).map fun r => rt3 C (dotL r c)) ∧ σ = [some x, some y, some (.ref lf), o1, o2, o3, o4], ⟨KL.refl, [], none, none, none, none, e1, .nil, rfl⟩, fun k σ H' h => h.1, ?_, ?_⟩
  · rintro k d w σ1 H2 hk ⟨k2, acc, o1, o2, o3, o4, e2, ra, rfl⟩ rr
    rw [List.getElem?_map] at hk
    cases hr' : t[k]? with
    | none => rw [hr'] at hk; cases hk
    | some r =>
      rw [hr'] at hk
      cases hk
      have lr : r.length = n := st.2 r (List.mem_of_getElem? hr')
      have rc2 := k2.rp kl0 (rc.to s1) (rats_im _ _)
      have sr : ∀ x ∈ r, x.natAbs < 4 := hS r (List.mem_of_getElem? hr')
      show QG _ _ _ _ _ _
      kct_strs
      refine we_makeD mkD tk hr (by decide) rfl ?_ (by decide) rfl rfl
      kct_strs
      intro cx dx H3 hx0 s3 hx hdx hne
      refine init_use2 (N := 0) (D := 1) hx0 s3 hx (by decide) (by decide) (fun H4 s4 r4 => ?_)
      rw [zero3.1, zero3.2] at r4
      have rt4 := Rt.dat (K := K) r4
      kct_strs
      fin_iter
      kct_strs
      refine ⟨true, true, _, _, rr.to s4, rc2.to s4, fun j σ H' => Same H4 H' ∧ ∃ (u : V) (o5 o6 : Option V), Rp K H' u (rt3 C (((List.zipWith (fun a b => a * b) r c).take j).foldl (fun x y => x + y) 0)) ∧ σ = [some x, some y, some (.ref lf), some w, some u, o5, o6], ⟨Same.refl _, _, _, _, rt4, rfl⟩, fun j σ H' h => h.1, ?_, ?_⟩
      · rintro j d1 d2 u1 u2 p σ3 H6 H7 hj1 hj2 ⟨s6, u, o5, o6, ru, rfl⟩ s7 hp ru1 ru2
        rw [List.getElem?_map] at hj1 hj2
        cases ha : r[j]? with
        | none => rw [ha] at hj1; cases hj1
        | some a =>
          cases hb : c[j]? with
          | none => rw [hb] at hj2; cases hj2
          | some b =>
            rw [ha] at hj1
            rw [hb] at hj2
            cases hj1
            cases hj2
            obtain rfl := ru1.int_inv
            obtain ⟨b1, rfl, dy, hb1⟩ := Rp.rat ru2
            have sa : a.natAbs < 4 := sr a (List.mem_of_getElem? ha)
            have sb : b.natAbs ≤ 4 := hB b (List.mem_of_getElem? hb)
            have hz : (List.zipWith (fun a b => a * b) r c)[j]? = some (a * b) := by rw [List.getElem?_zipWith, ha, hb]
            have hj3 : j < 3 := by
              have := (List.getElem?_eq_some_iff.mp ha).1
              omega
            have sacc := acc_sm (n := n) (r := r) (c := c) sr hB (z := 0) (by decide) j (by omega) (by simp; omega)
            kct_strs
            refine we_makeD mkD tk hr (by decide) rfl ?_ (by decide) rfl rfl
            kct_strs
            intro ca da H8 hc0 s8 hca hda hnea
            refine init_use2 (N := a) (D := 1) hc0 s8 hca (by decide) (by decide) (fun H9 s9 r9 => ?_)
            kct_strs
            obtain ⟨d9, h9⟩ := r9
            have hb9 := s9 _ _ hb1
            refine opw_own a2 T.pC tk hr (by decide) h9 hb9 ?_
            obtain ⟨q1, _, _, q4⟩ := rat_facts a 1 (by decide)
            obtain ⟨f1, f2, f3⟩ := b3 (z := b) (B := 5) (by omega) (by decide)
            refine ⟨ca, _, _, _, rfl, ⟨d9, h9⟩, Nat.lt_of_le_of_lt q4 (by decide), .inl ⟨b1, _, _, rfl, ⟨dy, hb9⟩, f1, f2, fun _ a6 H8 s8 r8 => ?_, fun e => ((Int.mul_eq_zero.mp e).elim (fun e => absurd e (by omega)) f3).elim⟩⟩
            rw [(mul3 _ _).1, (mul3 _ _).2] at r8
            obtain ⟨u6, rfl, du, hu6⟩ := Rp.rat (ru.to (s7.trans (s9.trans s8)))
            obtain ⟨d8, h8⟩ := r8
            refine opw_own a1 T.pC tk hr (by decide) hu6 h8 ?_
            obtain ⟨g1, g2, g3⟩ := b3 (z := a * b) (B := 13) (by rw [Int.natAbs_mul]; exact Nat.lt_of_le_of_lt (Nat.mul_le_mul (show a.natAbs ≤ 3 by omega) sb) (by decide)) (by decide)
            obtain ⟨e1, e2, e3⟩ := b3 (B := 49) (Nat.lt_succ_of_le sacc) (by decide)
            refine ⟨u6, _, _, _, rfl, ⟨du, hu6⟩, e2, .inl ⟨a6, _, _, rfl, ⟨d8, h8⟩, g1, g2, fun _ a9 H10 s10 r10 => ?_, fun e => ((Int.mul_eq_zero.mp e).elim e3 g3).elim⟩⟩
            rw [(add3 _ _).1, (add3 _ _).2] at r10
            kct_strs
            exact ⟨s6.trans (s7.trans (s9.trans (s8.trans s10))), .ref a9, _, _, by rw [foldl_take hz]; exact Rt.dat r10, rfl⟩
      · rintro σ3 H6 ⟨s6, u, o5, o6, ru, rfl⟩
        have lz : (List.zipWith (fun a b => a * b) r c).length = min (r.map D.int).length (c.map (rt3 C)).length := by simp
        rw [← lz, List.take_length] at ru
        have S6 : Same H2 H6 := s4.trans s6
        kct_strs
        fin_run
        kct_strs
        refine ⟨lf, acc, rfl, S6 _ _ e2, ?_⟩
        kct_strs
        have la : acc.length = k := by
          rw [ra.len, List.length_map, List.length_take]
          have := (List.getElem?_eq_some_iff.mp hr').1
          omega
        have hk3 : k < 3 := by
          have := (List.getElem?_eq_some_iff.mp hr').1
          have := st.1
          omega
        refine ⟨acc, S6 _ _ e2, by omega, ?_⟩
        kct_strs
        have l6 : Lst H6 lf := ⟨_, S6 _ _ e2⟩
        refine ⟨(k2.same S6).trans KL.upd, acc ++ [u], _, _, _, _, upd_same, ?_, rfl⟩
        rw [List.take_succ, hr', List.map_append]
        exact (KL.upd.rpA l6 (ra.to S6) (imAll_map fun _ => rt3_im C _)).snoc (KL.upd.rp l6 ru (rt3_im C _))
  · rintro σ1 H2 ⟨k2, acc, o1, o2, o3, o4, e2, ra, rfl⟩
    rw [List.length_map, List.take_length] at ra
    change QB _ (_ :: []) _ _ _
    kct_strs
    refine callw_tuple_l (.lstOf e2 ra) fun v H3 s3 r3 => ?_
    kct_strs
    refine q v H3 (fun b o e => s3 b o (k2.s b o (ne_of_none e hlf) (s1 b o e))) ?_
    unfold moLed
    rw [List.map_map]
    exact r3
end
section
variable {P : Program} {w : World} {K : PySem.W.Frag} {mg : Str → Option Value} {base : Heap}
def setE (t : List (List Int)) (i k : Nat) (c : Int) : List (List Int) := t.set i ((t.getD i []).set k c)
/-- an elementary table, as the law draws it -/
def Elem (n : Nat) (e : List (List Int)) : Prop := e = plain n ∨ (∃ (i k : Nat) (c : Int), i < n ∧ k < n ∧ i ≠ k ∧ (-2 ≤ c ∧ c ≤ 2) ∧ e = setE (plain n) i k c) ∨ ∃ i : Nat, i < n ∧ e = setE (plain n) i i (-1)
inductive Skew (n : Nat) : Nat → List (List Int) → Prop
  | zero : Skew n 0 (plain n)
  | succ {m : Nat} {t e : List (List Int)} : Skew n m t → Elem n e → Skew n (m + 1) (mul t e)
theorem setE_rows {n i k : Nat} {t : List (List Int)} {c : Int} (h : Rows n n t) (hi : i < n) : Rows n n (setE t i k c) := by
  refine ⟨by unfold setE; rw [List.length_set]; exact h.1, fun r hr => ?_⟩
  unfold setE at hr
  rcases List.mem_or_eq_of_mem_set hr with hr | rfl
  · exact h.2 r hr
  · rw [List.length_set]
    exact h.2 _ (getD_mem (by rw [h.1]; exact hi))
theorem plain_sm (n : Nat) : Sm 3 (plain n) := by
  intro r hr x hx
  unfold plain at hr
  obtain ⟨i, _, rfl⟩ := List.mem_map.mp hr
  obtain ⟨k, _, rfl⟩ := List.mem_map.mp hx
  unfold one0
  split <;> decide
theorem setE_sm {n i k : Nat} {t : List (List Int)} {c : Int} {B : Nat} (h : Sm B t) (hr : Rows n n t) (hi : i < n) (hc : c.natAbs < B) : Sm B (setE t i k c) := by
  intro r hr' x hx
  unfold setE at hr'
  rcases List.mem_or_eq_of_mem_set hr' with hr' | rfl
  · exact h r hr' x hx
  · rcases List.mem_or_eq_of_mem_set hx with hx | rfl
    · exact h _ (getD_mem (by rw [hr.1]; exact hi)) x hx
    · exact hc
theorem Elem.rows {n : Nat} {e : List (List Int)} (h : Elem n e) : Rows n n e := by
  rcases h with rfl | ⟨i, k, c, hi, _, _, _, rfl⟩ | ⟨i, hi, rfl⟩
  · exact plain_rows n
  · exact setE_rows (plain_rows n) hi
  · exact setE_rows (plain_rows n) hi
theorem Elem.sm {n : Nat} {e : List (List Int)} (h : Elem n e) : Sm 3 e := by
  rcases h with rfl | ⟨i, k, c, hi, _, _, hc, rfl⟩ | ⟨i, hi, rfl⟩
  · exact plain_sm n
  · exact setE_sm (plain_sm n) (plain_rows n) hi (by omega)
  · exact setE_sm (plain_sm n) (plain_rows n) hi (by decide)
theorem Skew.rows {n m : Nat} {t : List (List Int)} (h : Skew n m t) (hn : 1 ≤ n) : Rows n n t := by
  induction h with
  | zero => exact plain_rows n
  | succ _ he ih => exact mul_rows ih he.rows hn
def spSkew (K : PySem.W.Frag) : Sp := fun vs H Q _ => ∃ (a : Addr) (n : Nat), vs = [.ref a, .int n] ∧ St a H ∧ (1 ≤ n ∧ n ≤ 3) ∧ ∀ v t H', Ke a H H' → Rp K H' v (tD t) → Skew n 3 t → Q v H'
def skLast : Stmt := match top 47 with
  | .FunctionDef _ _ body .. => match body.getD 1 (.Pass ⟨0, 0, 0, 0⟩) with
    | .For _ _ b _ _ => b.getD 3 (.Pass ⟨0, 0, 0, 0⟩)
    | _ => .Pass ⟨0, 0, 0, 0⟩
  | _ => .Pass ⟨0, 0, 0, 0⟩
theorem ok_mo_skew {f : Addr} {fd : FuncData} (F : Fun K "_law_mo_skew" "_law_mo_skew" (top 47) f fd) (c1 : Cal P w K mg base 1 "_law_mo_plain" (spMk K plain) []) (c2 : Cal P w K mg base 1 "_law_mo_times" (spMul K) []) (c3 : Cal P w K mg base 1 "_law_take" spTake []) (m1 : mg "list" = none) (m2 : mg "range" = none) (m3 : mg "tuple" = none) : FnOk P w K mg base CX0 2 f fd ["state", "wide"] (spSkew K) := by
  refine okS F scSk (fun vs H Q E ⟨_, _, e, _⟩ => by rw [e]; rfl) ?_
  rintro cdv A outer s H _ Q E hr ⟨a, n, rfl, hA, hn, q⟩ hN nd
  have hz : (1000 : Nat) < sizeLine := by decide
  change QB _ (_ :: (Stmt.For _ _ _ [] _) :: (defBody (top 47)).drop 2) _ [some _, some _, none, none, none, none, none, none] _
  kct_strs
  refine ⟨n, rfl, hn.2, fun v1 H1 s1 r1 => ?_⟩
  kct_strs
  have hA1 := Ke.of_same hA s1
  refine ⟨by omega, fun j σ H' => Ke a H H' ∧ ∃ (u : V) (t : List (List Int)) (o1 o2 o3 o4 : Option V), Rp K H' u (tD t) ∧ Skew n j t ∧ σ = [some (.ref a), some (.int n), some u, o1, o2, o3, o4, none], ⟨hA1, v1, _, none, none, none, none, r1, .zero, rfl⟩, ?_, ?_⟩
  · rintro j σ1 H2 hj ⟨k2, u, t, o1, o2, o3, o4, ru, sk, rfl⟩
    show QG _ _ _ _ _ _
    kct_strs
    (with_reducible refine' ql_mN true ?h ?hN ?nd ?hl ?hf ?q); (case hN => first | with_reducible assumption | assumption); (case h => infer_instance); (case nd => first | with_reducible assumption | assumption); (case hl => (intro _ _ _ _ _; first | exact Or.inl rfl | exact Or.inr rfl)); (case hf => (intro _ _ _ _ _; first | exact Or.inl rfl | exact Or.inr rfl)); (case' q => skip)
    kct_strs
    refine ⟨n, rfl, hn.2, fun v3 H3 s3 r3 => ?_⟩
    refine ⟨List Int, plain n, rD, fun r => r.map D.int, r3, by rw [(plain_rows n).1]; omega, fun r _ => imInts _, fun r hr w4 H4 s4 rr => ?_, fun p H4 as s4 hp hp2 ra => ?_⟩
    · intro s0 H00 C0 cl fp
      kct_strs
      refine callw_list (b := true) rr fun p H5 xs hp s5 e5 r5 => ⟨s5, p, xs, rfl, hp, e5, r5⟩
    · kct_strs
      have S4 : Same H2 H4 := s3.trans s4
      have k4 := k2.trans (Ke.of_same k2.t S4)
      have pa : p ≠ a := by
        rintro rfl
        obtain ⟨x, y, z⟩ := (Ke.of_same k2.t s3).t
        rw [hp] at z
        cases z
      have na : a ∉ as := fun h => by
        obtain ⟨x, y, z⟩ := (Ke.of_same k2.t s3).t
        rw [ra.fr a h] at z
        cases z
      have imM : ∀ (e : List (List Int)), ∀ ds ∈ e.map (fun r => r.map D.int), imAll ds = true := fun e ds hd => by
        obtain ⟨r, _, rfl⟩ := List.mem_map.mp hd
        exact imInts r
      have fin : ∀ (e : List (List Int)) (H7 : Hp) (o3 o4 : Option V) (E1 : Ends), (∀ H8 u8 t8, Ke a H H8 → Rp K H8 u8 (tD t8) → Skew n (j + 1) t8 → E1.nx [some (.ref a), some (.int n), some u8, some (.int (j : Nat)), some (.ref p), o3, o4, none] H8) → Elem n e → Ke a H H7 → Rp K H7 u (tD t) → H7 p = some (.lst (as.map V.ref)) → RowsAt K H3 H7 p as (e.map fun r => r.map D.int) →
          QB (cxOf CX0 P w K mg base ["state", "wide", "found", "turn", "rows", "i", "k", "row"] "_law_mo_skew" (defScope (top 47)) f cdv A outer s H E).nox [skLast] E1 [some (.ref a), some (.int n), some u, some (.int (j : Nat)), some (.ref p), o3, o4, none] H7 := by
        intro e H7 o3 o4 E1 hnx he k7 ru7 e7 ra7
        change QB _ (Stmt.Assign [_] _ _ :: []) _ _ _
        kct_strs
        by_place
        kct_strs
        have rp7 : Rp K H7 (.ref p) (.lst (e.map fun r => .lst (r.map D.int))) := by
          have := ra7.rp
          rw [List.map_map] at this
          exact .lstOf e7 this
        refine ⟨List Int, e, fun r => .lst (r.map D.int), rD, rp7, by rw [he.rows.1]; omega, fun r _ => ints_im r, fun r hr w8 H8 s8 rr8 => ?_, fun p9 H9 ys s9 hp9 hp9' r9 => ?_⟩
        · intro s0 H00 C0 cl fp
          kct_strs
          exact callw_tuple_l rr8 fun v H9 s9 r9 => ⟨s9, r9⟩
        · kct_strs
          refine callw_tuple_l (.lstOf hp9' r9) fun v10 H10 s10 r10 => ?_
          kct_strs
          have ht := sk.rows hn.1
          refine ⟨u, v10, t, e, n, n, rfl, ru7.to (s9.trans s10), r10, ht, he.rows, hn, hn.2, fun r hr x hx => Nat.lt_trans (he.sm r hr x hx) (by decide), fun v11 H11 s11 r11 => ?_⟩
          kct_strs
          exact hnx H11 v11 _ (k7.trans (Ke.of_same k7.t (s9.trans (s10.trans s11)))) r11 (.succ sk he)
      refine ⟨a, n, rfl, by omega, k4.t, fun i H5 i0 i1 k5 => ?_⟩
      kct_strs
      refine ⟨a, n, rfl, by omega, k5.t, fun k H6 j0 j1 k6 => ?_⟩
      obtain ⟨i, rfl⟩ := Int.eq_ofNat_of_zero_le i0
      obtain ⟨k, rfl⟩ := Int.eq_ofNat_of_zero_le j0
      have hi : i < n := by omega
      have hk : k < n := by omega
      have K6 : Ke a H4 H6 := k5.trans k6
      have kk6 := k4.trans K6
      have e6 : H6 p = some (.lst (as.map V.ref)) := K6.s _ _ pa hp2
      have ra6 := ra.keepA k4.t.lst na (imM _) K6.s
      have ru6 : Rp K H6 u (tD t) := K6.rp k4.t (ru.to S4) (imAll_map ints_im)
      have ask : ∀ j, j < n → ∃ b, as[j]? = some b := fun j hj => by
        have : as.length = n := by rw [ra6.len, List.length_map, (plain_rows n).1]
        exact ⟨as[j], List.getElem?_eq_getElem (by omega)⟩
      /- an item is set -/
      have put : ∀ (H7 : Hp) (i k : Nat) (c : Int), i < n → k < n → Ke a H H7 → Rp K H7 u (tD t) → H7 p = some (.lst (as.map V.ref)) → RowsAt K H3 H7 p as ((plain n).map fun r => r.map D.int) →
          ∃ b xs, as[i]? = some b ∧ H7 b = some (.lst xs) ∧ xs.length = n ∧ Ke a H (upd H7 b (.lst (xs.set k (.int c)))) ∧ Rp K (upd H7 b (.lst (xs.set k (.int c)))) u (tD t) ∧ (upd H7 b (.lst (xs.set k (.int c)))) p = some (.lst (as.map V.ref)) ∧ RowsAt K H3 (upd H7 b (.lst (xs.set k (.int c)))) p as ((setE (plain n) i k c).map fun r => r.map D.int) := by
        intro H7 i k c hi hk k7 ru7 e7 ra7
        obtain ⟨b, hb⟩ := ask i hi
        obtain ⟨xs, ds, z1, z2, z3⟩ := ra7.at_ i b hb
        have hm := List.mem_of_getElem? hb
        have nb : H b = none := by
          cases z : H b with
          | none => rfl
          | some o =>
            have : b ≠ a := fun e => na (e ▸ hm)
            have z4 := s3 _ _ (k2.s _ _ this z)
            rw [ra7.fr b hm] at z4
            cases z4
        have hl : Lst H7 b := ⟨_, z1⟩
        have ba : b ≠ a := fun e => na (e ▸ hm)
        have bp : b ≠ p := fun e => ra7.np (e ▸ hm)
        rw [List.getElem?_map] at z2
        have gi : (plain n)[i]? = some ((plain n).getD i []) := by
          have : i < (plain n).length := by rw [(plain_rows n).1]; exact hi
          rw [List.getD_eq_getElem?_getD, List.getElem?_eq_getElem this]
          rfl
        rw [gi] at z2
        cases z2
        have lx : xs.length = n := by rw [z3.len, List.length_map]; exact (plain_rows n).2 _ (List.mem_of_getElem? gi)
        refine ⟨b, xs, hb, z1, lx, ⟨fun c o hc e => by rw [upd_ne (ne_of_none e nb)]; exact k7.s _ _ hc e, ?_⟩, KL.upd.rp hl ru7 (imAll_map ints_im), by rw [upd_ne bp.symm]; exact e7, ?_⟩
        · obtain ⟨x, y, z⟩ := k7.t
          exact ⟨x, y, by rw [upd_ne ba.symm]; exact z⟩
        · have := ra7.set (k := k) (c := c) hb z1 (by rw [List.getElem?_map, gi]; rfl) z3 (imM _)
          unfold setE
          rw [List.map_set, List.map_set]
          exact this
      kct_strs
      refine ifn (fun e1 => ?_) (fun e1 => ?_)
      · kct_strs
        refine ⟨a, 5, rfl, by omega, K6.t, fun c H7 c0 c1 k7 => ?_⟩
        kct_strs
        obtain ⟨b, xs, hb, z1, lx, z2, z3, z4, z5⟩ := put H7 i k (c - 2) hi hk (kk6.trans k7) (k7.rp K6.t ru6 (imAll_map ints_im)) (k7.s _ _ pa e6) (ra6.keepA K6.t.lst na (imM _) k7.s)
        refine ixw_sl (v := .ref b) (.inl (.inl (k7.s _ _ pa e6))) (by rw [atI_nat (by rw [List.length_map]; exact (List.getElem?_eq_some_iff.mp hb).1)]; simp [(List.getElem?_eq_some_iff.mp hb).2]) ?_
        kct_strs
        refine setw_lst z1 (j := k) (by unfold ixN; rw [if_pos (by omega), if_pos (by omega)]; simp) ?_
        exact fin _ _ _ _ _ (fun H8 u8 t8 z1 z2 z3 => ⟨z1, u8, t8, _, _, _, _, z2, z3, rfl⟩) (.inr (.inl ⟨i, k, c - 2, hi, hk, by omega, by omega, rfl⟩)) z2 z3 z4 z5
      · have hik : i = k := by omega
        subst hik
        kct_strs
        refine ⟨a, 2, rfl, by omega, K6.t, fun c H7 c0 c1 k7 => ?_⟩
        kct_strs
        have ru7 := k7.rp K6.t ru6 (imAll_map ints_im)
        have e7 := k7.s _ _ pa e6
        have ra7 := ra6.keepA K6.t.lst na (imM _) k7.s
        refine ifd (fun e2 => ?_) (fun e2 => ?_)
        · kct_strs
          obtain ⟨b, xs, hb, z1, lx, z2, z3, z4, z5⟩ := put H7 i i (-1) hi hk (kk6.trans k7) ru7 e7 ra7
          refine ixw_sl (v := .ref b) (.inl (.inl e7)) (by rw [atI_nat (by rw [List.length_map]; exact (List.getElem?_eq_some_iff.mp hb).1)]; simp [(List.getElem?_eq_some_iff.mp hb).2]) ?_
          kct_strs
          refine setw_lst z1 (j := i) (by unfold ixN; rw [if_pos (by omega), if_pos (by omega)]; simp) ?_
          exact fin _ _ _ _ _ (fun H8 u8 t8 z1 z2 z3 => ⟨z1, u8, t8, _, _, _, _, z2, z3, rfl⟩) (.inr (.inr ⟨i, hi, rfl⟩)) z2 z3 z4 z5
        · refine wss_nil ?_
          exact fin _ _ _ _ _ (fun H8 u8 t8 z1 z2 z3 => ⟨z1, u8, t8, _, _, _, _, z2, z3, rfl⟩) (.inl rfl) (kk6.trans k7) ru7 e7 ra7
  · rintro σ1 H2 ⟨k2, u, t, o1, o2, o3, o4, ru, sk, rfl⟩
    change QB _ (_ :: []) _ _ _
    kct_strs
    exact q u t H2 k2 ru sk
end
section
variable {P : Program} {w : World} {K : PySem.W.Frag} {mg : Str → Option Value} {base : Heap}
theorem scSm : FnScope ["one", "two", "k"] ["one", "two"] (defScope (top 39)) := ⟨rfl, rfl, rfl, by decide +kernel, rfl, by decide +kernel, by decide +kernel⟩
theorem scRs : FnScope ["act", "given", "refused"] ["act", "given"] (defScope (top 40)) := ⟨rfl, rfl, rfl, by decide +kernel, rfl, by decide +kernel, by decide +kernel⟩
/-- ints and None, in n tuples one in another at most -/
def dsm : Nat → D → Bool
  | _, .int _ => true
  | _, .non => true
  | n + 1, .tup ds => decide (ds.length ≤ 1000) && ds.all (dsm n)
  | _, _ => false
def spSame (K : PySem.W.Frag) (n : Nat) : Sp := fun vs H Q _ => ∃ v u d, vs = [v, u] ∧ Rp K H v d ∧ Rp K H u d ∧ dsm n d = true ∧ ∀ H', Same H H' → Q (.bl true) H'
theorem ok_law_same {f : Addr} {fd : FuncData} (F : Fun K "_law_same" "_law_same" (top 39) f fd) (c1 : Cal P w K mg base 1 "_law_is_whole" (spWhole K) []) (g : mg "_law_same" = some (.ref f)) (kp : PySem.W.keepIn K (.ref f) = true) (bd : Binds K fd ["one", "two"] []) (m1 : mg "isinstance" = none) (m2 : mg "tuple" = none) (m3 : mg "str" = none) (m4 : mg "len" = none) (m5 : mg "all" = none) (m6 : mg "range" = none) : ∀ n, FnOk P w K mg base CX0 (n + 2) f fd ["one", "two"] (spSame K n) := by
  have low : ∀ (k : Nat) (cdv : Value) (A : Around) (outer : List Env) (s : Shared) (H : Hp) (Q : VK) (E : XK) (v u : V) (d : D), Room k (A.deeper (envOfC "_law_same" (defScope (top 39)) s.heap.objs.size f cdv)) → 1 ≤ k → (d = .non ∨ ∃ i, d = .int i) → Rp K H v d → Rp K H u d → (∀ H', Same H H' → Q (.bl true) H') →
      (cxOf CX0 P w K mg base ["one", "two", "k"] "_law_same" (defScope (top 39)) f cdv A outer s H E).nox.N = (["one", "two", "k"] : List Str) → (cxOf CX0 P w K mg base ["one", "two", "k"] "_law_same" (defScope (top 39)) f cdv A outer s H E).nox.N.Nodup →
      QB (cxOf CX0 P w K mg base ["one", "two", "k"] "_law_same" (defScope (top 39)) f cdv A outer s H E).nox (defBody (top 39)) { nx := fun _ H' => Q .non H', rt := Q } [some v, some u, none] H := by
    intro k cdv A outer s H Q E v u d hr hk hd rv ru q hN nd
    have hr1 : Room 1 _ := hr.mono hk
    rcases hd with rfl | ⟨i, rfl⟩
    · change QB _ (_ :: _ :: _ :: (defBody (top 39)).drop 3) _ [some _, some _, none] _
      kct_strs
      refine ifb (fun e => by cases e) (fun _ => ?_)
      kct_strs
      refine ifb (fun e => by cases e) (fun _ => ?_)
      kct_strs
      refine ifb (fun e => ?_) (fun e => by cases e)
      kct_strs
      exact q _ (Same.refl _)
    · change QB _ (_ :: _ :: _ :: (defBody (top 39)).drop 3) _ [some _, some _, none] _
      kct_strs
      refine ifb (fun e => by cases e) (fun _ => ?_)
      kct_strs
      refine ifb (fun e => by cases e) (fun _ => ?_)
      kct_strs
      refine ifb (fun e => by cases e) (fun _ => ?_)
      kct_strs
      change QB _ (_ :: []) _ _ _
      kct_strs
      refine ⟨_, _, rfl, rv, rfl, ?_⟩
      kct_strs
      refine ifb (fun _ => ?_) (fun e => by cases e)
      obtain rfl := rv.int_inv
      obtain rfl := ru.int_inv
      kct_strs
      rw [decide_eq_true rfl]
      exact q _ (Same.refl _)
  intro n
  induction n with
  | zero =>
    refine okS F scSm (fun vs H Q E ⟨_, _, _, e, _⟩ => by rw [e]; rfl) ?_
    rintro cdv A outer s H _ Q E hr ⟨v, u, d, rfl, rv, ru, hd, q⟩ hN nd
    refine low 1 cdv A outer s H Q E v u d hr (by decide) ?_ rv ru q hN nd
    cases d <;> first | exact .inl rfl | exact .inr ⟨_, rfl⟩ | cases hd
  | succ n ih =>
    have c2 : Cal P w K mg base (n + 2) "_law_same" (spSame K n) [] := ⟨f, fd, _, _, ih, g, kp, bd, .nil⟩
    refine okS F scSm (fun vs H Q E ⟨_, _, _, e, _⟩ => by rw [e]; rfl) ?_
    rintro cdv A outer s H _ Q E hr ⟨v, u, d, rfl, rv, ru, hd, q⟩ hN nd
    by_cases hl : d = .non ∨ ∃ i, d = .int i
    · exact low (n + 2) cdv A outer s H Q E v u d hr (by omega) hl rv ru q hN nd
    · obtain ⟨ds, rfl⟩ : ∃ ds, d = .tup ds := by
        cases d <;> first | exact ⟨_, rfl⟩ | exact absurd (.inl rfl) hl | exact absurd (.inr ⟨_, rfl⟩) hl | cases hd
      have hr1 : Room 1 _ := hr.mono (by omega)
      obtain ⟨h1, h2⟩ := Bool.and_eq_true_iff.mp (show (decide (ds.length ≤ 1000) && ds.all (dsm n)) = true from hd)
      have h1 := of_decide_eq_true h1
      change QB _ (_ :: (defBody (top 39)).drop 1) _ [some _, some _, none] _
      kct_strs
      refine ifb (fun e => ?_) (fun e => by cases e)
      kct_strs
      refine ifb (fun e => ?_) (fun e => by cases e)
      kct_strs
      refine callw_len_t rv ?_
      kct_strs
      refine callw_len_t ru ?_
      kct_strs
      rw [if_pos (by simp)]
      kct_strs
      fin_range
      kct_strs
      refine callw_len_t ru ?_
      kct_strs
      refine ⟨h1, fun _ => .bl true, fun _ _ => rfl, fun k H2 hk s2 => ?_, fun p H2 ys s2 hp hp2 r => ?_⟩
      · have dk : dsm n ds[k] = true := List.all_eq_true.mp h2 _ (List.getElem_mem _)
        intro s0 H00 C0 cl fp
        refine we_call c2 hr (Nat.le_refl _) rfl ?_ (by decide) rfl rfl
        kct_strs
        refine ixw_tup (rv.to s2) (atI_nat hk) fun w1 r1 => ?_
        kct_strs
        refine ixw_tup (ru.to s2) (atI_nat hk) fun w2 r2 => ?_
        kct_strs
        exact ⟨w1, w2, ds[k], rfl, r1, r2, dk, fun H3 s3 => ⟨s3, .bl _⟩⟩
      · kct_strs
        refine callw_all (bs := (List.range ds.length).map fun _ => true) rfl hp2 (by rw [List.map_map]; exact r) ?_
        have e5 : ((List.range ds.length).map fun _ => true).all id = true := by rw [List.all_map, List.all_eq_true]; exact fun _ _ => rfl
        rw [e5]
        exact q _ s2
/-- what _law_result promises: the def at fA is asked with the items of the tuple; G, B what it may bring -/
def spRes (P : Program) (w : World) (K : PySem.W.Frag) (mg : Str → Option Value) (base : Heap) (M R : Addr) : Sp := fun vs H Q _ => ∃ (fA v : Addr) (fdA : FuncData) (psA : List Str) (spA : Sp) (xs : List V) (G : V → Hp → Prop) (B : Value → Option Addr → Hp → Prop),
  vs = [.ref fA, .ref v] ∧ FnOk P w K mg base (L2.CX P w) 8 fA fdA psA spA ∧ PySem.W.keepIn K (.ref fA) = true ∧ Binds K fdA psA [] ∧ SqT K H v xs ∧ xs.length = 1 ∧
  (∀ Q' E', (∀ u H1, G u H1 → Q' u H1) → (∀ c d H1, B c d H1 → E' c d H1) → spA xs H Q' E') ∧
  (∀ u H1 p H', G u H1 → Same H1 H' → H' p = some (.tup [.str "told", u]) → Q (.ref p) H') ∧
  (∀ c d H1, B c d H1 → (c = .ref M ∧ ∀ p H', Same H1 H' → H' p = some (.tup [.str "malformed", .non]) → Q (.ref p) H') ∨
    (c = .ref R ∧ ∃ dd z, d = some dd ∧ H1 dd = some (.xd [("reason", .str z)]) ∧ ∀ p H', Same H1 H' → H' p = some (.tup [.str "refused", .str z]) → Q (.ref p) H'))
theorem ok_law_result {f Fa M R C : Addr} {fd : FuncData} (F : Fun K "_law_result" "_law_result" (top 40) f fd) (T : Cls4 K mg Fa M R C) (m1 : mg "len" = none) : FnOk P w K mg base CX0 9 f fd ["act", "given"] (spRes P w K mg base M R) := by
  refine okS F scRs (fun vs H Q E ⟨_, _, _, _, _, _, _, _, e, _⟩ => by rw [e]; rfl) ?_
  rintro cdv A outer s H _ Q E hr ⟨fA, v, fdA, psA, spA, xs, G, B, rfl, FA, kA, bA, hx, hl, hs, qG, qB⟩ hN nd
  change QB _ (_ :: _) _ [some _, some _, none] _
  kct_strs
  refine ws_try (W := fun _ _ _ _ => False) rfl rfl takes0 (.bare ⟨rfl, by decide, .inl T.gM⟩ su_sem (.as (i := 2) ⟨rfl, by decide, .inl T.gR⟩ nd rfl rfl su_sem .nil)) ?_
  intro pn xe tk hp
  have bad : ∀ c d H1, B c d H1 → wMix K (fun _ _ _ _ => False) { nx := fun x H' => Q V.non H', rt := Q } [(Value.ref M, none, SU (cxOf CX0 P w K mg base ["act", "given", "refused"] "_law_result" (defScope (top 40)) f cdv A outer s H E).nox (match (defBody (top 40)).getD 0 (.Pass ⟨0, 0, 0, 0⟩) with | .Try _ (.ExceptHandler _ _ b _ :: _) _ _ _ => b | _ => [])), (Value.ref R, some 2, SU (cxOf CX0 P w K mg base ["act", "given", "refused"] "_law_result" (defScope (top 40)) f cdv A outer s H E).nox (match (defBody (top 40)).getD 0 (.Pass ⟨0, 0, 0, 0⟩) with | .Try _ (_ :: .ExceptHandler _ _ b _ :: _) _ _ _ => b | _ => []))] c d [some (.ref fA), some (.ref v), none] H1 := by
    intro c d H1 hB
    rcases qB c d H1 hB with ⟨rfl, z⟩ | ⟨rfl, dd, y, rfl, hd, z⟩
    · refine ⟨true, T.eMM, fun _ a ha => ?_, fun e => by cases e⟩
      intro o pn hz hf
      change QB _ (_ :: []) _ [some _, some _, none] _
      kct_strs
      exact ⟨Nat.le_of_ble_eq_true rfl, fun p H2 hp s2 e2 => z p H2 s2 e2⟩
    · refine ⟨false, T.eRM, (fun e => by cases e), fun _ => ⟨true, T.eRR, fun _ a ha => ?_, fun e => by cases e⟩⟩
      intro o pn hz hf
      change QB _ (_ :: []) _ [some _, some _, some _] _
      refine wss_one (ws_ret (we_tup (wa_cons rfl (we_str (wa_cons rfl (we_xf T.xR T.nR hz hf rfl ?_))))))
      kct_strs
      refine ⟨rfl, dd, _, .str y, rfl, hd, rfl, ?_⟩
      kct_strs
      exact ⟨Nat.le_of_ble_eq_true rfl, fun p H2 hp s2 e2 => z p H2 s2 e2⟩
  kct_strs
  refine callw_len_st hx ?_
  kct_strs
  refine ifd (fun e => ?_) (fun e => by omega)
  · obtain ⟨x0, rfl⟩ : ∃ x0, xs = [x0] := by
      match xs, e with
      | [x0], _ => exact ⟨x0, rfl⟩
    kct_strs
    refine we_callLS (i := 0) FA kA bA tk hr (by decide) (by infer_instance) hN (.inl rfl) ?_ (by decide) (by decide) rfl rfl
    kct_strs
    refine ixw_st hx (v := x0) rfl ?_
    kct_strs
    refine hs _ _ (fun u H1 hG => ?_) bad
    kct_strs
    exact ⟨Nat.le_of_ble_eq_true rfl, fun p H2 hp s2 e2 => qG u H1 p H2 hG s2 e2⟩
end
/-! tables of three rows, as nine numbers -/
structure M3 where
  (a b c d e f g h i : Int)
theorem M3.ext' {A B : M3} (h1 : A.a = B.a) (h2 : A.b = B.b) (h3 : A.c = B.c) (h4 : A.d = B.d) (h5 : A.e = B.e) (h6 : A.f = B.f) (h7 : A.g = B.g) (h8 : A.h = B.h) (h9 : A.i = B.i) : A = B := by
  cases A; cases B; simp_all
def m3 (A B : M3) : M3 := ⟨A.a * B.a + A.b * B.d + A.c * B.g, A.a * B.b + A.b * B.e + A.c * B.h, A.a * B.c + A.b * B.f + A.c * B.i,
  A.d * B.a + A.e * B.d + A.f * B.g, A.d * B.b + A.e * B.e + A.f * B.h, A.d * B.c + A.e * B.f + A.f * B.i,
  A.g * B.a + A.h * B.d + A.i * B.g, A.g * B.b + A.h * B.e + A.i * B.h, A.g * B.c + A.h * B.f + A.i * B.i⟩
def i3 : M3 := ⟨1, 0, 0, 0, 1, 0, 0, 0, 1⟩
def t3 (A : M3) : Int := A.a + A.e + A.i
def s3 (A : M3) : Int := A.a * A.e - A.b * A.d + (A.a * A.i - A.c * A.g) + (A.e * A.i - A.f * A.h)
def d3 (A : M3) : Int := A.a * (A.e * A.i - A.f * A.h) - A.b * (A.d * A.i - A.f * A.g) + A.c * (A.d * A.h - A.e * A.g)
def adj (A : M3) : M3 := ⟨A.e * A.i - A.f * A.h, A.c * A.h - A.b * A.i, A.b * A.f - A.c * A.e, A.f * A.g - A.d * A.i, A.a * A.i - A.c * A.g, A.c * A.d - A.a * A.f, A.d * A.h - A.e * A.g, A.b * A.g - A.a * A.h, A.a * A.e - A.b * A.d⟩
theorem m3_assoc (A B C : M3) : m3 (m3 A B) C = m3 A (m3 B C) := by
  apply M3.ext' <;> simp only [m3] <;> grind
theorem m3_one (A : M3) : m3 A i3 = A := by
  apply M3.ext' <;> simp [m3, i3]
theorem one_m3 (A : M3) : m3 i3 A = A := by
  apply M3.ext' <;> simp [m3, i3]
theorem d3_mul (A B : M3) : d3 (m3 A B) = d3 A * d3 B := by
  simp only [d3, m3]
  grind
theorem ch3 (A : M3) : ∀ (p : M3 → Int), p = M3.a ∨ p = M3.b ∨ p = M3.c ∨ p = M3.d ∨ p = M3.e ∨ p = M3.f ∨ p = M3.g ∨ p = M3.h ∨ p = M3.i → p (m3 (m3 A A) A) = t3 A * p (m3 A A) - s3 A * p A + d3 A * p i3 := by
  rintro p (rfl | rfl | rfl | rfl | rfl | rfl | rfl | rfl | rfl) <;> simp only [m3, t3, s3, d3, i3] <;> grind
theorem t3_sq (A : M3) : t3 (m3 A A) = t3 A * t3 A - 2 * s3 A := by
  simp only [t3, m3, s3]
  grind
theorem adj_mul (A : M3) : m3 (adj A) A = ⟨d3 A, 0, 0, 0, d3 A, 0, 0, 0, d3 A⟩ := by
  apply M3.ext' <;> simp only [m3, adj, d3] <;> grind
theorem t3_adj (A : M3) : t3 (adj A) = s3 A := by
  simp only [t3, adj, s3]
  grind
theorem s3_inv {A C : M3} (h : m3 A C = i3) : s3 A = d3 A * t3 C := by
  have h1 : m3 (m3 (adj A) A) C = adj A := by rw [m3_assoc, h, m3_one]
  rw [adj_mul] at h1
  rw [← t3_adj, ← h1]
  simp only [t3, m3]
  grind
def pw3 (A : M3) : Nat → M3
  | 0 => i3
  | k + 1 => m3 (pw3 A k) A
theorem pw3_one (A : M3) : pw3 A 1 = A := one_m3 A
theorem pw3_add (A : M3) (j : Nat) : ∀ k, pw3 A (j + k) = m3 (pw3 A j) (pw3 A k)
  | 0 => (m3_one _).symm
  | k + 1 => by
    show m3 (pw3 A (j + k)) A = m3 (pw3 A j) (m3 (pw3 A k) A)
    rw [pw3_add A j k, m3_assoc]
theorem d3_pw (A : M3) : ∀ k, d3 (pw3 A k) = d3 A ^ k
  | 0 => by simp [pw3, i3, d3]
  | k + 1 => by
    show d3 (m3 (pw3 A k) A) = _
    rw [d3_mul, d3_pw A k, Int.pow_succ]
/-- a number of a table -/
def Pr (p : M3 → Int) : Prop := p = M3.a ∨ p = M3.b ∨ p = M3.c ∨ p = M3.d ∨ p = M3.e ∨ p = M3.f ∨ p = M3.g ∨ p = M3.h ∨ p = M3.i
theorem lin3 (P A X Y : M3) (t s d : Int) (h : ∀ p, Pr p → p Y = t * p X - s * p A + d * p i3) (p : M3 → Int) (hp : Pr p) : p (m3 P Y) = t * p (m3 P X) - s * p (m3 P A) + d * p P := by
  have ha := h M3.a (.inl rfl)
  have hb := h M3.b (.inr (.inl rfl))
  have hc := h M3.c (.inr (.inr (.inl rfl)))
  have hd := h M3.d (.inr (.inr (.inr (.inl rfl))))
  have he := h M3.e (.inr (.inr (.inr (.inr (.inl rfl)))))
  have hf := h M3.f (.inr (.inr (.inr (.inr (.inr (.inl rfl))))))
  have hg := h M3.g (.inr (.inr (.inr (.inr (.inr (.inr (.inl rfl)))))))
  have hh := h M3.h (.inr (.inr (.inr (.inr (.inr (.inr (.inr (.inl rfl))))))))
  have hi := h M3.i (.inr (.inr (.inr (.inr (.inr (.inr (.inr (.inr rfl))))))))
  simp only [i3] at ha hb hc hd he hf hg hh hi
  clear h
  rcases hp with rfl | rfl | rfl | rfl | rfl | rfl | rfl | rfl | rfl <;> simp only [m3, ha, hb, hc, hd, he, hf, hg, hh, hi] <;> grind
theorem rec3 (A : M3) (k : Nat) (p : M3 → Int) (hp : Pr p) : p (pw3 A (k + 3)) = t3 A * p (pw3 A (k + 2)) - s3 A * p (pw3 A (k + 1)) + d3 A * p (pw3 A k) := by
  have e1 : pw3 A (k + 1) = m3 (pw3 A k) A := rfl
  have e2 : pw3 A (k + 2) = m3 (pw3 A k) (m3 A A) := by show m3 (m3 (pw3 A k) A) A = _; rw [m3_assoc]
  have e3 : pw3 A (k + 3) = m3 (pw3 A k) (m3 (m3 A A) A) := by show m3 (m3 (m3 (pw3 A k) A) A) A = _; rw [m3_assoc, m3_assoc, m3_assoc]
  rw [e1, e2, e3]
  exact lin3 _ _ _ _ _ _ _ (ch3 A) p hp
theorem t3_rec (A : M3) (k : Nat) : t3 (pw3 A (k + 3)) = t3 A * t3 (pw3 A (k + 2)) - s3 A * t3 (pw3 A (k + 1)) + d3 A * t3 (pw3 A k) := by
  have h1 := rec3 A k M3.a (.inl rfl)
  have h2 := rec3 A k M3.e (.inr (.inr (.inr (.inr (.inl rfl)))))
  have h3 := rec3 A k M3.i (.inr (.inr (.inr (.inr (.inr (.inr (.inr (.inr rfl))))))))
  simp only [t3] at *
  rw [h1, h2, h3]
  grind
theorem top_of (f : Nat → Nat) : ∀ m, ∃ k0, k0 ≤ m ∧ ∀ k, k ≤ m → f k ≤ f k0
  | 0 => ⟨0, Nat.le_refl _, fun k hk => by rw [Nat.le_zero.mp hk]; exact Nat.le_refl _⟩
  | m + 1 => by
    obtain ⟨k0, h1, h2⟩ := top_of f m
    by_cases h : f k0 ≤ f (m + 1)
    · refine ⟨m + 1, Nat.le_refl _, fun k hk => ?_⟩
      by_cases e : k = m + 1
      · rw [e]; exact Nat.le_refl _
      · exact Nat.le_trans (h2 k (by omega)) h
    · refine ⟨k0, by omega, fun k hk => ?_⟩
      by_cases e : k = m + 1
      · rw [e]; omega
      · exact h2 k (by omega)
theorem pw3_mod (A : M3) {m : Nat} (h : pw3 A m = i3) : ∀ q r, pw3 A (m * q + r) = pw3 A r
  | 0, r => by rw [Nat.mul_zero, Nat.zero_add]
  | q + 1, r => by
    rw [show m * (q + 1) + r = m + (m * q + r) by rw [Nat.mul_succ]; omega, pw3_add, h, one_m3, pw3_mod A h q r]
theorem d3_unit (A : M3) {m : Nat} (hm : 1 ≤ m) (h : pw3 A m = i3) : d3 A = 1 ∨ d3 A = -1 := by
  have e := d3_pw A m
  rw [h, show d3 i3 = 1 from rfl] at e
  obtain ⟨k, rfl⟩ : ∃ k, m = k + 1 := ⟨m - 1, by omega⟩
  rw [Int.pow_succ, Int.mul_comm] at e
  have h1 : (d3 A).natAbs ∣ 1 := ⟨((d3 A) ^ k).natAbs, by rw [← Int.natAbs_mul, ← e]; rfl⟩
  have := Nat.dvd_one.mp h1
  omega
theorem pw_unit {x : Int} (h : x = 1 ∨ x = -1) : ∀ k : Nat, x ^ k = 1 ∨ x ^ k = -1
  | 0 => .inl (Int.pow_zero _)
  | k + 1 => by
    rw [Int.pow_succ]
    rcases pw_unit h k with e | e <;> rcases h with rfl | rfl <;> rw [e] <;> decide
theorem bound3 (A : M3) {m : Nat} (hm : 1 ≤ m) (h : pw3 A m = i3) : ∀ k, (t3 (pw3 A k)).natAbs ≤ 3 := by
  obtain ⟨k0, hk0, hk⟩ := top_of (fun k => (t3 (pw3 A k)).natAbs) m
  have all : ∀ k, (t3 (pw3 A k)).natAbs ≤ (t3 (pw3 A k0)).natAbs := fun k => by
    have e : pw3 A k = pw3 A (k % m) := by
      have := pw3_mod A h (k / m) (k % m)
      rw [Nat.div_add_mod] at this
      exact this
    rw [e]
    exact hk _ (Nat.le_of_lt (Nat.mod_lt _ (by omega)))
  have e1 : m3 (pw3 A k0) (pw3 A (m - k0)) = i3 := by rw [← pw3_add, show k0 + (m - k0) = m by omega, h]
  have e2 := s3_inv e1
  rw [d3_pw] at e2
  have e3 := t3_sq (pw3 A k0)
  rw [← pw3_add] at e3
  have b1 := all (k0 + k0)
  have b2 := all (m - k0)
  have u := pw_unit (d3_unit A hm h) k0
  have bs : (s3 (pw3 A k0)).natAbs ≤ (t3 (pw3 A k0)).natAbs := by
    rcases u with u | u <;> rw [u] at e2 <;> omega
  have key : (t3 (pw3 A k0)).natAbs * (t3 (pw3 A k0)).natAbs ≤ 3 * (t3 (pw3 A k0)).natAbs := by
    have : (t3 (pw3 A k0) * t3 (pw3 A k0)).natAbs ≤ 3 * (t3 (pw3 A k0)).natAbs := by omega
    rwa [Int.natAbs_mul] at this
  have : (t3 (pw3 A k0)).natAbs ≤ 3 := by
    by_cases h0 : (t3 (pw3 A k0)).natAbs = 0
    · omega
    · exact Nat.le_of_mul_le_mul_right key (by omega)
  intro k
  exact Nat.le_trans (all k) this
/-- traces of three powers in a row -/
def tq (t s d : Int) : Nat → Int × Int × Int
  | 0 => (3, t, t * t - 2 * s)
  | k + 1 => ((tq t s d k).2.1, (tq t s d k).2.2, t * (tq t s d k).2.2 - s * (tq t s d k).2.1 + d * (tq t s d k).1)
theorem tq_pw (A : M3) : ∀ k, tq (t3 A) (s3 A) (d3 A) k = (t3 (pw3 A k), t3 (pw3 A (k + 1)), t3 (pw3 A (k + 2)))
  | 0 => by
    have e1 : pw3 A 1 = A := pw3_one A
    have e2 : pw3 A 2 = m3 A A := by show m3 (pw3 A 1) A = _; rw [e1]
    show (3, t3 A, t3 A * t3 A - 2 * s3 A) = (t3 i3, t3 (pw3 A 1), t3 (pw3 A 2))
    rw [e1, e2, t3_sq]
    rfl
  | k + 1 => by
    show ((tq (t3 A) (s3 A) (d3 A) k).2.1, (tq (t3 A) (s3 A) (d3 A) k).2.2, _) = _
    rw [tq_pw A k, t3_rec]
def four : List (Int × Int × Int) := [(1, 1, 1), (-1, 1, -1)]
def six : List (Int × Int × Int) := [(3, 3, 1), (-3, 3, -1), (1, -1, -1), (-1, -1, 1), (0, 0, 1), (-2, 2, -1), (2, 2, 1), (0, 0, -1)]
def rng3 : List Int := [-3, -2, -1, 0, 1, 2, 3]
theorem ten_dec : ∀ t ∈ rng3, ∀ s ∈ rng3, ∀ d ∈ ([1, -1] : List Int), ∀ m ∈ List.range 19, tq t s d (m + 1) = (3, t, t * t - 2 * s) → (t, s, d) ∈ four ∨ (t, s, d) ∈ six := by decide +kernel
theorem mem_rng3 {x : Int} (h : x.natAbs ≤ 3) : x ∈ rng3 := by
  have : x = -3 ∨ x = -2 ∨ x = -1 ∨ x = 0 ∨ x = 1 ∨ x = 2 ∨ x = 3 := by omega
  simp only [rng3, List.mem_cons, List.not_mem_nil, or_false]
  exact this
theorem ten (A : M3) {m : Nat} (hm : 1 ≤ m) (hm2 : m ≤ 19) (h : pw3 A m = i3) : (t3 A, s3 A, d3 A) ∈ four ∨ (t3 A, s3 A, d3 A) ∈ six := by
  have hd := d3_unit A hm h
  have ht := bound3 A hm h 1
  rw [pw3_one] at ht
  have hs : (s3 A).natAbs ≤ 3 := by
    obtain ⟨k, rfl⟩ : ∃ k, m = 1 + k := ⟨m - 1, by omega⟩
    rw [pw3_add, pw3_one] at h
    have := bound3 A hm (by rw [pw3_add, pw3_one]; exact h) k
    rw [s3_inv h]
    rcases hd with e | e <;> rw [e] <;> omega
  obtain ⟨k, rfl⟩ : ∃ k, m = k + 1 := ⟨m - 1, by omega⟩
  refine ten_dec _ (mem_rng3 ht) _ (mem_rng3 hs) _ (by rcases hd with e | e <;> rw [e] <;> simp) k (List.mem_range.mpr (by omega)) ?_
  rw [tq_pw]
  have e0 := pw3_mod A h 1 0
  have e1 := pw3_mod A h 1 1
  have e2 := pw3_mod A h 1 2
  rw [Nat.mul_one] at e0 e1 e2
  rw [h, e1, e2, pw3_one, show pw3 A 2 = m3 A A by show m3 (pw3 A 1) A = _; rw [pw3_one], t3_sq]
  rfl
theorem ext_pr {A B : M3} (h : ∀ p, Pr p → p A = p B) : A = B :=
  M3.ext' (h _ (.inl rfl)) (h _ (.inr (.inl rfl))) (h _ (.inr (.inr (.inl rfl)))) (h _ (.inr (.inr (.inr (.inl rfl))))) (h _ (.inr (.inr (.inr (.inr (.inl rfl)))))) (h _ (.inr (.inr (.inr (.inr (.inr (.inl rfl))))))) (h _ (.inr (.inr (.inr (.inr (.inr (.inr (.inl rfl)))))))) (h _ (.inr (.inr (.inr (.inr (.inr (.inr (.inr (.inl rfl))))))))) (h _ (.inr (.inr (.inr (.inr (.inr (.inr (.inr (.inr rfl)))))))))
theorem seq4 (e : Nat → Int) {t s d : Int} (R : ∀ k, e (k + 3) = t * e (k + 2) - s * e (k + 1) + d * e k) (g : (t, s, d) ∈ four) : e 4 = e 0 := by
  have R0 := R 0
  have R1 := R 1
  simp only [four, List.mem_cons, List.not_mem_nil, or_false, Prod.mk.injEq] at g
  simp only [Nat.zero_add, Nat.reduceAdd] at R0 R1
  rcases g with ⟨rfl, rfl, rfl⟩ | ⟨rfl, rfl, rfl⟩ <;> omega
theorem uni (g : Nat → Int) (R : ∀ k, g (k + 3) = 3 * g (k + 2) - 3 * g (k + 1) + g k) {m : Nat} (hm : 1 ≤ m) (h0 : g m = g 0) (h1 : g (m + 1) = g 1) : ∀ k, g k = g 0 := by
  have he : ∀ k, g (k + 2) - 2 * g (k + 1) + g k = g 2 - 2 * g 1 + g 0 := by
    intro k
    induction k with
    | zero => rfl
    | succ k ih =>
      have := R k
      show g (k + 3) - 2 * g (k + 2) + g (k + 1) = _
      omega
  generalize g 2 - 2 * g 1 + g 0 = ε at he
  have hd : ∀ k : Nat, g (k + 1) - g k = g 1 - g 0 + k * ε := by
    intro k
    induction k with
    | zero => simp
    | succ k ih =>
      have := he k
      have e : ((k + 1 : Nat) : Int) * ε = k * ε + ε := by rw [Int.natCast_succ, Int.add_mul, Int.one_mul]
      rw [e]
      show g (k + 2) - g (k + 1) = _
      omega
  have e0 : ε = 0 := by
    have := hd m
    rw [h0, h1] at this
    have h2 : (m : Int) * ε = 0 := by omega
    rcases Int.mul_eq_zero.mp h2 with h | h
    · omega
    · exact h
  subst e0
  have hl : ∀ k : Nat, g k = g 0 + k * (g 1 - g 0) := by
    intro k
    induction k with
    | zero => simp
    | succ k ih =>
      have := hd k
      rw [Int.mul_zero] at this
      rw [Int.natCast_succ, Int.add_mul, Int.one_mul]
      omega
  have e1 : g 1 - g 0 = 0 := by
    have := hl m
    rw [h0] at this
    have h2 : (m : Int) * (g 1 - g 0) = 0 := by omega
    rcases Int.mul_eq_zero.mp h2 with h | h
    · omega
    · exact h
  intro k
  rw [hl k, e1, Int.mul_zero, Int.add_zero]
theorem seq6 (e : Nat → Int) {t s d : Int} (R : ∀ k, e (k + 3) = t * e (k + 2) - s * e (k + 1) + d * e k) (g : (t, s, d) ∈ six) {m : Nat} (hm : 1 ≤ m) (h0 : e (2 * m) = e 0) (h2 : e (2 * m + 2) = e 2) : e 6 = e 0 := by
  simp only [six, List.mem_cons, List.not_mem_nil, or_false, Prod.mk.injEq] at g
  have four4 : (∀ k, e (2 * k + 6) = 3 * e (2 * k + 4) - 3 * e (2 * k + 2) + e (2 * k)) → e 6 = e 0 := fun R2 =>
    uni (fun k => e (2 * k)) (fun k => R2 k) hm h0 h2 3
  have R0 := R 0
  have R1 := R 1
  have R2 := R 2
  have R3 := R 3
  simp only [Nat.zero_add, Nat.reduceAdd] at R0 R1 R2 R3
  have RR : ∀ k, e (2 * k + 3) = t * e (2 * k + 2) - s * e (2 * k + 1) + d * e (2 * k) ∧ e (2 * k + 4) = t * e (2 * k + 3) - s * e (2 * k + 2) + d * e (2 * k + 1) ∧ e (2 * k + 5) = t * e (2 * k + 4) - s * e (2 * k + 3) + d * e (2 * k + 2) ∧ e (2 * k + 6) = t * e (2 * k + 5) - s * e (2 * k + 4) + d * e (2 * k + 3) := fun k => ⟨R (2 * k), R (2 * k + 1), R (2 * k + 2), R (2 * k + 3)⟩
  rcases g with ⟨rfl, rfl, rfl⟩ | ⟨rfl, rfl, rfl⟩ | ⟨rfl, rfl, rfl⟩ | ⟨rfl, rfl, rfl⟩ | ⟨rfl, rfl, rfl⟩ | ⟨rfl, rfl, rfl⟩ | ⟨rfl, rfl, rfl⟩ | ⟨rfl, rfl, rfl⟩
  · exact four4 fun k => by obtain ⟨a, b, c, d⟩ := RR k; omega
  · exact four4 fun k => by obtain ⟨a, b, c, d⟩ := RR k; omega
  · exact four4 fun k => by obtain ⟨a, b, c, d⟩ := RR k; omega
  · exact four4 fun k => by obtain ⟨a, b, c, d⟩ := RR k; omega
  · omega
  · omega
  · omega
  · omega
theorem order3 (A : M3) {m : Nat} (hm : 1 ≤ m) (hm2 : m ≤ 19) (h : pw3 A m = i3) : pw3 A 4 = i3 ∨ pw3 A 6 = i3 := by
  have e2 : ∀ r, pw3 A (2 * m + r) = pw3 A r := fun r => by rw [Nat.mul_comm]; exact pw3_mod A h 2 r
  rcases ten A hm hm2 h with g | g
  · exact .inl (ext_pr fun p hp => seq4 (fun k => p (pw3 A k)) (fun k => rec3 A k p hp) g)
  · refine .inr (ext_pr fun p hp => seq6 (fun k => p (pw3 A k)) (fun k => rec3 A k p hp) g hm ?_ ?_)
    · show p (pw3 A (2 * m)) = p (pw3 A 0)
      rw [show 2 * m = 2 * m + 0 by omega, e2]
    · show p (pw3 A (2 * m + 2)) = p (pw3 A 2)
      rw [e2]
/-- a table as nine numbers -/
def emb : List (List Int) → M3
  | [[a]] => ⟨a, 0, 0, 0, 1, 0, 0, 0, 1⟩
  | [[a, b], [c, d]] => ⟨a, b, 0, c, d, 0, 0, 0, 1⟩
  | [[a, b, c], [d, e, f], [g, h, i]] => ⟨a, b, c, d, e, f, g, h, i⟩
  | _ => i3
theorem row1 {r : List Int} (h : r.length = 1) : ∃ a, r = [a] := by
  match r, h with
  | [a], _ => exact ⟨a, rfl⟩
theorem row2 {r : List Int} (h : r.length = 2) : ∃ a b, r = [a, b] := by
  match r, h with
  | [a, b], _ => exact ⟨a, b, rfl⟩
theorem row3 {r : List Int} (h : r.length = 3) : ∃ a b c, r = [a, b, c] := by
  match r, h with
  | [a, b, c], _ => exact ⟨a, b, c, rfl⟩
theorem tab1 {t : List (List Int)} (h : Rows 1 1 t) : ∃ a, t = [[a]] := by
  obtain ⟨h1, h2⟩ := h
  match t, h1 with
  | [r], _ =>
    obtain ⟨a, rfl⟩ := row1 (h2 r (by simp))
    exact ⟨a, rfl⟩
theorem tab2 {t : List (List Int)} (h : Rows 2 2 t) : ∃ a b c d, t = [[a, b], [c, d]] := by
  obtain ⟨h1, h2⟩ := h
  match t, h1 with
  | [r, r'], _ =>
    obtain ⟨a, b, rfl⟩ := row2 (h2 r (by simp))
    obtain ⟨c, d, rfl⟩ := row2 (h2 r' (by simp))
    exact ⟨a, b, c, d, rfl⟩
theorem tab3 {t : List (List Int)} (h : Rows 3 3 t) : ∃ a b c d e f g i j, t = [[a, b, c], [d, e, f], [g, i, j]] := by
  obtain ⟨h1, h2⟩ := h
  match t, h1 with
  | [r, r', r''], _ =>
    obtain ⟨a, b, c, rfl⟩ := row3 (h2 r (by simp))
    obtain ⟨d, e, f, rfl⟩ := row3 (h2 r' (by simp))
    obtain ⟨g, i, j, rfl⟩ := row3 (h2 r'' (by simp))
    exact ⟨a, b, c, d, e, f, g, i, j, rfl⟩
theorem n123 {n : Nat} (h : 1 ≤ n ∧ n ≤ 3) : n = 1 ∨ n = 2 ∨ n = 3 := by omega
theorem rg1 : List.range 1 = [0] := rfl
theorem rg2 : List.range 2 = [0, 1] := rfl
theorem rg3 : List.range 3 = [0, 1, 2] := rfl
theorem emb_mul {n : Nat} {s t : List (List Int)} (hn : 1 ≤ n ∧ n ≤ 3) (hs : Rows n n s) (ht : Rows n n t) : emb (mul s t) = m3 (emb s) (emb t) := by
  rcases n123 hn with rfl | rfl | rfl
  · obtain ⟨a, rfl⟩ := tab1 hs
    obtain ⟨b, rfl⟩ := tab1 ht
    simp [mul, at2, rg1, emb, m3]
  · obtain ⟨a, b, c, d, rfl⟩ := tab2 hs
    obtain ⟨a', b', c', d', rfl⟩ := tab2 ht
    simp [mul, at2, rg2, emb, m3]
  · obtain ⟨a, b, c, d, e, f, g, i, j, rfl⟩ := tab3 hs
    obtain ⟨a', b', c', d', e', f', g', i', j', rfl⟩ := tab3 ht
    simp [mul, at2, rg3, emb, m3, Int.add_assoc]
theorem emb_plain {n : Nat} (hn : 1 ≤ n ∧ n ≤ 3) : emb (plain n) = i3 := by
  rcases n123 hn with rfl | rfl | rfl <;> rfl
theorem emb_inj {n : Nat} {s t : List (List Int)} (hn : 1 ≤ n ∧ n ≤ 3) (hs : Rows n n s) (ht : Rows n n t) (h : emb s = emb t) : s = t := by
  rcases n123 hn with rfl | rfl | rfl
  · obtain ⟨a, rfl⟩ := tab1 hs
    obtain ⟨b, rfl⟩ := tab1 ht
    simpa [emb] using h
  · obtain ⟨a, b, c, d, rfl⟩ := tab2 hs
    obtain ⟨a', b', c', d', rfl⟩ := tab2 ht
    simp only [emb, M3.mk.injEq] at h
    simp [h]
  · obtain ⟨a, b, c, d, e, f, g, i, j, rfl⟩ := tab3 hs
    obtain ⟨a', b', c', d', e', f', g', i', j', rfl⟩ := tab3 ht
    simp only [emb, M3.mk.injEq] at h
    simp [h]
theorem d3_emb {n : Nat} {t : List (List Int)} (hn : 1 ≤ n ∧ n ≤ 3) (ht : Rows n n t) : d3 (emb t) = dt t := by
  rcases n123 hn with rfl | rfl | rfl
  · obtain ⟨a, rfl⟩ := tab1 ht
    rw [dt1 rfl]
    simp [emb, d3, at2]
  · obtain ⟨a, b, c, d, rfl⟩ := tab2 ht
    rw [dt2 rfl]
    simp [emb, d3, at2]
  · obtain ⟨a, b, c, d, e, f, g, i, j, rfl⟩ := tab3 ht
    rw [dt3 rfl]
    simp [emb, d3, at2, tot3, low3, ia, ib]
    grind
theorem dt_mul {n : Nat} {s t : List (List Int)} (hn : 1 ≤ n ∧ n ≤ 3) (hs : Rows n n s) (ht : Rows n n t) : dt (mul s t) = dt s * dt t := by
  rw [← d3_emb hn (mul_rows hs ht hn.1), ← d3_emb hn hs, ← d3_emb hn ht, emb_mul hn hs ht, d3_mul]
theorem ld_dt {n : Nat} {t : List (List Int)} (hn : 1 ≤ n ∧ n ≤ 3) (ht : Rows n n t) : ld n t = dt t := by
  rcases n123 hn with rfl | rfl | rfl
  · obtain ⟨a, rfl⟩ := tab1 ht
    rw [dt1 rfl]
    simp [ld, at2, rg1, sg]
  · obtain ⟨a, b, c, d, rfl⟩ := tab2 ht
    rw [dt2 rfl]
    simp [ld, at2, rg1, rg2, sg, cut0]
    grind
  · obtain ⟨a, b, c, d, e, f, g, i, j, rfl⟩ := tab3 ht
    rw [dt3 rfl]
    simp [ld, at2, rg1, rg2, rg3, sg, cut0, tot3, low3, ia, ib]
    grind
theorem und_rows {n : Nat} {t : List (List Int)} (hn : 1 ≤ n ∧ n ≤ 3) (ht : Rows n n t) : Rows n n (und t) := by
  unfold und
  rw [ht.1]
  split
  · next h =>
    subst h
    exact ⟨rfl, by simp⟩
  · refine ⟨by simp, fun r hr => ?_⟩
    obtain ⟨i, _, rfl⟩ := List.mem_map.mp hr
    simp
theorem und_emb {n : Nat} {t : List (List Int)} (hn : 1 ≤ n ∧ n ≤ 3) (ht : Rows n n t) (h : dt t = 1 ∨ dt t = -1) : m3 (emb t) (emb (und t)) = i3 ∧ m3 (emb (und t)) (emb t) = i3 := by
  have hd : dt t * dt t = 1 := by rcases h with e | e <;> rw [e] <;> rfl
  rcases n123 hn with rfl | rfl | rfl
  · obtain ⟨a, rfl⟩ := tab1 ht
    rw [dt1 rfl] at hd h
    simp [at2] at hd h
    simp [und, emb, m3, i3, dt1, at2, hd]
  · obtain ⟨a, b, c, d, rfl⟩ := tab2 ht
    rw [dt2 rfl] at hd h
    simp [at2] at hd h
    constructor <;> simp [und, emb, m3, i3, dt2, at2, rg2, sg, mn, cutT] <;> grind
  · obtain ⟨a, b, c, d, e, f, g, i, j, rfl⟩ := tab3 ht
    rw [dt3 rfl] at hd h
    simp [at2, tot3, low3, ia, ib] at hd h
    constructor <;> simp [und, emb, m3, i3, dt2, dt3, at2, rg3, sg, mn, cutT, tot3, low3, ia, ib] <;> grind
theorem und_mul {n : Nat} {t : List (List Int)} (hn : 1 ≤ n ∧ n ≤ 3) (ht : Rows n n t) (h : dt t = 1 ∨ dt t = -1) : mul t (und t) = plain n ∧ mul (und t) t = plain n := by
  have hu := und_rows hn ht
  obtain ⟨h1, h2⟩ := und_emb hn ht h
  exact ⟨emb_inj hn (mul_rows ht hu hn.1) (plain_rows n) (by rw [emb_mul hn ht hu, h1, emb_plain hn]), emb_inj hn (mul_rows hu ht hn.1) (plain_rows n) (by rw [emb_mul hn hu ht, h2, emb_plain hn])⟩
theorem up_emb {n : Nat} {t : List (List Int)} (hn : 1 ≤ n ∧ n ≤ 3) (ht : Rows n n t) : ∀ k, emb (up t k) = pw3 (emb t) (k + 1)
  | 0 => (pw3_one _).symm
  | k + 1 => by
    show emb (mul (up t k) t) = m3 (pw3 (emb t) (k + 1)) (emb t)
    rw [emb_mul hn (up_rows ht hn.1 k) ht, up_emb hn ht k]
theorem up_plain {n : Nat} {t : List (List Int)} (hn : 1 ≤ n ∧ n ≤ 3) (ht : Rows n n t) (k : Nat) : up t k = plain t.length ↔ pw3 (emb t) (k + 1) = i3 := by
  rw [← up_emb hn ht, ht.1]
  constructor
  · intro e
    rw [e, emb_plain hn]
  · intro e
    exact emb_inj hn (up_rows ht hn.1 k) (plain_rows n) (by rw [e, emb_plain hn])
/-- the least number of repeats is small -/
theorem first_small {n : Nat} {t : List (List Int)} (hn : 1 ≤ n ∧ n ≤ 3) (ht : Rows n n t) {k : Nat} (hk : k < 19) (h : First t k) : k < 6 ∧ k ≠ 4 ∧ (dt t = 1 ∨ dt t = -1) := by
  obtain ⟨h1, h2⟩ := h
  have e := (up_plain hn ht k).mp h1
  have hd := d3_unit _ (by omega) e
  rw [d3_emb hn ht] at hd
  have le : k ≤ 3 ∨ (k ≤ 5 ∧ pw3 (emb t) 6 = i3) := by
    rcases order3 _ (by omega) (by omega) e with g | g
    · left
      exact Nat.le_of_not_lt fun hlt => h2 3 hlt ((up_plain hn ht 3).mpr g)
    · right
      exact ⟨Nat.le_of_not_lt fun hlt => h2 5 hlt ((up_plain hn ht 5).mpr g), g⟩
  refine ⟨by omega, fun h4 => ?_, hd⟩
  subst h4
  rcases le with le | ⟨_, g⟩
  · omega
  · have e1 : pw3 (emb t) 1 = i3 := by
      have := pw3_add (emb t) 5 1
      rw [e, one_m3] at this
      rw [← this]
      exact g
    exact h2 0 (by omega) ((up_plain hn ht 0).mpr e1)
/-! the law's skews -/
theorem setE_dt {n i k : Nat} {c : Int} (hn : 1 ≤ n ∧ n ≤ 3) (hi : i < n) (hk : k < n) (h : i ≠ k) : dt (setE (plain n) i k c) = 1 := by
  rw [← d3_emb hn (setE_rows (plain_rows n) hi)]
  rcases n123 hn with rfl | rfl | rfl
  · omega
  · have : (i = 0 ∧ k = 1) ∨ (i = 1 ∧ k = 0) := by omega
    rcases this with ⟨rfl, rfl⟩ | ⟨rfl, rfl⟩ <;> simp [setE, plain, rg2, one0, emb, d3]
  · have : (i = 0 ∧ k = 1) ∨ (i = 1 ∧ k = 0) ∨ (i = 0 ∧ k = 2) ∨ (i = 2 ∧ k = 0) ∨ (i = 1 ∧ k = 2) ∨ (i = 2 ∧ k = 1) := by omega
    rcases this with ⟨rfl, rfl⟩ | ⟨rfl, rfl⟩ | ⟨rfl, rfl⟩ | ⟨rfl, rfl⟩ | ⟨rfl, rfl⟩ | ⟨rfl, rfl⟩ <;> simp [setE, plain, rg3, one0, emb, d3]
theorem setD_dt {n i : Nat} (hn : 1 ≤ n ∧ n ≤ 3) (hi : i < n) : dt (setE (plain n) i i (-1)) = -1 := by
  rw [← d3_emb hn (setE_rows (plain_rows n) hi)]
  rcases n123 hn with rfl | rfl | rfl
  · obtain rfl : i = 0 := by omega
    simp [setE, plain, rg1, one0, emb, d3]
  · have : i = 0 ∨ i = 1 := by omega
    rcases this with rfl | rfl <;> simp [setE, plain, rg2, one0, emb, d3]
  · have : i = 0 ∨ i = 1 ∨ i = 2 := by omega
    rcases this with rfl | rfl | rfl <;> simp [setE, plain, rg3, one0, emb, d3]
theorem plain_dt {n : Nat} (hn : 1 ≤ n ∧ n ≤ 3) : dt (plain n) = 1 := by
  rw [← d3_emb hn (plain_rows n), emb_plain hn]
  rfl
theorem Elem.dt {n : Nat} {e : List (List Int)} (hn : 1 ≤ n ∧ n ≤ 3) (h : Elem n e) : dt e = 1 ∨ dt e = -1 := by
  rcases h with rfl | ⟨i, k, c, hi, hk, hne, _, rfl⟩ | ⟨i, hi, rfl⟩
  · exact .inl (plain_dt hn)
  · exact .inl (setE_dt hn hi hk hne)
  · exact .inr (setD_dt hn hi)
theorem Skew.dt {n m : Nat} {t : List (List Int)} (hn : 1 ≤ n ∧ n ≤ 3) (h : Skew n m t) : dt t = 1 ∨ dt t = -1 := by
  induction h with
  | zero => exact .inl (plain_dt hn)
  | succ hs he ih =>
    rw [dt_mul hn (hs.rows hn.1) he.rows]
    rcases ih with e | e <;> rcases he.dt hn with f | f <;> rw [e, f] <;> simp
theorem sum_le {B : Nat} : ∀ {l : List Int}, (∀ x ∈ l, x.natAbs ≤ B) → l.sum.natAbs ≤ l.length * B
  | [], _ => Nat.zero_le _
  | a :: l, h => by
    have h1 := h a (by simp)
    have h2 := sum_le (l := l) fun x hx => h x (by simp [hx])
    rw [List.sum_cons, List.length_cons, Nat.add_mul, Nat.one_mul]
    have := Int.natAbs_add_le a l.sum
    omega
theorem mul_small {n B C : Nat} {s t : List (List Int)} (hn : 1 ≤ n ∧ n ≤ 3) (hs : Rows n n s) (ht : Rows n n t) (h1 : Sm (B + 1) s) (h2 : Sm (C + 1) t) : Sm (3 * (B * C) + 1) (mul s t) := by
  intro r hr x hx
  unfold mul at hr
  obtain ⟨r', hr', rfl⟩ := List.mem_map.mp hr
  obtain ⟨j, hj, rfl⟩ := List.mem_map.mp hx
  have l0 : (t.getD 0 []).length = n := ht.2 _ (getD_mem (by rw [ht.1]; omega))
  rw [List.mem_range, l0] at hj
  have := sum_le (B := B * C) (l := (List.range t.length).map fun k => r'.getD k 0 * at2 t k j) (fun x hx => by
    obtain ⟨k, hk, rfl⟩ := List.mem_map.mp hx
    rw [List.mem_range, ht.1] at hk
    have a1 := h1 r' hr' _ (getD_mem (d := 0) (k := k) (by rw [hs.2 r' hr']; exact hk))
    have a2 := h2.at ht hk hj
    rw [Int.natAbs_mul]
    exact Nat.mul_le_mul (by omega) (by omega))
  rw [List.length_map, List.length_range] at this
  have h3 : t.length * (B * C) ≤ 3 * (B * C) := Nat.mul_le_mul_right _ (by rw [ht.1]; exact hn.2)
  exact Nat.lt_succ_of_le (Nat.le_trans this h3)
theorem Sm.mono {B C : Nat} {t : List (List Int)} (h : Sm B t) (hBC : B ≤ C) : Sm C t := fun r hr x hx => Nat.lt_of_lt_of_le (h r hr x hx) hBC
theorem Skew.sm {n m : Nat} {t : List (List Int)} (hn : 1 ≤ n ∧ n ≤ 3) (h : Skew n m t) : ∃ B, Sm (B + 1) t ∧ B ≤ 2 * 6 ^ m := by
  induction h with
  | zero => exact ⟨2, plain_sm n, by simp⟩
  | @succ m t e hs he ih =>
    obtain ⟨B, h1, h2⟩ := ih
    refine ⟨3 * (B * 2), mul_small hn (hs.rows hn.1) he.rows h1 he.sm, ?_⟩
    rw [Nat.pow_succ]
    omega
theorem sg_abs (k : Int) : (sg k).natAbs = 1 := by unfold sg; split <;> rfl
theorem und_sm {n : Nat} {t : List (List Int)} (hn : 1 ≤ n ∧ n ≤ 3) (ht : Rows n n t) (h : dt t = 1 ∨ dt t = -1) (hB : Sm 1000 t) : Sm (2 ^ 30) (und t) := by
  have hd : (dt t).natAbs = 1 := by omega
  unfold und
  rw [ht.1]
  split
  · intro r hr x hx
    simp only [List.mem_singleton] at hr
    subst hr
    simp only [List.mem_singleton] at hx
    subst hx
    rw [hd]
    decide
  · next h1 =>
    intro r hr x hx
    obtain ⟨i, hi, rfl⟩ := List.mem_map.mp hr
    obtain ⟨k, hk, rfl⟩ := List.mem_map.mp hx
    rw [List.mem_range] at hi hk
    rw [Int.natAbs_mul, Int.natAbs_mul, hd, sg_abs, Nat.one_mul]
    have sm : ∀ {i k : Nat}, i < n → k < n → (at2 t i k).natAbs < 1000 := fun h1 h2 => hB.at ht h1 h2
    have cm : ∀ i k, Sm 1000 (cutT t i k) := by
      intro i k r hr x hx
      unfold cutT at hr
      obtain ⟨r', hr', rfl⟩ := List.mem_map.mp hr
      exact hB r' (List.mem_of_mem_eraseIdx hr') x (List.mem_of_mem_eraseIdx hx)
    have cr : Rows (n - 1) (n - 1) (cutT t k i) := by
      refine ⟨?_, fun r hr => ?_⟩
      · unfold cutT
        rw [List.length_map, List.length_eraseIdx, ht.1, if_pos hk]
      · unfold cutT at hr
        obtain ⟨r', hr', rfl⟩ := List.mem_map.mp hr
        have := ht.2 r' (List.mem_of_mem_eraseIdx hr')
        rw [List.length_eraseIdx, this, if_pos hi]
    have c : ∀ {a b : Nat}, a < n - 1 → b < n - 1 → (at2 (cutT t k i) a b).natAbs < 1000 := fun h1 h2 => (cm k i).at cr h1 h2
    unfold mn
    rw [ht.1]
    split
    · next h2 =>
      have := c (a := 0) (b := 0) (by omega) (by omega)
      omega
    · next h2 =>
      have h3 : n = 3 := by omega
      subst h3
      rw [dt2 cr.1]
      have b1 := mul_sm (c (a := 0) (b := 0) (by omega) (by omega)) (c (a := 1) (b := 1) (by omega) (by omega))
      have b2 := mul_sm (c (a := 0) (b := 1) (by omega) (by omega)) (c (a := 1) (b := 0) (by omega) (by omega))
      omega
/-! the polynomial -/
def addm (c : Int) (z p : List (List Int)) : List (List Int) := List.zipWith (fun x y => List.zipWith (fun a b => a + c * b) x y) z p
def zero (n : Nat) : List (List Int) := List.replicate n (List.replicate n 0)
def zacc (n : Nat) (t : List (List Int)) (cs : List Int) : List (List Int) × List (List Int) := cs.foldl (fun zp c => (addm c zp.1 zp.2, mul zp.2 t)) (zero n, plain n)
def vacc (x : Int) (cs : List Int) : Int × Int := cs.foldl (fun vs c => (vs.1 + c * vs.2, vs.2 * x)) (0, 1)
def gapT (n : Nat) (x : Int) (t : List (List Int)) : List (List Int) := (List.range n).map fun i => (List.range n).map fun k => x * one0 i k - at2 t i k
theorem gap_rows (n : Nat) (x : Int) (t : List (List Int)) : Rows n n (gapT n x t) := by
  refine ⟨by simp [gapT], fun r hr => ?_⟩
  unfold gapT at hr
  obtain ⟨i, _, rfl⟩ := List.mem_map.mp hr
  simp
theorem poly_zero {n : Nat} {t : List (List Int)} (hn : 1 ≤ n ∧ n ≤ 3) (ht : Rows n n t) : (zacc n t (poly t)).1 = zero n := by
  rcases n123 hn with rfl | rfl | rfl
  · obtain ⟨a, rfl⟩ := tab1 ht
    rw [poly1 rfl]
    simp [zacc, addm, zero, mul, plain, rg1, at2, one0]
    grind
  · obtain ⟨a, b, c, d, rfl⟩ := tab2 ht
    rw [poly2 rfl]
    simp [zacc, addm, zero, mul, plain, rg2, at2, one0, dt2, tra]
    (repeat' apply And.intro) <;> grind
  · obtain ⟨a, b, c, d, e, f, g, i, j, rfl⟩ := tab3 ht
    rw [poly3 rfl]
    simp [zacc, addm, zero, mul, plain, rg3, at2, one0, dt3, tot3, low3, ia, ib, tra, prs, pr1]
    (repeat' apply And.intro) <;> grind
theorem poly_gap {n : Nat} {t : List (List Int)} (hn : 1 ≤ n ∧ n ≤ 3) (ht : Rows n n t) (x : Int) : (vacc x (poly t)).1 = ld n (gapT n x t) := by
  rw [ld_dt hn (gap_rows n x t)]
  rcases n123 hn with rfl | rfl | rfl
  · obtain ⟨a, rfl⟩ := tab1 ht
    rw [poly1 rfl, dt1 rfl]
    simp [vacc, gapT, rg1, at2, one0]
    grind
  · obtain ⟨a, b, c, d, rfl⟩ := tab2 ht
    rw [poly2 rfl, dt2 rfl]
    simp [vacc, gapT, rg2, at2, one0, dt2, tra]
    grind
  · obtain ⟨a, b, c, d, e, f, g, i, j, rfl⟩ := tab3 ht
    rw [poly3 rfl, dt3 rfl]
    simp [vacc, gapT, rg3, at2, one0, dt3, tot3, low3, ia, ib, tra, prs, pr1]
    grind
theorem poly_len {n : Nat} {t : List (List Int)} (hn : 1 ≤ n ∧ n ≤ 3) (ht : Rows n n t) : (poly t).length = n + 1 ∧ (poly t)[n]? = some 1 := by
  rcases n123 hn with rfl | rfl | rfl
  · rw [poly1 ht.1]; exact ⟨rfl, rfl⟩
  · rw [poly2 ht.1]; exact ⟨rfl, rfl⟩
  · rw [poly3 ht.1]; exact ⟨rfl, rfl⟩
theorem scL : FnScope ("script" :: "state" :: "wide" :: "k" :: "one" :: "two" :: "both" :: "d" :: "row" :: "x" :: "back" :: "raised" :: "turn" :: "own" :: "due" :: "low" :: "n" :: "zeros" :: "power" :: "c" :: "gap" :: "value" :: "step" :: "column" :: "shares" :: "good" :: "tried" :: "i" :: "a" :: "b" :: "y" :: "line" :: "act" :: "given" :: "v" :: []) ["script"] (defScope (top 49)) := ⟨rfl, rfl, rfl, by decide +kernel, rfl, by decide +kernel, by decide +kernel⟩
def LX (P : Program) (w : World) (K : PySem.W.Frag) (mg : Str → Option Value) (base : Heap) (f : Addr) (cdv : Value) (A : Around) (outer : List Env) (s : Shared) (H : Hp) (E : XK) : Cx := (cxOf CX0 P w K mg base ("script" :: "state" :: "wide" :: "k" :: "one" :: "two" :: "both" :: "d" :: "row" :: "x" :: "back" :: "raised" :: "turn" :: "own" :: "due" :: "low" :: "n" :: "zeros" :: "power" :: "c" :: "gap" :: "value" :: "step" :: "column" :: "shares" :: "good" :: "tried" :: "i" :: "a" :: "b" :: "y" :: "line" :: "act" :: "given" :: "v" :: []) "law" (defScope (top 49)) f cdv A outer s H E).nox
def spLDs (K : PySem.W.Frag) : Sp := fun vs H Q E => ∃ n, n ≤ 3 ∧ spLD K n vs H Q E
def spLed (K : PySem.W.Frag) (C : Addr) : Sp := fun vs H Q E => spLedI K vs H Q E ∨ spLedR K C vs H Q E
structure Fx (X : Cx) (fU fT fS fE fP Fa M R C : Addr) : Prop where
  hN : X.N = (("script" :: "state" :: "wide" :: "k" :: "one" :: "two" :: "both" :: "d" :: "row" :: "x" :: "back" :: "raised" :: "turn" :: "own" :: "due" :: "low" :: "n" :: "zeros" :: "power" :: "c" :: "gap" :: "value" :: "step" :: "column" :: "shares" :: "good" :: "tried" :: "i" :: "a" :: "b" :: "y" :: "line" :: "act" :: "given" :: "v" :: []) : List Str)
  nd : X.N.Nodup
  hr : Room 10 X.A
  tk : Takes X (fun _ _ _ _ => False)
  n_tuple : X.mg "tuple" = none
  n_range : X.mg "range" = none
  n_sum : X.mg "sum" = none
  n_zip : X.mg "zip" = none
  n_len : X.mg "len" = none
  n_list : X.mg "list" = none
  n_isinstance : X.mg "isinstance" = none
  n_all : X.mg "all" = none
  n_int : X.mg "int" = none
  g_undone : X.mg "undone" = some (.ref fU)
  o_undone : ∃ fd ps, FnOk X.prog X.w X.K X.mg X.base (L2.CX X.prog X.w) 8 fU fd ps (spUnd X.K M R) ∧ PySem.W.keepIn X.K (.ref fU) = true ∧ Binds X.K fd ps []
  g_check_table : X.mg "check_table" = some (.ref fT)
  o_check_table : ∃ fd ps, FnOk X.prog X.w X.K X.mg X.base (L2.CX X.prog X.w) 8 fT fd ps (spCT X.K M) ∧ PySem.W.keepIn X.K (.ref fT) = true ∧ Binds X.K fd ps []
  g_check_tables : X.mg "check_tables" = some (.ref fS)
  o_check_tables : ∃ fd ps, FnOk X.prog X.w X.K X.mg X.base (L2.CX X.prog X.w) 8 fS fd ps (spCTs X.K M) ∧ PySem.W.keepIn X.K (.ref fS) = true ∧ Binds X.K fd ps []
  g_repeats : X.mg "repeats" = some (.ref fE)
  o_repeats : ∃ fd ps, FnOk X.prog X.w X.K X.mg X.base (L2.CX X.prog X.w) 8 fE fd ps (spRep X.K M) ∧ PySem.W.keepIn X.K (.ref fE) = true ∧ Binds X.K fd ps []
  g_told_poly : X.mg "told_poly" = some (.ref fP)
  o_told_poly : ∃ fd ps, FnOk X.prog X.w X.K X.mg X.base (L2.CX X.prog X.w) 8 fP fd ps (spPoly X.K M) ∧ PySem.W.keepIn X.K (.ref fP) = true ∧ Binds X.K fd ps []
  g_ratio : X.mg "Ratio" = some (.ref C)
  c_law_state : Cal X.prog X.w X.K X.mg X.base 1 "_law_state" (spState X.K) []
  c_law_take : Cal X.prog X.w X.K X.mg X.base 1 "_law_take" (spTake) []
  c_law_mo_skew : Cal X.prog X.w X.K X.mg X.base 2 "_law_mo_skew" (spSkew X.K) []
  c_law_mo_times : Cal X.prog X.w X.K X.mg X.base 1 "_law_mo_times" (spMul X.K) []
  c_law_mo_det : Cal X.prog X.w X.K X.mg X.base 5 "_law_mo_det" (spLDs X.K) []
  c_law_same : Cal X.prog X.w X.K X.mg X.base 4 "_law_same" (spSame X.K 2) []
  c_table_times : Cal X.prog X.w X.K X.mg X.base 1 "table_times" (spMul X.K) []
  c_det : Cal X.prog X.w X.K X.mg X.base 1 "det" (spDet X.K) []
  c_flipped : Cal X.prog X.w X.K X.mg X.base 1 "flipped" (spFlip X.K) []
  c_law_mo_flip : Cal X.prog X.w X.K X.mg X.base 1 "_law_mo_flip" (spFlip X.K) []
  c_trace : Cal X.prog X.w X.K X.mg X.base 1 "trace" (spTra X.K) []
  c_plain_table : Cal X.prog X.w X.K X.mg X.base 1 "plain_table" (spMk X.K plain) []
  c_law_mo_plain : Cal X.prog X.w X.K X.mg X.base 1 "_law_mo_plain" (spMk X.K plain) []
  c_turned_table : Cal X.prog X.w X.K X.mg X.base 1 "turned_table" (spMk X.K turned) []
  c_table_power : Cal X.prog X.w X.K X.mg X.base 2 "table_power" (spPow X.K) []
  c_is_table : Cal X.prog X.w X.K X.mg X.base 3 "is_table" (spTab X.K) []
  c_is_whole_turn : Cal X.prog X.w X.K X.mg X.base 4 "is_whole_turn" (spWT X.K) []
  c_law_says : Cal X.prog X.w X.K X.mg X.base 1 "_law_says" (spSays) []
  c_is_wide : Cal X.prog X.w X.K X.mg X.base 3 "is_wide" (spWi X.K) []
  c_law_mo_is_line : Cal X.prog X.w X.K X.mg X.base 2 "_law_mo_is_line" (spLine X.K) []
  c_law_result : Cal X.prog X.w X.K X.mg X.base 9 "_law_result" (spRes X.prog X.w X.K X.mg X.base M R) []
  x_undone : CalX X.prog X.w X.K X.mg X.base 5 "undone" (spUnd X.K M R) []
  x_repeats : CalX X.prog X.w X.K X.mg X.base 5 "repeats" (spRep X.K M) []
  x_told_poly : CalX X.prog X.w X.K X.mg X.base 5 "told_poly" (spPoly X.K M) []
  x_led : CalX X.prog X.w X.K X.mg X.base 6 "led" (spLed X.K C) []
  x_law_mo_led : CalX X.prog X.w X.K X.mg X.base 6 "_law_mo_led" (spMoLed X.K C) []
  m_eq : MetX X.prog X.w X.K X.mg X.base CX0 1 C "__eq__" (spEqR X.K C)
  mkR : MakX X.prog X.w X.K X.mg X.base (L2.CX X.prog X.w) 3 "Ratio" C (spInit (K := X.K) M R C)
  T : Cls4 X.K X.mg Fa M R C
theorem draw_row {B : Nat} : ∀ {ds : List D}, (∀ d ∈ ds, ∃ x : Int, d = .int x ∧ x.natAbs < B) → ∃ r : List Int, ds = r.map D.int ∧ ∀ x ∈ r, x.natAbs < B
  | [], _ => ⟨[], rfl, by simp⟩
  | d :: ds, h => by
    obtain ⟨x, rfl, hx⟩ := h d (by simp)
    obtain ⟨r, rfl, hr⟩ := draw_row (ds := ds) fun d hd => h d (by simp [hd])
    refine ⟨x :: r, rfl, fun y hy => ?_⟩
    rcases List.mem_cons.mp hy with rfl | hy
    · exact hx
    · exact hr y hy
theorem draw_tab {B n : Nat} : ∀ {ds : List D}, (∀ d ∈ ds, ∃ r, d = rD r ∧ r.length = n ∧ ∀ x ∈ r, x.natAbs < B) → ∃ t : List (List Int), ds = t.map rD ∧ (∀ r ∈ t, r.length = n) ∧ Sm B t
  | [], _ => ⟨[], rfl, by simp, fun r hr => by simp at hr⟩
  | d :: ds, h => by
    obtain ⟨r, rfl, hr, hb⟩ := h d (by simp)
    obtain ⟨t, rfl, ht, hB⟩ := draw_tab (ds := ds) fun d hd => h d (by simp [hd])
    refine ⟨r :: t, rfl, fun y hy => ?_, fun y hy => ?_⟩
    · rcases List.mem_cons.mp hy with rfl | hy
      · exact hr
      · exact ht y hy
    · rcases List.mem_cons.mp hy with rfl | hy
      · exact hb
      · exact hB y hy
/-- what the law has drawn -/
structure Dr (n : Nat) (a b : List (List Int)) : Prop where
  n13 : 1 ≤ n ∧ n ≤ 3
  ra : Rows n n a
  sa : Sm 4 a
  sk : Skew n 3 b
theorem Dr.rb {n : Nat} {a b : List (List Int)} (h : Dr n a b) : Rows n n b := h.sk.rows h.n13.1
theorem Dr.sb {n : Nat} {a b : List (List Int)} (h : Dr n a b) : Sm 1000 b := by
  obtain ⟨B, h1, h2⟩ := h.sk.sm h.n13
  exact h1.mono (by omega)
section
variable {P : Program} {w : World} {K : PySem.W.Frag} {mg : Str → Option Value} {base : Heap} {f fU fT fS fE fP Fa M R C : Addr} {cdv : Value} {A : Around} {outer : List Env} {s : Shared} {H0 : Hp} {E0 : XK}
theorem law_1 {v : V} {ns : List Int} {H : Hp} (T0 : Fx (LX P w K mg base f cdv A outer s H0 E0) fU fT fS fE fP Fa M R C) (rp0 : Rp K H v (.lst (ns.map .int))) (hl : ns.length ≤ 63) {D0 : Ends}
    (q : ∀ (vs : Addr) (n : Nat) (a b : List (List Int)) (v1 v2 v3 : V) H', St vs H' → Dr n a b → Rp K H' v1 (tD a) → Rp K H' v2 (tD b) → Rp K H' v3 (tD (mul a b)) →
      QB (LX P w K mg base f cdv A outer s H0 E0) ((defBody (top 49)).drop 5) D0 (some (v) :: some (.ref vs) :: some (.int n) :: none :: some (v1) :: some (v2) :: some (v3) :: some (.int (dt a)) :: none :: none :: none :: none :: none :: none :: none :: none :: none :: none :: none :: none :: none :: none :: none :: none :: none :: none :: none :: none :: none :: none :: none :: none :: none :: none :: none :: []) H') :
    QB (LX P w K mg base f cdv A outer s H0 E0) (defBody (top 49)) D0 (some (v) :: none :: none :: none :: none :: none :: none :: none :: none :: none :: none :: none :: none :: none :: none :: none :: none :: none :: none :: none :: none :: none :: none :: none :: none :: none :: none :: none :: none :: none :: none :: none :: none :: none :: none :: []) H := by
  obtain ⟨hN, nd, hr, tk, n_tuple, n_range, n_sum, n_zip, n_len, n_list, n_isinstance, n_all, n_int, g_undone, o_undone, g_check_table, o_check_table, g_check_tables, o_check_tables, g_repeats, o_repeats, g_told_poly, o_told_poly, g_ratio, c_law_state, c_law_take, c_law_mo_skew, c_law_mo_times, c_law_mo_det, c_law_same, c_table_times, c_det, c_flipped, c_law_mo_flip, c_trace, c_plain_table, c_law_mo_plain, c_turned_table, c_table_power, c_is_table, c_is_whole_turn, c_law_says, c_is_wide, c_law_mo_is_line, c_law_result, x_undone, x_repeats, x_told_poly, x_led, x_law_mo_led, m_eq, mkR, T⟩ := T0
  have hz : (1000 : Nat) < sizeLine := by decide
  change QB _ (_ :: _ :: _ :: _ :: _ :: (defBody (top 49)).drop 5) _ _ _
  kct_strs
  refine ⟨_, _, rfl, rp0, hl, fun s0 t0 ps H1 s1 e1 => ?_⟩
  have st1 : St ps H1 := ⟨_, _, e1⟩
  kct_strs
  refine ⟨_, _, rfl, by decide, st1, fun r2 H2 h3 h4 k2 => ?_⟩
  obtain ⟨m, rfl⟩ := Int.eq_ofNat_of_zero_le h3
  have hn : 1 ≤ 1 + m ∧ 1 + m ≤ 3 := by omega
  kct_strs
  generalize hw : (1 : Int) + (m : Int) = W
  obtain ⟨n, hn, rfl⟩ : ∃ n : Nat, (1 ≤ n ∧ n ≤ 3) ∧ W = (n : Int) := ⟨1 + m, hn, by omega⟩
  clear hw
  kct_strs
  pv_eval
  kct_strs
  refine ⟨by have := sizeLine_eq; omega, ps, fun d => ∃ r, d = rD r ∧ r.length = n ∧ ∀ x ∈ r, x.natAbs < 4, k2.t, fun d ⟨r, e, _⟩ => e ▸ ints_im r, fun k H3 hk k3 => ?_, fun p3 H3 ys ds k3 hp3 e3 rd hlen hall => ?_⟩
  · intro s0 H00 C0 cl fp
    kct_strs
    pv_eval
    kct_strs
    refine ⟨by have := sizeLine_eq; omega, ps, fun d => ∃ x : Int, d = .int x ∧ x.natAbs < 4, k3.t, fun d ⟨r, e, _⟩ => e ▸ rfl, fun k H4 hk k4 => ?_, fun p4 H4 ys ds k4 hp4 e4 rd hlen hall => ?_⟩
    · intro s0 H00 C0 cl fp
      kct_strs
      refine ⟨_, _, rfl, by decide, k4.t, fun r5 H5 h5 h6 k5 => ?_⟩
      kct_strs
      exact ⟨k5, _, ⟨_, rfl, by omega⟩, .int _⟩
    · kct_strs
      refine callw_tuple_l (.lstOf e4 rd) fun v H5 s5 r5 => ?_
      obtain ⟨r, rfl, hr⟩ := draw_row hall
      exact ⟨k4.trans (Ke.of_same k4.t s5), _, ⟨r, rfl, by rw [List.length_map] at hlen; omega, hr⟩, r5⟩
  · kct_strs
    refine callw_tuple_l (.lstOf e3 rd) fun v1 H4 s4 r4 => ?_
    obtain ⟨a, rfl, ha, sa⟩ := draw_tab hall
    have la : Rows n n a := ⟨by rw [List.length_map] at hlen; omega, ha⟩
    have k4 := (k2.trans k3).trans (Ke.of_same k3.t s4)
    kct_strs
    refine ⟨ps, n, rfl, k4.t, hn, fun v2 b H5 k5 r5 sk => ?_⟩
    have D : Dr n a b := ⟨hn, la, sa, sk⟩
    have r4' : Rp K H5 v1 (tD a) := k5.rp k4.t r4 (imAll_map ints_im)
    kct_strs
    refine ⟨v1, v2, a, b, n, n, rfl, r4', r5, la, D.rb, hn, hn.2, D.sb.mono (by decide), fun v3 H6 s6 r6 => ?_⟩
    kct_strs
    refine ⟨n, hn.2, v1, true, true, a, rfl, r4'.to s6, la, sa.mono (by decide), fun H7 s7 => ?_⟩
    rw [ld_dt hn la]
    kct_strs
    have S7 := s6.trans s7
    exact q ps n a b v1 v2 v3 _ (k5.t.same S7) D (r4'.to S7) (r5.to S7) (r6.to s7)
end
theorem dsm_row {r : List Int} (h : r.length ≤ 1000) : dsm 1 (rD r) = true ∧ dsm 2 (rD r) = true := by
  constructor
  · show (decide ((r.map D.int).length ≤ 1000) && (r.map D.int).all (dsm 0)) = true
    rw [List.length_map, decide_eq_true h, List.all_map, Bool.true_and, List.all_eq_true]
    exact fun _ _ => rfl
  · show (decide ((r.map D.int).length ≤ 1000) && (r.map D.int).all (dsm 1)) = true
    rw [List.length_map, decide_eq_true h, List.all_map, Bool.true_and, List.all_eq_true]
    exact fun _ _ => rfl
theorem dsm_tab {n : Nat} {t : List (List Int)} (h : Rows n n t) (hn : n ≤ 3) : dsm 2 (tD t) = true := by
  show (decide ((t.map rD).length ≤ 1000) && (t.map rD).all (dsm 1)) = true
  rw [List.length_map, h.1, decide_eq_true (by omega), List.all_map, Bool.true_and, List.all_eq_true]
  exact fun r hr => (dsm_row (by rw [h.2 r hr]; omega)).1
theorem ned_same {X : Cx} {H : Hp} {Q : VK} {x y : V} {t : List (List Int)} {j : Nat} (hr : Room j X.A) (h1 : Rp X.K H x (tD t)) (h2 : Rp X.K H y (tD t)) (q : Q (.bl false) H) : OpW X (compareOp .NotEq) x y H Q :=
  opw_ned hr h1 h2 (tD_pure t).1 (tD_pure t).1 (tD_pure t).2 (tD_pure t).2 fun b hb => by rw [hb.mpr rfl]; exact q
section
variable {P : Program} {w : World} {K : PySem.W.Frag} {mg : Str → Option Value} {base : Heap} {f fU fT fS fE fP Fa M R C : Addr} {cdv : Value} {A : Around} {outer : List Env} {s : Shared} {H0 : Hp} {E0 : XK}
theorem law_2 {v v1 v2 v3 : V} {vs : Addr} {n : Nat} {a b : List (List Int)} {H : Hp} (T0 : Fx (LX P w K mg base f cdv A outer s H0 E0) fU fT fS fE fP Fa M R C) (Dn : Dr n a b) (r1 : Rp K H v1 (tD a)) (r2 : Rp K H v2 (tD b)) (r3 : Rp K H v3 (tD (mul a b))) {D0 : Ends}
    (q : ∀ H', Same H H' → QB (LX P w K mg base f cdv A outer s H0 E0) ((defBody (top 49)).drop 8) D0 (some (v) :: some (.ref vs) :: some (.int n) :: none :: some (v1) :: some (v2) :: some (v3) :: some (.int (dt a)) :: none :: none :: none :: none :: none :: none :: none :: none :: none :: none :: none :: none :: none :: none :: none :: none :: none :: none :: none :: none :: none :: none :: none :: none :: none :: none :: none :: []) H') :
    QB (LX P w K mg base f cdv A outer s H0 E0) ((defBody (top 49)).drop 5) D0 (some (v) :: some (.ref vs) :: some (.int n) :: none :: some (v1) :: some (v2) :: some (v3) :: some (.int (dt a)) :: none :: none :: none :: none :: none :: none :: none :: none :: none :: none :: none :: none :: none :: none :: none :: none :: none :: none :: none :: none :: none :: none :: none :: none :: none :: none :: none :: []) H := by
  obtain ⟨hN, nd, hr, tk, n_tuple, n_range, n_sum, n_zip, n_len, n_list, n_isinstance, n_all, n_int, g_undone, o_undone, g_check_table, o_check_table, g_check_tables, o_check_tables, g_repeats, o_repeats, g_told_poly, o_told_poly, g_ratio, c_law_state, c_law_take, c_law_mo_skew, c_law_mo_times, c_law_mo_det, c_law_same, c_table_times, c_det, c_flipped, c_law_mo_flip, c_trace, c_plain_table, c_law_mo_plain, c_turned_table, c_table_power, c_is_table, c_is_whole_turn, c_law_says, c_is_wide, c_law_mo_is_line, c_law_result, x_undone, x_repeats, x_told_poly, x_led, x_law_mo_led, m_eq, mkR, T⟩ := T0
  have hz : (1000 : Nat) < sizeLine := by decide
  have hn := Dn.n13
  have la := Dn.ra
  have lb := Dn.rb
  have lm : Rows n n (mul a b) := mul_rows la lb hn.1
  have sm : Sm (2 ^ 20) (mul a b) := (mul_small hn la lb (Dn.sa : Sm (3 + 1) a) (Dn.sb : Sm (999 + 1) b)).mono (by decide)
  have u1 : dt b = 1 ∨ dt b = -1 := Dn.sk.dt hn
  change QB _ (_ :: _ :: _ :: (defBody (top 49)).drop 8) _ _ _
  kct_strs
  refine ⟨v1, v2, a, b, n, n, rfl, r1, r2, la, lb, hn, hn.2, Dn.sb.mono (by decide), fun v4 H4 s4 r4 => ?_⟩
  kct_strs
  refine ⟨v4, v3, _, rfl, r4, r3.to s4, dsm_tab lm hn.2, fun H5 s5 => ?_⟩
  have S5 := s4.trans s5
  kct_strs
  rw [if_neg (by decide)]
  kct_strs
  refine ⟨v1, a, n, rfl, r1.to S5, la, hn, Dn.sa.mono (by decide), fun H6 s6 => ?_⟩
  kct_strs
  refine ⟨.int (dt a), .int (dt a), .int (dt a), rfl, .int _, .int _, rfl, fun H7 s7 => ?_⟩
  have S7 := S5.trans (s6.trans s7)
  kct_strs
  rw [if_neg (by decide)]
  kct_strs
  refine ⟨v3, mul a b, n, rfl, r3.to S7, lm, hn, sm, fun H8 s8 => ?_⟩
  kct_strs
  refine ⟨v2, b, n, rfl, r2.to (S7.trans s8), lb, hn, Dn.sb.mono (by decide), fun H9 s9 => ?_⟩
  have S9 := S7.trans (s8.trans s9)
  refine opw_mul (.inr (by omega)) ?_
  kct_strs
  rw [dt_mul hn la lb, decide_eq_true rfl]
  rw [if_neg (by decide)]
  kct_strs
  refine ⟨v1, a, n, n, rfl, r1.to S9, la, hn, hn.2, fun v10 H10 s10 r10 => ?_⟩
  kct_strs
  refine ⟨v1, a, n, n, rfl, r1.to (S9.trans s10), la, hn, hn.2, fun v11 H11 s11 r11 => ?_⟩
  have S11 := S9.trans (s10.trans s11)
  refine ned_same hr (r10.to s11) r11 ?_
  kct_strs
  rw [if_neg (by decide)]
  kct_strs
  refine ⟨v1, a, n, rfl, r1.to S11, la, hn.2, fun H12 s12 => ?_⟩
  have S12 := S11.trans s12
  have r12 := r1.to S12
  kct_strs
  fin_range
  kct_strs
  refine ⟨by omega, fun k => .int (at2 a k k), fun k _ => rfl, fun k H13 hk s13 => ?_, fun p H13 ys s13 hp hp2 r => ?_⟩
  · intro s0 H00 C0 cl fp
    kct_strs
    refine ixw_mt (d0 := []) (r12.to s13) (by omega) (by rw [Int.toNat_natCast, la.1]; exact hk) fun w2 r2 => ?_
    kct_strs
    rw [Int.toNat_natCast] at r2
    refine ixw_row r2 (by omega) (by rw [Int.toNat_natCast, la.2 _ (getD_mem (by rw [la.1]; exact hk))]; exact hk) ?_
    rw [Int.toNat_natCast]
    exact ⟨Same.refl _, .int _⟩
  · kct_strs
    rw [show ((List.range n).map fun k => D.int (at2 a k k)) = ((List.range n).map fun k => at2 a k k).map D.int by rw [List.map_map]; rfl] at r
    refine callw_sum rfl hp2 r ?_
    have et : ((List.range n).map fun k => at2 a k k).sum = tra a := by unfold tra; rw [la.1]
    rw [et]
    kct_strs
    refine ⟨.int (tra a), .int (tra a), .int (tra a), rfl, .int _, .int _, rfl, fun H14 s14 => ?_⟩
    have S14 := S12.trans (s13.trans s14)
    kct_strs
    rw [if_neg (by decide)]
    kct_strs
    refine ⟨n, rfl, hn.2, fun v15 H15 s15 r15 => ?_⟩
    kct_strs
    refine ⟨n, rfl, hn.2, fun v16 H16 s16 r16 => ?_⟩
    refine ned_same hr (r15.to s16) r16 ?_
    kct_strs
    rw [if_neg (by decide)]
    kct_strs
    refine ⟨n, rfl, hn.2, fun v17 H17 s17 r17 => ?_⟩
    have S17 := S14.trans (s15.trans (s16.trans s17))
    kct_strs
    by_item
    kct_strs
    refine ⟨n, rfl, hn.2, fun v18 H18 s18 r18 => ?_⟩
    have lp := plain_rows n
    refine ⟨List Int, plain n, rD, fun r => rD (r.map fun x => -x), r18, by rw [lp.1]; omega, fun r _ => ints_im _, fun r hr' w1 H19 s19 rr => ?_, fun p H19 ys s19 hp hp2 r => ?_⟩
    · intro s0 H00 C0 cl fp
      kct_strs
      by_item
      kct_strs
      refine ⟨Int, r, D.int, fun x => .int (-x), rr, by rw [lp.2 r hr']; omega, fun _ _ => rfl, fun x hx w2 H20 s20 rx => ?_, fun p H20 ys s20 hp hp2 r => ?_⟩
      · obtain rfl := rx.int_inv
        intro s0 H00 C0 cl fp
        kct_strs
        exact ⟨Same.refl _, .int _⟩
      · kct_strs
        refine callw_tuple_l (.lstOf hp2 r) fun v H21 s21 r21 => ⟨s20.trans s21, ?_⟩
        dsimp only
        rw [rD_map]
        exact r21
    · kct_strs
      refine callw_tuple_l (.lstOf hp2 r) fun v20 H20 s20 r20 => ?_
      have e20 : tD (turned n) = .tup ((plain n).map fun r => rD (r.map fun x => -x)) := by
        rw [← tD_map]
        unfold plain turned
        rw [List.map_map]
        congr 2
        funext i
        simp
      rw [← e20] at r20
      refine ned_same hr (r17.to (s18.trans (s19.trans s20))) r20 ?_
      kct_strs
      rw [if_neg (by decide)]
      kct_strs
      exact q H20 (S17.trans (s18.trans (s19.trans s20)))
end
section
variable {P : Program} {w : World} {K : PySem.W.Frag} {mg : Str → Option Value} {base : Heap} {fA M R C : Addr} {spA : Sp}
/-- an act refuses what it is given as malformed -/
theorem res_mal {H : Hp} {Q : VK} {E : XK} {p1 : Addr} {u : V} (O : ∃ fd ps, FnOk P w K mg base (L2.CX P w) 8 fA fd ps spA ∧ PySem.W.keepIn K (.ref fA) = true ∧ Binds K fd ps []) (e1 : H p1 = some (.tup [u]))
    (hs : ∀ (Q' : VK) (E' : XK), (∀ H', Same H H' → E' (.ref M) none H') → spA [u] H Q' E') (g : ∀ p H', Same H H' → H' p = some (.tup [.str "malformed", .non]) → Q (.ref p) H') : spRes P w K mg base M R [.ref fA, .ref p1] H Q E := by
  obtain ⟨fd1, ps1, O1, O2, O3⟩ := O
  refine ⟨fA, p1, fd1, ps1, _, [u], fun _ _ => False, fun c _ H2 => c = .ref M ∧ Same H H2, rfl, O1, O2, O3, .inl (.inl e1), rfl, fun Q' E' _ b' => hs Q' E' fun H' s' => b' _ _ _ ⟨rfl, s'⟩, fun _ _ _ _ h => h.elim, ?_⟩
  rintro c d' H2 ⟨rfl, s2⟩
  exact .inl ⟨rfl, fun p H' s3 e3 => g p H' (s2.trans s3) e3⟩
theorem res_ref {H : Hp} {Q : VK} {E : XK} {p1 : Addr} {u : V} {z : Str} (O : ∃ fd ps, FnOk P w K mg base (L2.CX P w) 8 fA fd ps spA ∧ PySem.W.keepIn K (.ref fA) = true ∧ Binds K fd ps []) (e1 : H p1 = some (.tup [u]))
    (hs : ∀ (Q' : VK) (E' : XK), (∀ x H', Same H H' → H' x = some (.xd [("reason", .str z)]) → E' (.ref R) (some x) H') → spA [u] H Q' E') (g : ∀ p H', Same H H' → H' p = some (.tup [.str "refused", .str z]) → Q (.ref p) H') : spRes P w K mg base M R [.ref fA, .ref p1] H Q E := by
  obtain ⟨fd1, ps1, O1, O2, O3⟩ := O
  refine ⟨fA, p1, fd1, ps1, _, [u], fun _ _ => False, fun c d' H2 => c = .ref R ∧ ∃ dd, d' = some dd ∧ Same H H2 ∧ H2 dd = some (.xd [("reason", .str z)]), rfl, O1, O2, O3, .inl (.inl e1), rfl, fun Q' E' _ b' => hs Q' E' fun x H' s' ex => b' _ _ _ ⟨rfl, x, rfl, s', ex⟩, fun _ _ _ _ h => h.elim, ?_⟩
  rintro c d' H2 ⟨rfl, dd, rfl, s2, ed⟩
  exact .inr ⟨rfl, dd, z, rfl, ed, fun p H' s3 e3 => g p H' (s2.trans s3) e3⟩
theorem res_told {H : Hp} {Q : VK} {E : XK} {p1 : Addr} {u : V} (O : ∃ fd ps, FnOk P w K mg base (L2.CX P w) 8 fA fd ps spA ∧ PySem.W.keepIn K (.ref fA) = true ∧ Binds K fd ps []) (e1 : H p1 = some (.tup [u]))
    (hs : ∀ (Q' : VK) (E' : XK), (∀ H', Same H H' → Q' .non H') → spA [u] H Q' E') (g : ∀ p H', Same H H' → H' p = some (.tup [.str "told", .non]) → Q (.ref p) H') : spRes P w K mg base M R [.ref fA, .ref p1] H Q E := by
  obtain ⟨fd1, ps1, O1, O2, O3⟩ := O
  refine ⟨fA, p1, fd1, ps1, _, [u], fun u' H2 => u' = .non ∧ Same H H2, fun _ _ _ => False, rfl, O1, O2, O3, .inl (.inl e1), rfl, fun Q' E' a' _ => hs Q' E' fun H' s' => a' _ _ ⟨rfl, s'⟩, ?_, fun _ _ _ h => h.elim⟩
  rintro u' H2 p H' ⟨rfl, s2⟩ s3 e3
  exact g p H' (s2.trans s3) e3
end
section
variable {P : Program} {w : World} {K : PySem.W.Frag} {mg : Str → Option Value} {base : Heap} {f fU fT fS fE fP Fa M R C : Addr} {cdv : Value} {A : Around} {outer : List Env} {s : Shared} {H0 : Hp} {E0 : XK}
theorem law_3 {v v1 v2 v3 : V} {vs : Addr} {n : Nat} {a b : List (List Int)} {H : Hp} (T0 : Fx (LX P w K mg base f cdv A outer s H0 E0) fU fT fS fE fP Fa M R C) (Dn : Dr n a b) (r1 : Rp K H v1 (tD a)) (r2 : Rp K H v2 (tD b)) {D0 : Ends}
    (q : ∀ (bk : V) H', Same H H' → QB (LX P w K mg base f cdv A outer s H0 E0) ((defBody (top 49)).drop 11) D0 (some (v) :: some (.ref vs) :: some (.int n) :: none :: some (v1) :: some (v2) :: some (v3) :: some (.int (dt a)) :: none :: none :: some (bk) :: none :: none :: none :: none :: none :: none :: none :: none :: none :: none :: none :: none :: none :: none :: none :: none :: none :: none :: none :: none :: none :: none :: none :: none :: []) H') :
    QB (LX P w K mg base f cdv A outer s H0 E0) ((defBody (top 49)).drop 8) D0 (some (v) :: some (.ref vs) :: some (.int n) :: none :: some (v1) :: some (v2) :: some (v3) :: some (.int (dt a)) :: none :: none :: none :: none :: none :: none :: none :: none :: none :: none :: none :: none :: none :: none :: none :: none :: none :: none :: none :: none :: none :: none :: none :: none :: none :: none :: none :: []) H := by
  obtain ⟨hN, nd, hr, tk, n_tuple, n_range, n_sum, n_zip, n_len, n_list, n_isinstance, n_all, n_int, g_undone, o_undone, g_check_table, o_check_table, g_check_tables, o_check_tables, g_repeats, o_repeats, g_told_poly, o_told_poly, g_ratio, c_law_state, c_law_take, c_law_mo_skew, c_law_mo_times, c_law_mo_det, c_law_same, c_table_times, c_det, c_flipped, c_law_mo_flip, c_trace, c_plain_table, c_law_mo_plain, c_turned_table, c_table_power, c_is_table, c_is_whole_turn, c_law_says, c_is_wide, c_law_mo_is_line, c_law_result, x_undone, x_repeats, x_told_poly, x_led, x_law_mo_led, m_eq, mkR, T⟩ := T0
  have hz : (1000 : Nat) < sizeLine := by decide
  have hn := Dn.n13
  have la := Dn.ra
  have lb := Dn.rb
  have u1 : dt b = 1 ∨ dt b = -1 := Dn.sk.dt hn
  have m1 : dt b ∈ [(1 : Int), -1] := by rcases u1 with e | e <;> rw [e] <;> simp
  have ib : itb (tD b) = true := tab_itb lb hn (Dn.sb.mono (by decide))
  have ia : itb (tD a) = true := tab_itb la hn (Dn.sa.mono (by decide))
  have ta := tab_tys la (by omega)
  have tb := tab_tys lb (by omega)
  have lu := und_rows hn lb
  have su := und_sm hn lb u1 Dn.sb
  obtain ⟨e1, e2⟩ := und_mul hn lb u1
  change QB _ (_ :: _ :: _ :: (defBody (top 49)).drop 11) _ _ _
  kct_strs
  refine ⟨v2, tD b, rfl, r2, tb.1, tb.2, (fun e => by rw [ib] at e; cases e), fun t et _ e => ?_, fun t et _ _ u H3 s3 r3 => ?_⟩
  · rw [← tD_inj et] at e
    exact absurd m1 e
  rw [← tD_inj et] at r3
  kct_strs
  refine ⟨v2, u, b, und b, n, n, rfl, r2.to s3, r3, lb, lu, hn, hn.2, su.mono (by decide), fun v4 H4 s4 r4 => ?_⟩
  rw [e1] at r4
  kct_strs
  refine ⟨n, rfl, hn.2, fun v5 H5 s5 r5 => ?_⟩
  refine ned_same hr (r4.to s5) r5 ?_
  have S5 := s4.trans s5
  kct_strs
  rw [if_neg (by decide)]
  kct_strs
  refine ⟨u, v2, und b, b, n, n, rfl, r3.to S5, (r2.to s3).to S5, lu, lb, hn, hn.2, Dn.sb.mono (by decide), fun v6 H6 s6 r6 => ?_⟩
  rw [e2] at r6
  kct_strs
  refine ⟨n, rfl, hn.2, fun v7 H7 s7 r7 => ?_⟩
  refine ned_same hr (r6.to s7) r7 ?_
  have S7 := (s3.trans S5).trans (s6.trans s7)
  kct_strs
  rw [if_neg (by decide)]
  kct_strs
  refine wt_cmp rfl ?_
  kct_strs
  refine ⟨v2, b, n, rfl, r2.to S7, lb, hn, Dn.sb.mono (by decide), fun H8 s8 => ?_⟩
  kct_strs
  refine ⟨Nat.le_of_ble_eq_true rfl, fun p9 H9 hp9 s9 e9 => ?_⟩
  refine opw_ninI (ns := [1, -1]) e9 ?_
  have S9 := S7.trans (s8.trans s9)
  kct_strs
  rw [decide_eq_true m1]
  rw [if_neg (by decide)]
  kct_strs
  refine wt_cmp rfl ?_
  kct_strs
  refine ⟨Nat.le_of_ble_eq_true rfl, fun p10 H10 hp10 s10 e10 => ?_⟩
  refine opw_ninI (ns := [1, -1]) e10 ?_
  have S10 := S9.trans s10
  kct_strs
  by_cases ma : dt a ∈ [(1 : Int), -1]
  · rw [decide_eq_true ma]
    rw [if_neg (by decide)]
    kct_strs
    rw [if_neg (by decide)]
    kct_strs
    exact q u _ S10
  · rw [decide_eq_false ma]
    rw [if_pos (by decide)]
    kct_strs
    refine ⟨Nat.le_of_ble_eq_true rfl, fun p11 H11 hp11 s11 e11 => ?_⟩
    kct_strs
    have S11 := S10.trans s11
    refine res_ref (z := "determinant") o_undone e11 (fun Q' E' he => ⟨v1, tD a, rfl, r1.to S11, ta.1, ta.2, (fun e => by rw [ia] at e; cases e), fun t et _ _ x H' s' ex => he x H' s' ex, fun t et _ e => ?_⟩) fun p12 H12 s12 e12 => ?_
    · rw [← tD_inj et] at e
      exact absurd e ma
    · kct_strs
      refine ⟨Nat.le_of_ble_eq_true rfl, fun p13 H13 hp13 s13 e13 => ?_⟩
      have d12 : Rp K H13 (.ref p12) (.tup [.str "refused", .str "determinant"]) := .tupOf (s13 _ _ e12) (.cons (.str _) (.cons (.str _) .nil))
      have d13 : Rp K H13 (.ref p13) (.tup [.str "refused", .str "determinant"]) := .tupOf e13 (.cons (.str _) (.cons (.str _) .nil))
      refine opw_ned hr d12 d13 (by simp [D.pure, pureAll]; exact ⟨by decide +kernel, by decide +kernel⟩) (by simp [D.pure, pureAll]; exact ⟨by decide +kernel, by decide +kernel⟩) (by simp [D.dep, depAll]) (by simp [D.dep, depAll]) fun b hb => ?_
      rw [hb.mpr rfl]
      kct_strs
      rw [if_neg (by decide)]
      kct_strs
      exact q u _ (S11.trans (s12.trans s13))
end
section
variable {P : Program} {w : World} {K : PySem.W.Frag} {mg : Str → Option Value} {base : Heap} {f fU fT fS fE fP Fa M R C : Addr} {cdv : Value} {A : Around} {outer : List Env} {s : Shared} {H0 : Hp} {E0 : XK}
theorem law_4 {v v1 v2 vb bk : V} {vs : Addr} {n : Nat} {a b : List (List Int)} {H : Hp} (T0 : Fx (LX P w K mg base f cdv A outer s H0 E0) fU fT fS fE fP Fa M R C) (Dn : Dr n a b) (st : St vs H) (r1 : Rp K H v1 (tD a)) {D0 : Ends}
    (q : ∀ (m : Int) (vr : V) (ot : Option V) H', Ke vs H H' → QB (LX P w K mg base f cdv A outer s H0 E0) ((defBody (top 49)).drop 14) D0 (some (v) :: some (.ref vs) :: some (.int n) :: some (.int m) :: some (v1) :: some (v2) :: some (vb) :: some (.int (dt a)) :: none :: none :: some (bk) :: some (vr) :: ot :: none :: none :: none :: none :: none :: none :: none :: none :: none :: none :: none :: none :: none :: none :: none :: none :: none :: none :: none :: none :: none :: none :: []) H') :
    QB (LX P w K mg base f cdv A outer s H0 E0) ((defBody (top 49)).drop 11) D0 (some (v) :: some (.ref vs) :: some (.int n) :: none :: some (v1) :: some (v2) :: some (vb) :: some (.int (dt a)) :: none :: none :: some (bk) :: none :: none :: none :: none :: none :: none :: none :: none :: none :: none :: none :: none :: none :: none :: none :: none :: none :: none :: none :: none :: none :: none :: none :: none :: []) H := by
  obtain ⟨hN, nd, hr, tk, n_tuple, n_range, n_sum, n_zip, n_len, n_list, n_isinstance, n_all, n_int, g_undone, o_undone, g_check_table, o_check_table, g_check_tables, o_check_tables, g_repeats, o_repeats, g_told_poly, o_told_poly, g_ratio, c_law_state, c_law_take, c_law_mo_skew, c_law_mo_times, c_law_mo_det, c_law_same, c_table_times, c_det, c_flipped, c_law_mo_flip, c_trace, c_plain_table, c_law_mo_plain, c_turned_table, c_table_power, c_is_table, c_is_whole_turn, c_law_says, c_is_wide, c_law_mo_is_line, c_law_result, x_undone, x_repeats, x_told_poly, x_led, x_law_mo_led, m_eq, mkR, T⟩ := T0
  have hz : (1000 : Nat) < sizeLine := by decide
  have hn := Dn.n13
  have la := Dn.ra
  change QB _ (_ :: (Stmt.For _ _ _ [] _) :: _ :: (defBody (top 49)).drop 14) _ _ _
  kct_strs
  refine ⟨_, _, rfl, by decide, st, fun r2 H2 h3 h4 k2 => ?_⟩
  obtain ⟨m, rfl⟩ := Int.eq_ofNat_of_zero_le h3
  kct_strs
  refine ⟨n, rfl, hn.2, fun v3 H3 s3 r3 => ?_⟩
  have r1' := (k2.rp st r1 (imAll_map ints_im)).to s3
  kct_strs
  refine ⟨by omega, fun j σ H' => Same H3 H' ∧ ∃ (u : V) (o : Option V), Rp K H' u (tD (pw a j)) ∧ σ = (some (v) :: some (.ref vs) :: some (.int n) :: some (.int m) :: some (v1) :: some (v2) :: some (vb) :: some (.int (dt a)) :: none :: none :: some (bk) :: some (u) :: o :: none :: none :: none :: none :: none :: none :: none :: none :: none :: none :: none :: none :: none :: none :: none :: none :: none :: none :: none :: none :: none :: none :: []), ⟨Same.refl _, v3, none, by show Rp K H3 v3 (tD (plain a.length)); rw [la.1]; exact r3, rfl⟩, ?_, ?_⟩
  · rintro j σ1 H4 hj ⟨s4, u, o, ru, rfl⟩
    show QG _ _ _ _ _ _
    kct_strs
    refine ⟨u, v1, pw a j, a, n, n, rfl, ru, r1'.to s4, pw_rows la hn.1 j, la, hn, hn.2, Dn.sa.mono (by decide), fun u2 H5 s5 r5 => ?_⟩
    kct_strs
    exact ⟨s4.trans s5, u2, _, r5, rfl⟩
  · rintro σ1 H4 ⟨s4, u, o, ru, rfl⟩
    rw [Int.toNat_natCast] at ru
    change QB _ (_ :: (defBody (top 49)).drop 14) _ _ _
    kct_strs
    refine ⟨v1, a, n, m, rfl, r1'.to s4, la, hn, Dn.sa.mono (by decide), by omega, fun u5 H5 s5 r5 => ?_⟩
    kct_strs
    refine ⟨u5, u, _, rfl, r5, ru.to s5, dsm_tab (pw_rows la hn.1 m) hn.2, fun H6 s6 => ?_⟩
    kct_strs
    rw [if_neg (by decide)]
    kct_strs
    exact q _ _ _ H6 (k2.trans (Ke.of_same k2.t (s3.trans (s4.trans (s5.trans s6)))))
end
def lb5 : List Stmt := match (defBody (top 49)).getD 14 (.Pass ⟨0, 0, 0, 0⟩) with
  | .For _ _ b _ _ => b
  | _ => []
def lb5s : List Stmt := match lb5.getD 1 (.Pass ⟨0, 0, 0, 0⟩) with
  | .For _ _ b _ _ => b
  | _ => []
theorem opw_notN {X : Cx} {H : Hp} {Q : VK} {x : V} (q : Q (.bl (!decide (x = V.non))) H) : OpW X (compareOp .IsNot) x .non H Q := opw_of op_notN ⟨rfl, q⟩
theorem turned_sm (n : Nat) : Sm 1000 (turned n) := by
  intro r hr x hx
  unfold turned at hr
  obtain ⟨i, _, rfl⟩ := List.mem_map.mp hr
  obtain ⟨k, _, rfl⟩ := List.mem_map.mp hx
  unfold one0
  split <;> decide
/-- what the law has found of the repeats, behind j turns -/
def DueAt (t : List (List Int)) (j : Nat) (due : V) : Prop := (due = .non ∧ ∀ k, k < j → up t k ≠ plain t.length) ∨ ∃ k, k < j ∧ First t k ∧ due = .int ((k + 1 : Nat) : Int)
section
variable {P : Program} {w : World} {K : PySem.W.Frag} {mg : Str → Option Value} {base : Heap} {f fU fT fS fE fP Fa M R C : Addr} {cdv : Value} {A : Around} {outer : List Env} {s : Shared} {H0 : Hp} {E0 : XK}
theorem law_b5 {v v1 v2 vb bk vr vo : V} {ot od ol on : Option V} {vs : Addr} {n : Nat} {dd mm : Int} {t : List (List Int)} {H : Hp} (T0 : Fx (LX P w K mg base f cdv A outer s H0 E0) fU fT fS fE fP Fa M R C) (hn : 1 ≤ n ∧ n ≤ 3) (ht : Rows n n t) (hB : Sm 1000 t) (ro : Rp K H vo (tD t)) {D0 : Ends}
    (q : ∀ (od ol on : Option V) H', Same H H' → D0.nx (some (v) :: some (.ref vs) :: some (.int n) :: some (.int mm) :: some (v1) :: some (v2) :: some (vb) :: some (.int dd) :: none :: none :: some (bk) :: some (vr) :: ot :: some (vo) :: od :: ol :: on :: none :: none :: none :: none :: none :: none :: none :: none :: none :: none :: none :: none :: none :: none :: none :: none :: none :: none :: []) H') :
    QB (LX P w K mg base f cdv A outer s H0 E0) lb5 D0 (some (v) :: some (.ref vs) :: some (.int n) :: some (.int mm) :: some (v1) :: some (v2) :: some (vb) :: some (.int dd) :: none :: none :: some (bk) :: some (vr) :: ot :: some (vo) :: od :: ol :: on :: none :: none :: none :: none :: none :: none :: none :: none :: none :: none :: none :: none :: none :: none :: none :: none :: none :: none :: []) H := by
  obtain ⟨hN, nd, hr, tk, n_tuple, n_range, n_sum, n_zip, n_len, n_list, n_isinstance, n_all, n_int, g_undone, o_undone, g_check_table, o_check_table, g_check_tables, o_check_tables, g_repeats, o_repeats, g_told_poly, o_told_poly, g_ratio, c_law_state, c_law_take, c_law_mo_skew, c_law_mo_times, c_law_mo_det, c_law_same, c_table_times, c_det, c_flipped, c_law_mo_flip, c_trace, c_plain_table, c_law_mo_plain, c_turned_table, c_table_power, c_is_table, c_is_whole_turn, c_law_says, c_is_wide, c_law_mo_is_line, c_law_result, x_undone, x_repeats, x_told_poly, x_led, x_law_mo_led, m_eq, mkR, T⟩ := T0
  have hz : (1000 : Nat) < sizeLine := by decide
  have it : itb (tD t) = true := tab_itb ht hn (hB.mono (by decide))
  have tt := tab_tys ht (by omega)
  change QB _ (_ :: (Stmt.For _ _ lb5s [] _) :: lb5.drop 2) _ _ _
  kct_strs
  refine ⟨_, _, rfl, rfl, by decide, fun j σ H' => Same H H' ∧ ∃ (dv lv : V) (o : Option V), DueAt t j dv ∧ Rp K H' lv (tD (up t j)) ∧ σ = (some (v) :: some (.ref vs) :: some (.int n) :: some (.int mm) :: some (v1) :: some (v2) :: some (vb) :: some (.int dd) :: none :: none :: some (bk) :: some (vr) :: ot :: some (vo) :: some (dv) :: some (lv) :: o :: none :: none :: none :: none :: none :: none :: none :: none :: none :: none :: none :: none :: none :: none :: none :: none :: none :: none :: []), ⟨Same.refl _, .non, vo, on, .inl ⟨rfl, fun k hk => absurd hk (Nat.not_lt_zero _)⟩, ro, rfl⟩, ?_, ?_⟩
  · rintro j σ1 H2 hj ⟨s2, dv, lv, o, hd, rl, rfl⟩
    have ro2 := ro.to s2
    have step : ∀ (dv' : V) H3 (E1 : Ends), Same H2 H3 → (∀ lv' H4, Same H3 H4 → Rp K H4 lv' (tD (up t (j + 1))) → E1.nx (some (v) :: some (.ref vs) :: some (.int n) :: some (.int mm) :: some (v1) :: some (v2) :: some (vb) :: some (.int dd) :: none :: none :: some (bk) :: some (vr) :: ot :: some (vo) :: some (dv') :: some (lv') :: some (.int (1 + (j : Nat))) :: none :: none :: none :: none :: none :: none :: none :: none :: none :: none :: none :: none :: none :: none :: none :: none :: none :: none :: []) H4) →
        QB (LX P w K mg base f cdv A outer s H0 E0) (lb5s.drop 1) E1 (some (v) :: some (.ref vs) :: some (.int n) :: some (.int mm) :: some (v1) :: some (v2) :: some (vb) :: some (.int dd) :: none :: none :: some (bk) :: some (vr) :: ot :: some (vo) :: some (dv') :: some (lv) :: some (.int (1 + (j : Nat))) :: none :: none :: none :: none :: none :: none :: none :: none :: none :: none :: none :: none :: none :: none :: none :: none :: none :: none :: []) H3 := by
      intro dv' H3 E1 s3 hnx
      change QB _ (Stmt.Assign [_] _ _ :: []) _ _ _
      kct_strs
      refine ⟨lv, vo, up t j, t, n, n, rfl, rl.to s3, ro2.to s3, up_rows ht hn.1 j, ht, hn, hn.2, hB.mono (by decide), fun u2 H4 s4 r4 => ?_⟩
      kct_strs
      exact hnx u2 H4 s4 r4
    show QG _ _ _ _ _ _
    kct_strs
    change QB _ (_ :: lb5s.drop 1) _ _ _
    kct_strs
    rcases hd with ⟨rfl, hno⟩ | ⟨k, hk, hf, rfl⟩
    · refine opw_isN .non ?_
      kct_strs
      refine ifb (fun _ => ?_) (fun e => by cases e)
      kct_strs
      refine ⟨n, rfl, hn.2, fun v3 H3 s3 r3 => ?_⟩
      refine opw_eqd hr (rl.to s3) r3 (tD_pure _).1 (tD_pure _).1 (tD_pure _).2 (tD_pure _).2 fun bb hbb => ?_
      kct_strs
      refine ifb (fun e1 => ?_) (fun e1 => ?_)
      · have e2 := tD_inj (hbb.mp e1)
        rw [← ht.1] at e2
        kct_strs
        refine step _ H3 _ s3 fun lv' H4 s4 r4 => ⟨s2.trans (s3.trans s4), _, lv', _, .inr ⟨j, by omega, ⟨e2, hno⟩, by rw [show ((j + 1 : Nat) : Int) = 1 + (j : Int) by omega]⟩, r4, rfl⟩
      · refine wss_nil ?_
        refine step _ H3 _ s3 fun lv' H4 s4 r4 => ⟨s2.trans (s3.trans s4), _, lv', _, .inl ⟨rfl, fun i hi => ?_⟩, r4, rfl⟩
        by_cases h : i = j
        · rw [h]
          intro e2
          rw [hbb.mpr (by rw [e2, ht.1])] at e1
          cases e1
        · exact hno i (by omega)
    · refine opw_isN (.int _) ?_
      kct_strs
      refine ifb (fun e => by cases e) (fun _ => ?_)
      kct_strs
      rw [if_neg (by decide)]
      refine wss_nil ?_
      refine step _ H2 _ (Same.refl _) fun lv' H4 s4 r4 => ⟨s2.trans s4, _, lv', _, .inr ⟨k, by omega, hf, rfl⟩, r4, rfl⟩
  · rintro σ1 H2 ⟨s2, dv, lv, o, hd, rl, rfl⟩
    have ro2 := ro.to s2
    change QB _ (_ :: lb5.drop 3) _ _ _
    kct_strs
    refine ⟨vo, tD t, rfl, ro2, tt.1, tt.2, (fun e => by rw [it] at e; cases e), fun t' et _ => ?_⟩
    obtain rfl := tD_inj et
    refine ⟨fun k hk hf H3 s3 => ?_, fun hno H3 s3 => ?_⟩
    · rcases hd with ⟨rfl, hno⟩ | ⟨k', hk', hf', rfl⟩
      · exact absurd hf.1 (hno k (Nat.lt_of_lt_of_le hk (by decide)))
      · have ek : k' = k := by
          rcases Nat.lt_trichotomy k' k with h | h | h
          · exact absurd hf'.1 (hf.2 k' h)
          · exact h
          · exact absurd hf.1 (hf'.2 k h)
        subst ek
        obtain ⟨b1, b2, b3⟩ := first_small hn ht (Nat.lt_of_lt_of_le hk' (by decide)) hf
        kct_strs
        refine ⟨_, _, .int ((k' + 1 : Nat) : Int), rfl, .int _, .int _, rfl, fun H4 s4 => ?_⟩
        kct_strs
        rw [if_neg (by decide)]
        kct_strs
        refine opw_notN ?_
        kct_strs
        rw [if_pos (by simp)]
        kct_strs
        refine wt_cmp rfl ?_
        kct_strs
        refine ⟨Nat.le_of_ble_eq_true rfl, fun p5 H5 hp5 s5 e5 => ?_⟩
        refine opw_ninI (ns := [1, 2, 3, 4, 6]) e5 ?_
        have m5 : ((k' + 1 : Nat) : Int) ∈ [(1 : Int), 2, 3, 4, 6] := by
          have : k' = 0 ∨ k' = 1 ∨ k' = 2 ∨ k' = 3 ∨ k' = 5 := by omega
          rcases this with rfl | rfl | rfl | rfl | rfl <;> simp
        have S5 := s2.trans (s3.trans (s4.trans s5))
        kct_strs
        rw [decide_eq_true m5]
        rw [if_neg (by decide)]
        kct_strs
        refine wt_cmp rfl ?_
        kct_strs
        refine ⟨n, hn.2, vo, true, true, t, rfl, ro.to S5, ht, hB.mono (by decide), fun H6 s6 => ?_⟩
        rw [ld_dt hn ht]
        kct_strs
        refine ⟨Nat.le_of_ble_eq_true rfl, fun p7 H7 hp7 s7 e7 => ?_⟩
        refine opw_ninI (ns := [1, -1]) e7 ?_
        have m7 : dt t ∈ [(1 : Int), -1] := by rcases b3 with e | e <;> rw [e] <;> simp
        kct_strs
        rw [decide_eq_true m7]
        rw [if_neg (by decide)]
        kct_strs
        show QB _ [] _ _ _
        refine wss_nil ?_
        exact q _ _ _ H7 (S5.trans (s6.trans s7))
    · rcases hd with ⟨rfl, hno'⟩ | ⟨k', hk', hf', rfl⟩
      · kct_strs
        refine ⟨_, _, .non, rfl, .non, .non, rfl, fun H4 s4 => ?_⟩
        kct_strs
        rw [if_neg (by decide)]
        kct_strs
        refine opw_notN ?_
        kct_strs
        rw [if_neg (by decide)]
        kct_strs
        rw [if_neg (by decide)]
        show QB _ [] _ _ _
        refine wss_nil ?_
        show QB _ [] _ _ _
        refine wss_nil ?_
        exact q _ _ _ H4 (s2.trans (s3.trans s4))
      · obtain ⟨b1, b2, b3⟩ := first_small hn ht (Nat.lt_of_lt_of_le hk' (by decide)) hf'
        exact absurd hf'.1 (hno k' b1)
end
section
variable {P : Program} {w : World} {K : PySem.W.Frag} {mg : Str → Option Value} {base : Heap} {f fU fT fS fE fP Fa M R C : Addr} {cdv : Value} {A : Around} {outer : List Env} {s : Shared} {H0 : Hp} {E0 : XK}
theorem law_5 {v v1 v2 vb bk vr : V} {ot : Option V} {vs : Addr} {n : Nat} {a b : List (List Int)} {dd mm : Int} {H : Hp} (T0 : Fx (LX P w K mg base f cdv A outer s H0 E0) fU fT fS fE fP Fa M R C) (Dn : Dr n a b) (r1 : Rp K H v1 (tD a)) (r2 : Rp K H v2 (tD b)) {D0 : Ends}
    (q : ∀ (oo od ol on : Option V) H', Same H H' → QB (LX P w K mg base f cdv A outer s H0 E0) ((defBody (top 49)).drop 15) D0 (some (v) :: some (.ref vs) :: some (.int n) :: some (.int mm) :: some (v1) :: some (v2) :: some (vb) :: some (.int dd) :: none :: none :: some (bk) :: some (vr) :: ot :: oo :: od :: ol :: on :: none :: none :: none :: none :: none :: none :: none :: none :: none :: none :: none :: none :: none :: none :: none :: none :: none :: none :: []) H') :
    QB (LX P w K mg base f cdv A outer s H0 E0) ((defBody (top 49)).drop 14) D0 (some (v) :: some (.ref vs) :: some (.int n) :: some (.int mm) :: some (v1) :: some (v2) :: some (vb) :: some (.int dd) :: none :: none :: some (bk) :: some (vr) :: ot :: none :: none :: none :: none :: none :: none :: none :: none :: none :: none :: none :: none :: none :: none :: none :: none :: none :: none :: none :: none :: none :: none :: []) H := by
  have T1 := T0
  obtain ⟨hN, nd, hr, tk, n_tuple, n_range, n_sum, n_zip, n_len, n_list, n_isinstance, n_all, n_int, g_undone, o_undone, g_check_table, o_check_table, g_check_tables, o_check_tables, g_repeats, o_repeats, g_told_poly, o_told_poly, g_ratio, c_law_state, c_law_take, c_law_mo_skew, c_law_mo_times, c_law_mo_det, c_law_same, c_table_times, c_det, c_flipped, c_law_mo_flip, c_trace, c_plain_table, c_law_mo_plain, c_turned_table, c_table_power, c_is_table, c_is_whole_turn, c_law_says, c_is_wide, c_law_mo_is_line, c_law_result, x_undone, x_repeats, x_told_poly, x_led, x_law_mo_led, m_eq, mkR, T⟩ := T0
  have hz : (1000 : Nat) < sizeLine := by decide
  have hn := Dn.n13
  change QB _ ((Stmt.For _ _ lb5 [] _) :: (defBody (top 49)).drop 15) _ _ _
  refine wss_cons ?_
  one_item
  kct_strs
  refine ⟨n, rfl, hn.2, fun v3 H3 s3 r3 => ?_⟩
  kct_strs
  refine ⟨Nat.le_of_ble_eq_true rfl, fun p4 H4 hp4 s4 e4 => ?_⟩
  have S4 := s3.trans s4
  refine ⟨[tD a, tD b, tD (turned n)], .tupOf e4 (.cons (r1.to S4) (.cons (r2.to S4) (.cons (r3.to s4) .nil))), fun k σ H' => Same H4 H' ∧ ∃ oo od ol on : Option V, σ = (some (v) :: some (.ref vs) :: some (.int n) :: some (.int mm) :: some (v1) :: some (v2) :: some (vb) :: some (.int dd) :: none :: none :: some (bk) :: some (vr) :: ot :: oo :: od :: ol :: on :: none :: none :: none :: none :: none :: none :: none :: none :: none :: none :: none :: none :: none :: none :: none :: none :: none :: none :: []), ⟨Same.refl _, none, none, none, none, rfl⟩, fun k σ H' h => h.1, ?_, ?_⟩
  · rintro k d w σ1 H5 hk ⟨s5, oo, od, ol, on, rfl⟩ rw'
    have ht : ∃ t, d = tD t ∧ Rows n n t ∧ Sm 1000 t := by
      match k, hk with
      | 0, hk => cases hk; exact ⟨a, rfl, Dn.ra, Dn.sa.mono (by decide)⟩
      | 1, hk => cases hk; exact ⟨b, rfl, Dn.rb, Dn.sb⟩
      | 2, hk => cases hk; exact ⟨_, rfl, turned_rows n, turned_sm n⟩
    obtain ⟨t, rfl, ht, hB⟩ := ht
    show QG _ _ _ _ _ _
    kct_strs
    refine law_b5 T1 hn ht hB rw' fun od' ol' on' H6 s6 => ⟨s5.trans s6, _, od', ol', on', rfl⟩
  · rintro σ1 H5 ⟨s5, oo, od, ol, on, rfl⟩
    exact q oo od ol on H5 (S4.trans s5)
end
theorem nn {H H' : Hp} {a : Addr} (s : Same H H') (h : H' a = none) : H a = none := by
  cases w : H a with
  | none => rfl
  | some o => rw [s _ _ w] at h; cases h
/-- a list of new lists of ints, none of them the law's state -/
def ZL (K : PySem.W.Frag) (vs : Addr) (H : Hp) (zv : V) (z : List (List Int)) : Prop := ∃ p as Hz, zv = .ref p ∧ St vs Hz ∧ Hz p = none ∧ H p = some (.lst (as.map V.ref)) ∧ RowsAt K Hz H p as (z.map fun r => r.map D.int)
section
variable {K : PySem.W.Frag} {vs : Addr} {H H' : Hp} {zv : V} {z : List (List Int)}
theorem ZL.to (h : ZL K vs H zv z) (s : Same H H') : ZL K vs H' zv z := by
  obtain ⟨p, as, Hz, rfl, h1, h2, h3, h4⟩ := h
  exact ⟨p, as, Hz, rfl, h1, h2, s _ _ h3, h4.to s⟩
theorem ZL.ke (h : ZL K vs H zv z) (st : St vs H) (k : Ke vs H H') : ZL K vs H' zv z := by
  obtain ⟨p, as, Hz, rfl, h1, h2, h3, h4⟩ := h
  obtain ⟨x, y, e⟩ := h1
  have n1 : p ≠ vs := fun h => by rw [h, e] at h2; cases h2
  have n2 : vs ∉ as := fun h => by rw [h4.fr _ h] at e; cases e
  refine ⟨p, as, Hz, rfl, ⟨x, y, e⟩, h2, k.s _ _ n1 h3, h4.keepA st.lst n2 (fun ds hd => ?_) k.s⟩
  obtain ⟨r, _, rfl⟩ := List.mem_map.mp hd
  exact imInts r
theorem ZL.rp (h : ZL K vs H zv z) : Rp K H zv (.lst (z.map fun r => D.lst (r.map D.int))) := by
  obtain ⟨p, as, Hz, rfl, h1, h2, h3, h4⟩ := h
  have := h4.rp
  rw [List.map_map] at this
  exact .lstOf h3 this
end
theorem rep_flat (k : Nat) : (List.replicate k [D.int 0]).flatten = (List.replicate k (0 : Int)).map D.int := by
  induction k with
  | zero => rfl
  | succ k ih => rw [List.replicate_succ, List.flatten_cons, ih, List.replicate_succ]; rfl
theorem rep_flat2 {α : Type} (k : Nat) (x : α) : (List.replicate k [x]).flatten = List.replicate k x := by
  induction k with
  | zero => rfl
  | succ k ih => rw [List.replicate_succ, List.flatten_cons, ih, List.replicate_succ]; rfl
section
variable {P : Program} {w : World} {K : PySem.W.Frag} {mg : Str → Option Value} {base : Heap} {f fU fT fS fE fP Fa M R C : Addr} {cdv : Value} {A : Around} {outer : List Env} {s : Shared} {H0 : Hp} {E0 : XK}
theorem law_6 {v v1 v2 vb bk vr : V} {ot oo od ol on : Option V} {vs : Addr} {n : Nat} {a b : List (List Int)} {dd mm : Int} {H : Hp} (T0 : Fx (LX P w K mg base f cdv A outer s H0 E0) fU fT fS fE fP Fa M R C) (Dn : Dr n a b) (st : St vs H) (r1 : Rp K H v1 (tD a)) {D0 : Ends}
    (q : ∀ (rv zv pv : V) H', Same H H' → Rp K H' rv (rD (poly a)) → ZL K vs H' zv (zero n) → Rp K H' pv (tD (plain n)) → QB (LX P w K mg base f cdv A outer s H0 E0) ((defBody (top 49)).drop 18) D0 (some (v) :: some (.ref vs) :: some (.int n) :: some (.int mm) :: some (v1) :: some (v2) :: some (vb) :: some (.int dd) :: some (rv) :: none :: some (bk) :: some (vr) :: ot :: oo :: od :: ol :: on :: some (zv) :: some (pv) :: none :: none :: none :: none :: none :: none :: none :: none :: none :: none :: none :: none :: none :: none :: none :: none :: []) H') :
    QB (LX P w K mg base f cdv A outer s H0 E0) ((defBody (top 49)).drop 15) D0 (some (v) :: some (.ref vs) :: some (.int n) :: some (.int mm) :: some (v1) :: some (v2) :: some (vb) :: some (.int dd) :: none :: none :: some (bk) :: some (vr) :: ot :: oo :: od :: ol :: on :: none :: none :: none :: none :: none :: none :: none :: none :: none :: none :: none :: none :: none :: none :: none :: none :: none :: none :: []) H := by
  obtain ⟨hN, nd, hr, tk, n_tuple, n_range, n_sum, n_zip, n_len, n_list, n_isinstance, n_all, n_int, g_undone, o_undone, g_check_table, o_check_table, g_check_tables, o_check_tables, g_repeats, o_repeats, g_told_poly, o_told_poly, g_ratio, c_law_state, c_law_take, c_law_mo_skew, c_law_mo_times, c_law_mo_det, c_law_same, c_table_times, c_det, c_flipped, c_law_mo_flip, c_trace, c_plain_table, c_law_mo_plain, c_turned_table, c_table_power, c_is_table, c_is_whole_turn, c_law_says, c_is_wide, c_law_mo_is_line, c_law_result, x_undone, x_repeats, x_told_poly, x_led, x_law_mo_led, m_eq, mkR, T⟩ := T0
  have hz : (1000 : Nat) < sizeLine := by decide
  have hn := Dn.n13
  have la := Dn.ra
  have ia : itb (tD a) = true := tab_itb la hn (Dn.sa.mono (by decide))
  have ta := tab_tys la (by omega)
  change QB _ (_ :: _ :: _ :: (defBody (top 49)).drop 18) _ _ _
  kct_strs
  refine ⟨v1, tD a, rfl, r1, ta.1, ta.2, (fun e => by rw [ia] at e; cases e), fun t et _ rv H2 s2 r2 => ?_⟩
  obtain rfl := tD_inj et
  kct_strs
  (with_reducible refine' ql_rN ?hm ?hg ?h ?hN ?nd ?hl ?hf ?hs1 ?q); (case hm => first | with_reducible assumption | assumption); (case hg => exact rfl); (case hN => first | with_reducible assumption | assumption); (case h => infer_instance); (case nd => first | with_reducible assumption | assumption); (case hl => (intro _ _ _ _ _; first | exact Or.inl rfl | exact Or.inr rfl)); (case hf => (intro _ _ _ _ _; first | exact Or.inl rfl | exact Or.inr rfl)); (case hs1 => exact rfl); (case' q => skip)
  kct_strs
  refine ⟨by omega, fun _ => (List.replicate n (0 : Int)).map D.int, fun k _ => imInts _, fun k H3 hk s3 => ?_, fun p H3 as s3 hp hp2 ra => ?_⟩
  · intro s0 H00 C0 cl fp
    kct_strs
    refine ⟨Nat.le_of_ble_eq_true rfl, fun p4 H4 hp4 s4 e4 => ?_⟩
    kct_strs
    refine opw_repL e4 (.cons (.int 0) .nil) (by omega) (by decide) fun p5 H5 ys hp5 s5 e5 r5 => ?_
    rw [rep_flat] at r5
    exact ⟨s4.trans s5, p5, ys, rfl, nn s4 hp5, e5, r5⟩
  · have z3 : ZL K vs H3 (.ref p) (zero n) := by
      refine ⟨p, as, H2, rfl, st.same s2, hp, hp2, ?_⟩
      have : ((List.range n).map fun _ => (List.replicate n (0 : Int)).map D.int) = (zero n).map fun r => r.map D.int := by
        unfold zero
        simp only [List.map_replicate, List.map_const', List.length_range]
      rw [← this]
      exact ra
    kct_strs
    refine ⟨n, rfl, hn.2, fun v4 H4 s4 r4 => ?_⟩
    kct_strs
    exact q rv (.ref p) v4 H4 (s2.trans (s3.trans s4)) (r2.to (s3.trans s4)) (z3.to s4) r4
end
theorem zacc_succ {n : Nat} {t : List (List Int)} {cs : List Int} {k : Nat} {c : Int} (h : cs[k]? = some c) : zacc n t (cs.take (k + 1)) = (addm c (zacc n t (cs.take k)).1 (zacc n t (cs.take k)).2, mul (zacc n t (cs.take k)).2 t) := by
  unfold zacc
  rw [List.take_succ, h, List.foldl_append]
  rfl
theorem vacc_succ {x : Int} {cs : List Int} {k : Nat} {c : Int} (h : cs[k]? = some c) : vacc x (cs.take (k + 1)) = ((vacc x (cs.take k)).1 + c * (vacc x (cs.take k)).2, (vacc x (cs.take k)).2 * x) := by
  unfold vacc
  rw [List.take_succ, h, List.foldl_append]
  rfl
theorem zero_rows (n : Nat) : Rows n n (zero n) := by
  unfold zero
  refine ⟨List.length_replicate, fun r hr => ?_⟩
  rw [(List.mem_replicate.mp hr).2, List.length_replicate]
theorem addm_rows {n : Nat} {c : Int} {z p : List (List Int)} (hz : Rows n n z) (hp : Rows n n p) : Rows n n (addm c z p) := by
  unfold addm
  refine ⟨by rw [List.length_zipWith, hz.1, hp.1, Nat.min_self], fun r hr => ?_⟩
  obtain ⟨k, hk⟩ := List.getElem?_of_mem hr
  rw [List.getElem?_zipWith] at hk
  cases e1 : z[k]? with
  | none => rw [e1] at hk; cases hk
  | some x =>
    cases e2 : p[k]? with
    | none => rw [e1, e2] at hk; cases hk
    | some y =>
      rw [e1, e2] at hk
      cases hk
      rw [List.length_zipWith, hz.2 x (List.mem_of_getElem? e1), hp.2 y (List.mem_of_getElem? e2), Nat.min_self]
section
variable {P : Program} {w : World} {K : PySem.W.Frag} {mg : Str → Option Value} {base : Heap} {f fU fT fS fE fP Fa M R C : Addr} {cdv : Value} {A : Around} {outer : List Env} {s : Shared} {H0 : Hp} {E0 : XK}
theorem law_7 {v v1 v2 vb bk vr rv zv pv : V} {ot oo od ol on : Option V} {vs : Addr} {n : Nat} {a b : List (List Int)} {dd mm : Int} {H : Hp} (T0 : Fx (LX P w K mg base f cdv A outer s H0 E0) fU fT fS fE fP Fa M R C) (Dn : Dr n a b) (st : St vs H) (r1 : Rp K H v1 (tD a)) (rr : Rp K H rv (rD (poly a))) (rz : ZL K vs H zv (zero n)) (rp : Rp K H pv (tD (plain n))) {D0 : Ends}
    (q : ∀ (zv pv : V) (oc : Option V) H', Same H H' → ZL K vs H' zv (zero n) → QB (LX P w K mg base f cdv A outer s H0 E0) ((defBody (top 49)).drop 19) D0 (some (v) :: some (.ref vs) :: some (.int n) :: some (.int mm) :: some (v1) :: some (v2) :: some (vb) :: some (.int dd) :: some (rv) :: none :: some (bk) :: some (vr) :: ot :: oo :: od :: ol :: on :: some (zv) :: some (pv) :: oc :: none :: none :: none :: none :: none :: none :: none :: none :: none :: none :: none :: none :: none :: none :: none :: []) H') :
    QB (LX P w K mg base f cdv A outer s H0 E0) ((defBody (top 49)).drop 18) D0 (some (v) :: some (.ref vs) :: some (.int n) :: some (.int mm) :: some (v1) :: some (v2) :: some (vb) :: some (.int dd) :: some (rv) :: none :: some (bk) :: some (vr) :: ot :: oo :: od :: ol :: on :: some (zv) :: some (pv) :: none :: none :: none :: none :: none :: none :: none :: none :: none :: none :: none :: none :: none :: none :: none :: none :: []) H := by
  obtain ⟨hN, nd, hr, tk, n_tuple, n_range, n_sum, n_zip, n_len, n_list, n_isinstance, n_all, n_int, g_undone, o_undone, g_check_table, o_check_table, g_check_tables, o_check_tables, g_repeats, o_repeats, g_told_poly, o_told_poly, g_ratio, c_law_state, c_law_take, c_law_mo_skew, c_law_mo_times, c_law_mo_det, c_law_same, c_table_times, c_det, c_flipped, c_law_mo_flip, c_trace, c_plain_table, c_law_mo_plain, c_turned_table, c_table_power, c_is_table, c_is_whole_turn, c_law_says, c_is_wide, c_law_mo_is_line, c_law_result, x_undone, x_repeats, x_told_poly, x_led, x_law_mo_led, m_eq, mkR, T⟩ := T0
  have hz : (1000 : Nat) < sizeLine := by decide
  have hn := Dn.n13
  have la := Dn.ra
  obtain ⟨lp, _⟩ := poly_len hn la
  change QB _ (Stmt.For _ _ _ [] _ :: (defBody (top 49)).drop 19) _ _ _
  refine wss_cons ?_
  one_item
  kct_strs
  refine ⟨_, rr, fun k σ H' => Same H H' ∧ ∃ (zv pv : V) (oc : Option V), ZL K vs H' zv (zacc n a ((poly a).take k)).1 ∧ Rp K H' pv (tD (zacc n a ((poly a).take k)).2) ∧ Rows n n (zacc n a ((poly a).take k)).2 ∧ Sm (2 * 9 ^ k + 1) (zacc n a ((poly a).take k)).2 ∧ Rows n n (zacc n a ((poly a).take k)).1 ∧ σ = (some (v) :: some (.ref vs) :: some (.int n) :: some (.int mm) :: some (v1) :: some (v2) :: some (vb) :: some (.int dd) :: some (rv) :: none :: some (bk) :: some (vr) :: ot :: oo :: od :: ol :: on :: some (zv) :: some (pv) :: oc :: none :: none :: none :: none :: none :: none :: none :: none :: none :: none :: none :: none :: none :: none :: none :: []), ⟨Same.refl _, zv, pv, none, rz, rp, plain_rows n, plain_sm n, zero_rows n, rfl⟩, fun k σ H' h => h.1, ?_, ?_⟩
  · rintro k d w σ1 H2 hk ⟨s2, zv, pv, oc, rz, rp, lr, sm, lz, rfl⟩ rw'
    rw [List.getElem?_map] at hk
    cases hc : (poly a)[k]? with
    | none => rw [hc] at hk; cases hk
    | some c =>
      rw [hc] at hk
      cases hk
      obtain rfl := rw'.int_inv
      have hk4 : k < n + 1 := by
        have := (List.getElem?_eq_some_iff.mp hc).1
        omega
      have k9 : 9 ^ k ≤ 9 ^ 3 := Nat.pow_le_pow_right (by decide) (by omega)
      show QG _ _ _ _ _ _
      kct_strs
      refine ws_set1 (own := [("x", 9), ("y", 30)]) (by infer_instance) hN rfl rfl nd rfl rfl ⟨rfl, of_decide_eq_true (by kernel_rfl), of_decide_eq_true (by kernel_rfl), of_decide_eq_true (by kernel_rfl), of_decide_eq_true (by kernel_rfl)⟩ (fun _ => rfl) ?_
      (refine' ql_zipN ⟨?h1, ?h, ?h2, ?hij, ?hN, ?nd, ?hc, ?hl, ?hf, ?hl1, ?hf1⟩ ?hm ?hg ?hs ?hs2 ?hpl ?q); (case hN => first | with_reducible assumption | assumption); (case h1 => infer_instance); (case h => infer_instance); (case h2 => (intro _; infer_instance)); (case hij => decide); (case nd => first | with_reducible assumption | assumption); (case hc => exact rfl); (case hl => (intro _ _ _ _ _; first | exact Or.inl rfl | exact Or.inr rfl)); (case hf => (intro _ _ _ _ _; first | exact Or.inl rfl | exact Or.inr rfl)); (case hl1 => (intro _ _ _ _ _; first | exact Or.inl rfl | exact Or.inr rfl)); (case hf1 => (intro _ _ _ _ _; first | exact Or.inl rfl | exact Or.inr rfl)); (case hm => first | with_reducible assumption | assumption); (case hg => exact rfl); (case hs => exact rfl); (case hs2 => exact rfl); (case hpl => exact rfl); (case' q => skip)
      kct_strs
      refine ⟨List Int, List Int, false, true, (zacc n a ((poly a).take k)).1, (zacc n a ((poly a).take k)).2, fun r => .lst (r.map D.int), rD, fun x y => (List.zipWith (fun a b => a + c * b) x y).map D.int, rz.rp, rp, by rw [lz.1]; omega, fun _ _ _ _ => imInts _, fun x hx y hy u1 u2 H3 s3 r3 r4 => ?_, fun p H3 as s3 hp hp2 ra => ?_⟩
      · have ly : y.length = n := lr.2 y hy
        intro s0 H00 C0 cl fp
        kct_strs
        refine we_lc (own := [("a", 28), ("b", 29)]) rfl rfl nd ⟨rfl, of_decide_eq_true (by kernel_rfl), of_decide_eq_true (by kernel_rfl), of_decide_eq_true (by kernel_rfl), of_decide_eq_true (by kernel_rfl)⟩ (fun _ => rfl) ?_
        fin_item
        kct_strs
        refine ⟨Int, Int, false, true, x, y, D.int, D.int, fun a b => .int (a + c * b), r3, r4, by rw [lz.2 x hx]; omega, fun _ _ _ _ => rfl, fun a ha b hb w1 w2 H4 s4 r5 r6 => ?_, fun p H4 zs s4 hp hp2 rr4 => ?_⟩
        · obtain rfl := r5.int_inv
          obtain rfl := r6.int_inv
          have sb := sm y hy b hb
          intro s0 H00 C0 cl fp
          kct_strs
          refine opw_mul (.inr (by omega)) ?_
          kct_strs
          exact ⟨Same.refl _, .int _⟩
        · kct_strs
          refine ⟨s4, p, zs, rfl, hp, hp2, ?_⟩
          dsimp only
          rw [List.map_zipWith]
          exact rr4
      · have z3 : ZL K vs H3 (.ref p) (addm c (zacc n a ((poly a).take k)).1 (zacc n a ((poly a).take k)).2) := by
          refine ⟨p, as, H2, rfl, st.same s2, hp, hp2, ?_⟩
          unfold addm
          rw [List.map_zipWith]
          exact ra
        have r13 := r1.to (s2.trans s3)
        kct_strs
        refine ⟨pv, v1, _, a, n, n, rfl, rp.to s3, r13, lr, la, hn, hn.2, Dn.sa.mono (by decide), fun u4 H4 s4 r4 => ?_⟩
        kct_strs
        have e := zacc_succ (n := n) (t := a) hc
        refine ⟨s2.trans (s3.trans s4), _, u4, _, by rw [e]; exact z3.to s4, by rw [e]; exact r4, by rw [e]; exact mul_rows lr la hn.1, ?_, by rw [e]; exact addm_rows lz lr, rfl⟩
        rw [e, Nat.pow_succ, show 2 * (9 ^ k * 9) + 1 = 3 * (2 * 9 ^ k * 3) + 1 by omega]
        exact mul_small hn lr la sm (Dn.sa : Sm (3 + 1) a)
  · rintro σ1 H2 ⟨s2, zv, pv, oc, rz, rp, lr, sm, lz, rfl⟩
    rw [List.length_map, List.take_length, poly_zero hn la] at rz
    exact q zv pv oc H2 s2 rz
end
theorem gap_sm {n : Nat} {x : Int} {t : List (List Int)} (hx : x.natAbs ≤ 4) (ht : Rows n n t) (hB : Sm 4 t) : Sm (2 ^ 20) (gapT n x t) := by
  intro r hr z hz
  unfold gapT at hr
  obtain ⟨i, hi, rfl⟩ := List.mem_map.mp hr
  obtain ⟨k, hk, rfl⟩ := List.mem_map.mp hz
  rw [List.mem_range] at hi hk
  have := hB.at ht hi hk
  have e : x * one0 i k = x ∨ x * one0 i k = 0 := by
    unfold one0
    split
    · left; rw [Int.mul_one]
    · right; rw [Int.mul_zero]
  rcases e with e | e <;> rw [e] <;> omega
theorem rL_pure (t : List (List Int)) : (D.lst (t.map fun r => D.lst (r.map D.int))).pure = true ∧ (D.lst (t.map fun r => D.lst (r.map D.int))).dep ≤ 64 := by
  have h1 : ∀ r : List Int, pureAll (r.map D.int) = true ∧ depAll (r.map D.int) ≤ 0 := by
    intro r
    induction r with
    | nil => exact ⟨rfl, Nat.le_refl _⟩
    | cons a r ih => exact ⟨by simp [pureAll, D.pure, ih.1], by simp [depAll, D.dep]; omega⟩
  have h : ∀ t : List (List Int), pureAll (t.map fun r => D.lst (r.map D.int)) = true ∧ depAll (t.map fun r => D.lst (r.map D.int)) ≤ 1 := by
    intro t
    induction t with
    | nil => exact ⟨rfl, Nat.zero_le _⟩
    | cons a t ih =>
      refine ⟨?_, ?_⟩
      · rw [List.map_cons]
        unfold pureAll
        rw [ih.1]
        show (pureAll (a.map D.int) && true) = true
        rw [(h1 a).1]
        rfl
      · rw [List.map_cons]
        unfold depAll
        have e1 : (D.lst (a.map D.int)).dep ≤ 1 := by
          show depAll (a.map D.int) + 1 ≤ 1
          have := (h1 a).2
          omega
        have := ih.2
        omega
  refine ⟨(h t).1, ?_⟩
  show depAll _ + 1 ≤ 64
  have := (h t).2
  omega
section
variable {P : Program} {w : World} {K : PySem.W.Frag} {mg : Str → Option Value} {base : Heap} {f fU fT fS fE fP Fa M R C : Addr} {cdv : Value} {A : Around} {outer : List Env} {s : Shared} {H0 : Hp} {E0 : XK}
theorem law_8 {v v1 v2 vb bk vr rv zv pv : V} {ot oo od ol on oc : Option V} {vs : Addr} {n : Nat} {a b : List (List Int)} {dd mm : Int} {H : Hp} (T0 : Fx (LX P w K mg base f cdv A outer s H0 E0) fU fT fS fE fP Fa M R C) (Dn : Dr n a b) (st : St vs H) (r1 : Rp K H v1 (tD a)) (rr : Rp K H rv (rD (poly a))) (rz : ZL K vs H zv (zero n)) {D0 : Ends}
    (q : ∀ (ox og oa ot' oc : Option V) H', Ke vs H H' → QB (LX P w K mg base f cdv A outer s H0 E0) ((defBody (top 49)).drop 24) D0 (some (v) :: some (.ref vs) :: some (.int n) :: some (.int mm) :: some (v1) :: some (v2) :: some (vb) :: some (.int dd) :: some (rv) :: ox :: some (bk) :: some (vr) :: ot :: oo :: od :: ol :: on :: some (zv) :: some (pv) :: oc :: og :: oa :: ot' :: none :: none :: none :: none :: none :: none :: none :: none :: none :: none :: none :: none :: []) H') :
    QB (LX P w K mg base f cdv A outer s H0 E0) ((defBody (top 49)).drop 19) D0 (some (v) :: some (.ref vs) :: some (.int n) :: some (.int mm) :: some (v1) :: some (v2) :: some (vb) :: some (.int dd) :: some (rv) :: none :: some (bk) :: some (vr) :: ot :: oo :: od :: ol :: on :: some (zv) :: some (pv) :: oc :: none :: none :: none :: none :: none :: none :: none :: none :: none :: none :: none :: none :: none :: none :: none :: []) H := by
  obtain ⟨hN, nd, hr, tk, n_tuple, n_range, n_sum, n_zip, n_len, n_list, n_isinstance, n_all, n_int, g_undone, o_undone, g_check_table, o_check_table, g_check_tables, o_check_tables, g_repeats, o_repeats, g_told_poly, o_told_poly, g_ratio, c_law_state, c_law_take, c_law_mo_skew, c_law_mo_times, c_law_mo_det, c_law_same, c_table_times, c_det, c_flipped, c_law_mo_flip, c_trace, c_plain_table, c_law_mo_plain, c_turned_table, c_table_power, c_is_table, c_is_whole_turn, c_law_says, c_is_wide, c_law_mo_is_line, c_law_result, x_undone, x_repeats, x_told_poly, x_led, x_law_mo_led, m_eq, mkR, T⟩ := T0
  have hz : (1000 : Nat) < sizeLine := by decide
  have hn := Dn.n13
  have la := Dn.ra
  obtain ⟨lp, gp⟩ := poly_len hn la
  change QB _ (_ :: _ :: _ :: Stmt.For _ _ _ [] _ :: _ :: (defBody (top 49)).drop 24) _ _ _
  kct_strs
  refine ⟨_, _, rfl, by decide, st, fun x H2 h3 h4 k2 => ?_⟩
  have z2 := rz.ke st k2
  have r12 := k2.rp st r1 (imAll_map ints_im)
  have rr2 := k2.rp st rr (imInts _)
  kct_strs
  generalize hx : x - 4 = X
  have hX : X.natAbs ≤ 4 := by omega
  clear hx h3 h4
  (with_reducible refine' ql_rN ?hm ?hg ?h ?hN ?nd ?hl ?hf ?hs1 ?q); (case hm => first | with_reducible assumption | assumption); (case hg => exact rfl); (case hN => first | with_reducible assumption | assumption); (case h => infer_instance); (case nd => first | with_reducible assumption | assumption); (case hl => (intro _ _ _ _ _; first | exact Or.inl rfl | exact Or.inr rfl)); (case hf => (intro _ _ _ _ _; first | exact Or.inl rfl | exact Or.inr rfl)); (case hs1 => exact rfl); (case' q => skip)
  kct_strs
  refine ⟨by omega, fun i => ((List.range n).map fun k => X * one0 i k - at2 a i k).map D.int, fun k _ => imInts _, fun i H3 hi s3 => ?_, fun p H3 as s3 hp hp2 ra => ?_⟩
  · intro s0 H00 C0 cl fp
    kct_strs
    fin_range
    kct_strs
    refine ⟨by omega, fun k => .int (X * one0 i k - at2 a i k), fun k _ => rfl, fun k H4 hk s4 => ?_, fun p H4 ys s4 hp hp2 r => ?_⟩
    · intro s0 H00 C0 cl fp
      kct_strs
      rw [one0_eq]
      refine opw_mul (.inl (by omega)) ?_
      kct_strs
      refine ixw_mt (d0 := []) (r12.to (s3.trans s4)) (by omega) (by rw [Int.toNat_natCast, la.1]; exact hi) fun w2 r2 => ?_
      kct_strs
      rw [Int.toNat_natCast] at r2
      refine ixw_row r2 (by omega) (by rw [Int.toNat_natCast, la.2 _ (getD_mem (by rw [la.1]; exact hi))]; exact hk) ?_
      kct_strs
      rw [Int.toNat_natCast]
      exact ⟨Same.refl _, .int _⟩
    · refine ⟨s4, p, ys, rfl, hp, hp2, ?_⟩
      dsimp only
      rw [List.map_map]
      exact r
  · have g3 : ZL K vs H3 (.ref p) (gapT n X a) := by
      refine ⟨p, as, H2, rfl, k2.t, hp, hp2, ?_⟩
      unfold gapT
      rw [List.map_map]
      exact ra
    kct_strs
    refine ⟨Nat.le_of_ble_eq_true rfl, fun p4 H4 hp4 s4 e4 => ?_⟩
    kct_strs
    have S4 := s3.trans s4
    one_item
    kct_strs
    refine ⟨_, rr2.to S4, fun k σ H' => Same H4 H' ∧ (vacc X ((poly a).take k)).2.natAbs ≤ 4 ^ k ∧ ∃ oc : Option V, σ = (some (v) :: some (.ref vs) :: some (.int n) :: some (.int mm) :: some (v1) :: some (v2) :: some (vb) :: some (.int dd) :: some (rv) :: some (.int X) :: some (bk) :: some (vr) :: ot :: oo :: od :: ol :: on :: some (zv) :: some (pv) :: oc :: some (.ref p) :: some (.int (vacc X ((poly a).take k)).1) :: some (.int (vacc X ((poly a).take k)).2) :: none :: none :: none :: none :: none :: none :: none :: none :: none :: none :: none :: none :: []), ⟨Same.refl _, (by show (1 : Int).natAbs ≤ 1; decide), oc, rfl⟩, fun k σ H' h => h.1, ?_, ?_⟩
    · rintro k d w σ1 H5 hk ⟨s5, bs, oc, rfl⟩ rw'
      rw [List.getElem?_map] at hk
      cases hc : (poly a)[k]? with
      | none => rw [hc] at hk; cases hk
      | some c =>
        rw [hc] at hk
        cases hk
        obtain rfl := rw'.int_inv
        have hk4 : k < n + 1 := by
          have := (List.getElem?_eq_some_iff.mp hc).1
          omega
        have k9 : 4 ^ k ≤ 4 ^ 3 := Nat.pow_le_pow_right (by decide) (by omega)
        show QG _ _ _ _ _ _
        kct_strs
        refine opw_mul (.inr (by omega)) ?_
        kct_strs
        refine opw_mul (.inr (by omega)) ?_
        kct_strs
        refine ⟨Nat.le_of_ble_eq_true rfl, fun p6 H6 hp6 s6 e6 => ?_⟩
        kct_strs
        have e := vacc_succ (x := X) hc
        refine ⟨s5.trans s6, ?_, _, by rw [e]⟩
        rw [e, Nat.pow_succ]
        show ((vacc X ((poly a).take k)).2 * X).natAbs ≤ _
        rw [Int.natAbs_mul]
        exact Nat.mul_le_mul bs hX
    · rintro σ1 H5 ⟨s5, bs, oc, rfl⟩
      rw [List.length_map, List.take_length]
      have S5 := S4.trans s5
      change QB _ (_ :: (defBody (top 49)).drop 24) _ _ _
      kct_strs
      refine ⟨Nat.le_of_ble_eq_true rfl, fun p6 H6 hp6 s6 e6 => ?_⟩
      kct_strs
      refine opw_repL e6 (.cons (.int 0) .nil) (by omega) (by decide) fun p7 H7 ys hp7 s7 e7 r7 => ?_
      rw [rep_flat] at r7
      kct_strs
      refine ⟨Nat.le_of_ble_eq_true rfl, fun p8 H8 hp8 s8 e8 => ?_⟩
      kct_strs
      refine opw_repL (ds := [.lst ((List.replicate n (0 : Int)).map D.int)]) e8 (.cons (.lstOf (s8 _ _ e7) (r7.to s8)) .nil) (by omega) (by simp) fun p9 H9 ys hp9 s9 e9 r9 => ?_
      have S9 := S5.trans (s6.trans (s7.trans (s8.trans s9)))
      have z9 := (z2.to S9).rp
      have g9 : Rp K H9 (.ref p9) (.lst ((zero n).map fun r => D.lst (r.map D.int))) := by
        refine .lstOf e9 ?_
        rw [rep_flat2] at r9
        unfold zero
        rw [List.map_replicate]
        exact r9
      refine opw_ned hr z9 g9 (rL_pure _).1 (rL_pure _).1 (rL_pure _).2 (rL_pure _).2 fun bb hb => ?_
      rw [hb.mpr rfl]
      kct_strs
      rw [if_neg (by decide)]
      kct_strs
      refine callw_len_t (rr2.to S9) ?_
      rw [List.length_map, lp]
      kct_strs
      rw [if_neg (by simp)]
      kct_strs
      have g10 := (g3.to (s4.trans (s5.trans (s6.trans (s7.trans (s8.trans s9)))))).rp
      refine ⟨n, hn.2, .ref p, false, false, gapT n X a, rfl, g10, gap_rows n X a, gap_sm hX la Dn.sa, fun H10 s10 => ?_⟩
      rw [← poly_gap hn la]
      kct_strs
      rw [if_neg (by simp)]
      kct_strs
      refine ixw_tup (rr2.to (S9.trans s10)) (i := -1) (d := .int 1) ?_ fun w11 r11 => ?_
      · rw [atI_map]
        unfold atI ixN
        rw [if_neg (by decide), lp, if_pos (by omega), show (-1 + ((n + 1 : Nat) : Int)).toNat = n by omega]
        show ((poly a)[n]?).map D.int = _
        rw [gp]
        rfl
      · obtain rfl := r11.int_inv
        kct_strs
        rw [if_neg (by decide)]
        kct_strs
        exact q _ _ _ _ _ H10 (k2.trans (Ke.of_same k2.t (S9.trans s10)))
end
theorem foldl_sum : ∀ (l : List Int) (z : Int), l.foldl (fun x y => x + y) z = z + l.sum
  | [], z => by simp
  | a :: l, z => by rw [List.foldl_cons, foldl_sum l, List.sum_cons, Int.add_assoc]
theorem dotL_sum (r c : List Int) : dotL r c = (List.zipWith (fun a b => a * b) r c).sum := by
  unfold dotL
  rw [foldl_sum, Int.zero_add]
theorem dot0_sum {r c : List Int} (h1 : 1 ≤ r.length) (h2 : 1 ≤ c.length) : dot0 r c = (List.zipWith (fun a b => a * b) r c).sum := by
  match r, c, h1, h2 with
  | x :: r, y :: c, _, _ =>
    unfold dot0
    rw [foldl_sum]
    rfl
theorem ledI_eq {n : Nat} {a : List (List Int)} {c : List Int} (hn : 1 ≤ n) (ha : Rows n n a) (hc : c.length = n) : ledI a c = a.map (fun r => (List.zipWith (fun a b => a * b) r c).sum) ∧ moLed a c = ledI a c := by
  have h : ledI a c = a.map (fun r => (List.zipWith (fun a b => a * b) r c).sum) := by
    unfold ledI
    refine List.map_congr_left fun r hr => dot0_sum (by rw [ha.2 r hr]; exact hn) (by omega)
  refine ⟨h, ?_⟩
  rw [h]
  unfold moLed
  exact List.map_congr_left fun r hr => dotL_sum r c
/-- ratios alike -/
def RtEq (C : Addr) (a b : Addr) (H : Hp) : Prop := ∃ z : Int, Rt C H a (rp z 3) (rq z 3) ∧ Rt C H b (rp z 3) (rq z 3)
theorem rt_ext {C : Addr} {H H' : Hp} {a : Addr} {p q : Int} (h : Rt C H a p q) (e : Ext H H') : Rt C H' a p q := by
  obtain ⟨dx, h⟩ := h
  exact ⟨dx, e _ _ h⟩
theorem mon_rat {C : Addr} : Mon (DIns C (RtEq C)) := mon_ins fun a b H H' e ⟨z, h1, h2⟩ => ⟨z, rt_ext h1 e, rt_ext h2 e⟩
theorem eqG_rat {X : Cx} {C : Addr} (m : MetX X.prog X.w X.K X.mg X.base CX0 1 C "__eq__" (spEqR X.K C)) : EqG X 1 (DIns C (RtEq C)) := by
  obtain ⟨f, fd, ps, F, hm, bd⟩ := m.ex
  refine eqG_ins (E := fun _ _ _ => False) (F.imp fun vs H Q E ⟨a, b, e, ⟨z, h1, h2⟩, q⟩ => ⟨a, .ref b, _, _, e, h1, .inl ⟨b, _, _, rfl, h2, fun c hc => ?_⟩⟩) hm.at_ hm.fn bd pass0
  rw [hc.mpr ⟨rfl, rfl⟩]
  exact q H Ext.rfl'
theorem dtup_rats {K : PySem.W.Frag} {C : Addr} {H : Hp} {x y : V} {l : List Int} (h1 : Rp K H x (.tup (l.map (rt3 C)))) (h2 : Rp K H y (.tup (l.map (rt3 C)))) : DTup K (DIns C (RtEq C)) x y H := by
  obtain ⟨a, xs, rfl, s1, r1⟩ := h1.tup_inv
  obtain ⟨b, ys, rfl, s2, r2⟩ := h2.tup_inv
  refine ⟨a, b, xs, ys, rfl, rfl, s1, s2, by rw [r1.len, r2.len], fun i u w e1 e2 => ?_⟩
  obtain ⟨z, g1, q1⟩ := r1.getA e1
  obtain ⟨z', g2, q2⟩ := r2.getA e2
  rw [g1] at g2
  cases g2
  obtain ⟨c, rfl, h3⟩ := Rp.rat q1
  obtain ⟨d, rfl, h4⟩ := Rp.rat q2
  obtain ⟨dx, k1⟩ := h3
  obtain ⟨dy, k2⟩ := h4
  exact ⟨c, d, dx, dy, _, _, rfl, rfl, k1, k2, z, ⟨dx, k1⟩, ⟨dy, k2⟩⟩
section
variable {P : Program} {w : World} {K : PySem.W.Frag} {mg : Str → Option Value} {base : Heap} {f fU fT fS fE fP Fa M R C : Addr} {cdv : Value} {A : Around} {outer : List Env} {s : Shared} {H0 : Hp} {E0 : XK}
theorem law_9 {v v1 v2 vb bk vr rv zv pv : V} {ot oo od ol on ox og oa os oc : Option V} {vs : Addr} {n : Nat} {a b : List (List Int)} {dd mm : Int} {H : Hp} (T0 : Fx (LX P w K mg base f cdv A outer s H0 E0) fU fT fS fE fP Fa M R C) (Dn : Dr n a b) (st : St vs H) (r1 : Rp K H v1 (tD a)) {D0 : Ends}
    (q : ∀ (o1 o2 : Option V) H', Ke vs H H' → QB (LX P w K mg base f cdv A outer s H0 E0) ((defBody (top 49)).drop 27) D0 (some (v) :: some (.ref vs) :: some (.int n) :: some (.int mm) :: some (v1) :: some (v2) :: some (vb) :: some (.int dd) :: some (rv) :: ox :: some (bk) :: some (vr) :: ot :: oo :: od :: ol :: on :: some (zv) :: some (pv) :: oc :: og :: oa :: os :: o1 :: o2 :: none :: none :: none :: none :: none :: none :: none :: none :: none :: none :: []) H') :
    QB (LX P w K mg base f cdv A outer s H0 E0) ((defBody (top 49)).drop 24) D0 (some (v) :: some (.ref vs) :: some (.int n) :: some (.int mm) :: some (v1) :: some (v2) :: some (vb) :: some (.int dd) :: some (rv) :: ox :: some (bk) :: some (vr) :: ot :: oo :: od :: ol :: on :: some (zv) :: some (pv) :: oc :: og :: oa :: os :: none :: none :: none :: none :: none :: none :: none :: none :: none :: none :: none :: none :: []) H := by
  obtain ⟨hN, nd, hr, tk, n_tuple, n_range, n_sum, n_zip, n_len, n_list, n_isinstance, n_all, n_int, g_undone, o_undone, g_check_table, o_check_table, g_check_tables, o_check_tables, g_repeats, o_repeats, g_told_poly, o_told_poly, g_ratio, c_law_state, c_law_take, c_law_mo_skew, c_law_mo_times, c_law_mo_det, c_law_same, c_table_times, c_det, c_flipped, c_law_mo_flip, c_trace, c_plain_table, c_law_mo_plain, c_turned_table, c_table_power, c_is_table, c_is_whole_turn, c_law_says, c_is_wide, c_law_mo_is_line, c_law_result, x_undone, x_repeats, x_told_poly, x_led, x_law_mo_led, m_eq, mkR, T⟩ := T0
  have hz : (1000 : Nat) < sizeLine := by decide
  have hn := Dn.n13
  have la := Dn.ra
  change QB _ (_ :: _ :: _ :: (defBody (top 49)).drop 27) _ _ _
  kct_strs
  pv_eval
  kct_strs
  refine ⟨by have := sizeLine_eq; omega, vs, fun d => ∃ x : Int, d = .int x ∧ x.natAbs < 5, st, fun d ⟨r, e, _⟩ => e ▸ rfl, fun k H2 hk k2 => ?_, fun p2 H2 ys ds k2 hp2 e2 rd hlen hall => ?_⟩
  · intro s0 H00 C0 cl fp
    kct_strs
    refine ⟨_, _, rfl, by decide, k2.t, fun r5 H5 h5 h6 k5 => ?_⟩
    kct_strs
    exact ⟨k5, _, ⟨_, rfl, by omega⟩, .int _⟩
  · obtain ⟨c, rfl, hc⟩ := draw_row hall
    rw [List.length_map] at hlen
    have lc : c.length = n := by omega
    kct_strs
    refine callw_tuple_l (.lstOf e2 rd) fun cv H3 s3 r3 => ?_
    have r13 := (k2.rp st r1 (imAll_map ints_im)).to s3
    kct_strs
    by_item
    kct_strs
    refine ⟨Int, c, D.int, rt3 C, r3, by omega, fun _ _ => rt3_im C _, fun x hx w4 H4 s4 r4 => ?_, fun p5 H5 ys s5 hp5 hp5' r5 => ?_⟩
    · obtain rfl := r4.int_inv
      intro s0 H00 C0 cl fp
      refine we_make mkR takes0 hr (by decide) rfl ?_ (by decide) rfl rfl
      kct_strs
      intro cx dx H5 hx0 s5 hxx hdx hne
      refine init_use2 (N := x) (D := 3) hx0 s5 hxx (by decide) (by decide) (fun H6 s6 r6 => ?_)
      exact ⟨s6, Rt.dat r6⟩
    · kct_strs
      refine callw_tuple_l (.lstOf hp5' r5) fun sv H6 s6 r6 => ?_
      have S6 := s5.trans s6
      have r16 := r13.to S6
      have rc6 := r3.to S6
      kct_strs
      refine .inl ⟨v1, cv, a, c, n, rfl, r16, rc6, la, lc, hn, fun z hz => by have := hc z hz; omega, fun u7 H7 s7 r7 => ?_⟩
      have R7 := r16.to s7
      have C7 := rc6.to s7
      kct_strs
      by_item
      kct_strs
      refine ⟨List Int, a, rD, fun r => .int ((List.zipWith (fun a b => a * b) r c).sum), R7, by rw [la.1]; omega, fun _ _ => rfl, fun r hr' w8 H8 s8 r8 => ?_, fun p8 H8 ys s8 hp8 hp8' r8 => ?_⟩
      · have lr : r.length = n := la.2 r hr'
        intro s0 H00 C0 cl fp
        kct_strs
        refine we_lc (own := [("a", 28), ("b", 29)]) rfl rfl nd ⟨rfl, of_decide_eq_true (by kernel_rfl), of_decide_eq_true (by kernel_rfl), of_decide_eq_true (by kernel_rfl), of_decide_eq_true (by kernel_rfl)⟩ (fun _ => rfl) ?_
        fin_item
        kct_strs
        refine ⟨Int, Int, true, true, r, c, D.int, D.int, fun a b => .int (a * b), r8, C7.to s8, by omega, fun _ _ _ _ => rfl, fun x hx y hy w1 w2 H9 s9 r9 r10 => ?_, fun p H9 zs s9 hp hp2 r9 => ?_⟩
        · obtain rfl := r9.int_inv
          obtain rfl := r10.int_inv
          have := hc y hy
          intro s0 H00 C0 cl fp
          kct_strs
          refine opw_mul (.inr (by omega)) ?_
          exact ⟨Same.refl _, .int _⟩
        · kct_strs
          rw [show List.zipWith (fun a b => D.int (a * b)) r c = (List.zipWith (fun a b => a * b) r c).map D.int by rw [List.map_zipWith]] at r9
          refine callw_sum rfl hp2 r9 ?_
          exact ⟨s9, .int _⟩
      · kct_strs
        refine callw_tuple_l (.lstOf hp8' r8) fun v9 H9 s9 r9 => ?_
        obtain ⟨el, em⟩ := ledI_eq hn.1 la lc
        rw [← rD_map, ← el] at r9
        have S9 := s8.trans s9
        kct_strs
        refine ⟨u7, v9, _, rfl, r7.to S9, r9, (dsm_row (by unfold ledI; rw [List.length_map, la.1]; omega)).2, fun H10 s10 => ?_⟩
        have S10 := s7.trans (S9.trans s10)
        have r6' := r6.to S10
        have r10 := r16.to S10
        have hB : ∀ z ∈ c, z.natAbs ≤ 4 := fun z hz => by have := hc z hz; omega
        kct_strs
        rw [if_neg (by decide)]
        kct_strs
        refine .inr ⟨v1, sv, a, c, n, rfl, r10, r6', la, lc, hn, Dn.sa, hB, fun u11 H11 s11 r11 => ?_⟩
        kct_strs
        refine ⟨v1, sv, a, c, n, rfl, r10.to s11, r6'.to s11, la, lc, hn, Dn.sa, hB, fun u12 H12 s12 r12 => ?_⟩
        rw [em] at r12
        refine opw_neTup (n := 1) mon_rat (eqG_rat m_eq) (hr.mono (by decide)) (dtup_rats (r11.to s12) r12) fun H13 s13 => ?_
        kct_strs
        rw [if_neg (by decide)]
        kct_strs
        exact q _ _ H13 (k2.trans (Ke.of_same k2.t (s3.trans (S6.trans (S10.trans (s11.trans (s12.trans s13)))))))
end
section
variable {X : Cx} {σ : Sl} {H : Hp} {Q : VK} {pos p2 : Pos} {e hi : Expr}
/-- x[:-1] of a tuple that is not empty -/
theorem we_slM1T (q : QE X e σ H fun x H1 => QE X hi σ H1 fun u H2 => ∃ (ds : List D), u = .int (-1) ∧ 1 ≤ ds.length ∧ Rp X.K H2 x (.tup ds) ∧ ∀ v H3, Same H2 H3 → Rp X.K H3 v (.tup (ds.take (ds.length - 1))) → Q v H3) : QE X (.Subscript e (.Slice none (some hi) none p2) pos) σ H Q := by
  refine we_of (pe_slice sl_tup pe_sem po_none (po_some pe_sem)) ?_
  intro pins s I
  refine thn (q pins s I) fun u s1 ⟨x, H1, I1, r1, q1⟩ => ⟨x, H1, I1, r1, ?_⟩
  show QE X hi σ H1 _
  refine QE.imp q1 fun u H2 ⟨ds, e1, hk, r, z⟩ => ?_
  obtain ⟨a, xs, rfl, h1, h2⟩ := r.tup_inv
  have hk' : 1 ≤ xs.length := by rw [h2.len]; exact hk
  have e2 : HT.sIx xs.length xs.length (some (-1)) = xs.length - 1 := by
    show (if (-1 : Int) < 0 then ((-1 : Int) + (xs.length : Int)).toNat else min (-1 : Int).toNat xs.length) = _
    rw [if_pos (by decide)]
    omega
  refine ⟨-1, e1, a, xs, rfl, h1, fun hw => ?_, fun p hp => z (.ref p) _ (same_new hp) ?_⟩
  · have := hw.2
    rw [e2] at this
    omega
  · have ec : cutV xs none (some (-1)) = xs.take (xs.length - 1) := by
      unfold cutV
      rw [e2, HT.sIx_none]
      simp
    rw [ec, show xs.length = ds.length from h2.len]
    exact .tupOf upd_same (RpAll.takeK (h2.to (same_new hp)))
theorem opw_repT {x : V} {ds : List D} {k : Nat} (h : Rp X.K H x (.tup ds)) (h1 : ds ≠ []) (h2 : 2 ≤ k ∧ k ≤ 1000) (h3 : ds.length ≤ 1000) (q : ∀ v H', Same H H' → Rp X.K H' v (.tup (List.replicate k ds).flatten) → Q v H') : OpW X (binaryOp .Mult) x (.int k) H Q := by
  obtain ⟨a, xs, rfl, g1, g2⟩ := h.tup_inv
  refine opw_of op_repT ⟨a, k, xs, rfl, rfl, g1, ?_, by omega, by omega, by rw [g2.len]; exact h3, fun p hp => q (.ref p) _ (same_new hp) (.tupOf upd_same ?_)⟩
  · rintro rfl
    have := g2.len
    cases ds with
    | nil => exact h1 rfl
    | cons => simp at this
  · rw [Int.toNat_natCast]
    have r' := g2.to (same_new (o := .tup (List.replicate k xs).flatten) hp)
    revert r'
    generalize (upd H p (HO.tup (List.replicate k xs).flatten)) = H'
    intro r'
    clear q h2
    induction k with
    | zero => exact .nil
    | succ k ih =>
      rw [List.replicate_succ, List.replicate_succ, List.flatten_cons, List.flatten_cons]
      exact r'.app ih
end
theorem lin_eq (r : D) (n : Nat) : lin r (n : Int) = ((wr r && decide (rlen r = n)) && big r) := by
  cases r with
  | tup ds =>
    show (decide ((ds.length : Int) = (n : Int)) && ds.all lit) = ((ds.all D.whole && decide (ds.length = n)) && ds.all lit)
    have h : ds.all lit = true → ds.all D.whole = true := fun h => by
      rw [List.all_eq_true] at h ⊢
      intro d hd
      have := h d hd
      cases d <;> first | rfl | cases this
    rw [show decide ((ds.length : Int) = (n : Int)) = decide (ds.length = n) from by rw [decide_eq_decide]; exact Int.natCast_inj]
    cases e : ds.all lit with
    | false => simp
    | true => rw [h e]; simp
  | _ => rfl
theorem all_two {α : Type} (f g : α → Bool) : ∀ l : List α, l.all (fun r => f r && g r) = (l.all f && l.all g)
  | [] => rfl
  | a :: l => by
    rw [List.all_cons, List.all_cons, List.all_cons, all_two f g l]
    cases f a <;> cases g a <;> simp
theorem itb_lin (ds : List D) : itb (.tup ds) = (decide (1 ≤ ds.length ∧ ds.length ≤ 3) && ds.all (fun r => lin r (ds.length : Int))) := by
  show (decide (1 ≤ ds.length ∧ ds.length ≤ 3) && (ds.all (fun r => wr r && decide (rlen r = ds.length)) && ds.all big)) = _
  rw [show (fun r => lin r (ds.length : Int)) = fun r => (wr r && decide (rlen r = ds.length)) && big r from funext fun r => lin_eq r _, all_two (fun r => wr r && decide (rlen r = ds.length)) big]
def lb10 : List Stmt := match (defBody (top 49)).getD 27 (.Pass ⟨0, 0, 0, 0⟩) with
  | .For _ _ b _ _ => b
  | _ => []
section
variable {P : Program} {w : World} {K : PySem.W.Frag} {mg : Str → Option Value} {base : Heap} {f fU fT fS fE fP Fa M R C : Addr} {cdv : Value} {A : Around} {outer : List Env} {s : Shared} {H0 : Hp} {E0 : XK}
theorem law_b10 {v v1 v2 vb bk vr rv zv pv u : V} {ot oo od ol on ox og os oc o1 o2 o3 : Option V} {vs : Addr} {n : Nat} {dd mm : Int} {d : D} {H : Hp} (T0 : Fx (LX P w K mg base f cdv A outer s H0 E0) fU fT fS fE fP Fa M R C) (r : Rp K H u d) (hd : d.ty.isSome = true) (ht : tys2 d) {D0 : Ends}
    (q : ∀ (o3 : Option V) H', Same H H' → D0.nx (some (v) :: some (.ref vs) :: some (.int n) :: some (.int mm) :: some (v1) :: some (v2) :: some (vb) :: some (.int dd) :: some (rv) :: ox :: some (bk) :: some (vr) :: ot :: oo :: od :: ol :: on :: some (zv) :: some (pv) :: oc :: og :: some (u) :: os :: o1 :: o2 :: o3 :: none :: none :: none :: none :: none :: none :: none :: none :: none :: []) H') :
    QB (LX P w K mg base f cdv A outer s H0 E0) lb10 D0 (some (v) :: some (.ref vs) :: some (.int n) :: some (.int mm) :: some (v1) :: some (v2) :: some (vb) :: some (.int dd) :: some (rv) :: ox :: some (bk) :: some (vr) :: ot :: oo :: od :: ol :: on :: some (zv) :: some (pv) :: oc :: og :: some (u) :: os :: o1 :: o2 :: o3 :: none :: none :: none :: none :: none :: none :: none :: none :: none :: []) H := by
  obtain ⟨hN, nd, hr, tk, n_tuple, n_range, n_sum, n_zip, n_len, n_list, n_isinstance, n_all, n_int, g_undone, o_undone, g_check_table, o_check_table, g_check_tables, o_check_tables, g_repeats, o_repeats, g_told_poly, o_told_poly, g_ratio, c_law_state, c_law_take, c_law_mo_skew, c_law_mo_times, c_law_mo_det, c_law_same, c_table_times, c_det, c_flipped, c_law_mo_flip, c_trace, c_plain_table, c_law_mo_plain, c_turned_table, c_table_power, c_is_table, c_is_whole_turn, c_law_says, c_is_wide, c_law_mo_is_line, c_law_result, x_undone, x_repeats, x_told_poly, x_led, x_law_mo_led, m_eq, mkR, T⟩ := T0
  have hz : (1000 : Nat) < sizeLine := by decide
  have rest : ∀ H1, Same H H1 → QB (LX P w K mg base f cdv A outer s H0 E0) (lb10.drop 1) D0 (some (v) :: some (.ref vs) :: some (.int n) :: some (.int mm) :: some (v1) :: some (v2) :: some (vb) :: some (.int dd) :: some (rv) :: ox :: some (bk) :: some (vr) :: ot :: oo :: od :: ol :: on :: some (zv) :: some (pv) :: oc :: og :: some (u) :: os :: o1 :: o2 :: some (.bl (itb d)) :: none :: none :: none :: none :: none :: none :: none :: none :: none :: []) H1 := by
    intro H1 s1
    have r1 := r.to s1
    change QB _ (_ :: []) _ _ _
    kct_strs
    refine ⟨u, d, rfl, r1, hd, ht, fun H2 s2 => ?_⟩
    kct_strs
    refine ⟨_, _, rfl, ?_⟩
    rw [decide_eq_true rfl]
    kct_strs
    rw [if_neg (by decide)]
    kct_strs
    have S2 := s1.trans s2
    refine ⟨u, d, rfl, r.to S2, hd, ht, fun e H3 s3 => ?_, fun t et e H3 s3 => ?_⟩
    · kct_strs
      refine ifb (fun e' => by rw [e] at e'; cases e') (fun _ => ?_)
      kct_strs
      refine ⟨_, _, rfl, ?_⟩
      kct_strs
      rw [if_neg (by decide)]
      kct_strs
      refine ⟨Nat.le_of_ble_eq_true rfl, fun p5 H5 hp5 s5 e5 => ?_⟩
      have S5 := S2.trans (s3.trans s5)
      kct_strs
      refine res_mal o_check_table e5 (fun Q' E' he => ⟨u, d, rfl, r.to S5, hd, ht, (fun e' => by rw [e] at e'; cases e'), fun _ => he⟩) fun p6 H6 s6 e6 => ?_
      kct_strs
      refine ixw_st (.inl (.inl e6)) (v := .str "malformed") rfl ?_
      kct_strs
      rw [e, if_neg (by simp)]
      show QB _ [] _ _ _
      refine wss_nil ?_
      rw [← e]
      exact q _ H6 (S5.trans s6)
    · obtain ⟨m, t', et', st', hm, sm⟩ := itb_tab e
      rw [et] at et'
      obtain rfl := tD_inj et'
      kct_strs
      refine ifb (fun _ => ?_) (fun e' => by rw [e] at e'; cases e')
      refine we_one ?_
      refine we_cmp rfl ?_
      kct_strs
      refine ⟨m, hm.2, u, true, true, t, rfl, by rw [et] at r; exact r.to (S2.trans s3), st', sm, fun H4 s4 => ?_⟩
      rw [ld_dt hm st']
      kct_strs
      refine ⟨Nat.le_of_ble_eq_true rfl, fun p5 H5 hp5 s5 e5 => ?_⟩
      refine opw_inI (ns := [1, -1]) e5 ?_
      have S5 := S2.trans (s3.trans (s4.trans s5))
      kct_strs
      refine ⟨_, _, rfl, ?_⟩
      rw [decide_eq_true rfl]
      kct_strs
      rw [if_neg (by decide)]
      kct_strs
      refine ⟨Nat.le_of_ble_eq_true rfl, fun p6 H6 hp6 s6 e6 => ?_⟩
      have S6 := S5.trans s6
      kct_strs
      refine res_told o_check_table e6 (fun Q' E' he => ⟨u, d, rfl, r.to S6, hd, ht, fun _ => he, (fun e' => by rw [e] at e'; cases e')⟩) fun p7 H7 s7 e7 => ?_
      kct_strs
      refine ixw_st (.inl (.inl e7)) (v := .str "told") rfl ?_
      kct_strs
      rw [e, if_neg (by decide +kernel)]
      show QB _ [] _ _ _
      refine wss_nil ?_
      rw [← e]
      exact q _ H7 (S6.trans s7)
  change QB _ (_ :: lb10.drop 1) _ _ _
  kct_strs
  refine ifb (fun e1 => ?_) (fun e1 => ?_)
  · cases d <;> cases e1
    rename_i ds
    obtain ⟨hl, hy⟩ := ht
    kct_strs
    refine callw_len_t r ?_
    have out : ∀ H', Same H H' → ¬ (1 ≤ ds.length ∧ ds.length ≤ 3) → itb (.tup ds) = false := fun H' s' hn => by rw [itb_lin, decide_eq_false hn, Bool.false_and]
    kct_strs
    refine ifd (fun e2 => ?_) (fun e2 => ?_)
    · kct_strs
      refine ifd (fun e3 => ?_) (fun e3 => ?_)
      · kct_strs
        mem_news
        kct_strs
        refine ⟨ds, r, by omega, fun z => .bl (lin z (ds.length : Int)), ⟨fun _ _ => rfl, fun z w1 H2 hz2 s2 rz => ?_⟩, fun p H2 ys s2 hp hp2 rr => ?_⟩
        · obtain ⟨y1, y2⟩ := hy z hz2
          intro s0 H00 C0 cl fp
          kct_strs
          refine callw_len_t (r.to s2) ?_
          kct_strs
          exact ⟨w1, z, _, rfl, rz, y1, y2, fun H3 s3 => ⟨s3, .bl _⟩⟩
        · kct_strs
          rw [show ds.map (fun z => D.bl (lin z (ds.length : Int))) = (ds.map fun z => lin z (ds.length : Int)).map D.bl by rw [List.map_map]; rfl] at rr
          refine callw_all rfl hp2 rr ?_
          have e7 : ((ds.map fun z => lin z (ds.length : Int)).all id) = itb (.tup ds) := by
            rw [itb_lin, decide_eq_true ⟨by omega, by omega⟩, Bool.true_and, List.all_map]
            rfl
          rw [e7]
          kct_strs
          exact rest H2 s2
      · rw [← out H (Same.refl _) (by omega)]
        kct_strs
        exact rest H (Same.refl _)
    · kct_strs
      rw [if_neg Bool.false_ne_true, ← out H (Same.refl _) (by omega)]
      kct_strs
      exact rest H (Same.refl _)
  · have : itb d = false := by cases d <;> first | rfl | cases e1
    rw [← this]
    kct_strs
    exact rest H (Same.refl _)
end
section
variable {P : Program} {w : World} {K : PySem.W.Frag} {mg : Str → Option Value} {base : Heap} {f fU fT fS fE fP Fa M R C : Addr} {cdv : Value} {A : Around} {outer : List Env} {s : Shared} {H0 : Hp} {E0 : XK}
theorem tys_row {r : List Int} (h : r.length < 1000) : (rD r).ty.isSome = true ∧ tysAll (rD r) := by
  refine ⟨rfl, fun d hd => ?_, by rw [List.length_map]; exact h⟩
  obtain ⟨i, _, rfl⟩ := List.mem_map.mp hd
  rfl
theorem law_10 {v v1 v2 vb bk vr rv zv pv : V} {ot oo od ol on ox og oa os oc o1 o2 : Option V} {vs : Addr} {n : Nat} {a b : List (List Int)} {dd mm : Int} {H : Hp} (T0 : Fx (LX P w K mg base f cdv A outer s H0 E0) fU fT fS fE fP Fa M R C) (Dn : Dr n a b) (r1 : Rp K H v1 (tD a)) (r2 : Rp K H v2 (tD b)) {D0 : Ends}
    (q : ∀ (oa o3 : Option V) H', Same H H' → QB (LX P w K mg base f cdv A outer s H0 E0) ((defBody (top 49)).drop 28) D0 (some (v) :: some (.ref vs) :: some (.int n) :: some (.int mm) :: some (v1) :: some (v2) :: some (vb) :: some (.int dd) :: some (rv) :: ox :: some (bk) :: some (vr) :: ot :: oo :: od :: ol :: on :: some (zv) :: some (pv) :: oc :: og :: oa :: os :: o1 :: o2 :: o3 :: none :: none :: none :: none :: none :: none :: none :: none :: none :: []) H') :
    QB (LX P w K mg base f cdv A outer s H0 E0) ((defBody (top 49)).drop 27) D0 (some (v) :: some (.ref vs) :: some (.int n) :: some (.int mm) :: some (v1) :: some (v2) :: some (vb) :: some (.int dd) :: some (rv) :: ox :: some (bk) :: some (vr) :: ot :: oo :: od :: ol :: on :: some (zv) :: some (pv) :: oc :: og :: oa :: os :: o1 :: o2 :: none :: none :: none :: none :: none :: none :: none :: none :: none :: none :: []) H := by
  have T1 := T0
  obtain ⟨hN, nd, hr, tk, n_tuple, n_range, n_sum, n_zip, n_len, n_list, n_isinstance, n_all, n_int, g_undone, o_undone, g_check_table, o_check_table, g_check_tables, o_check_tables, g_repeats, o_repeats, g_told_poly, o_told_poly, g_ratio, c_law_state, c_law_take, c_law_mo_skew, c_law_mo_times, c_law_mo_det, c_law_same, c_table_times, c_det, c_flipped, c_law_mo_flip, c_trace, c_plain_table, c_law_mo_plain, c_turned_table, c_table_power, c_is_table, c_is_whole_turn, c_law_says, c_is_wide, c_law_mo_is_line, c_law_result, x_undone, x_repeats, x_told_poly, x_led, x_law_mo_led, m_eq, mkR, T⟩ := T0
  have hz : (1000 : Nat) < sizeLine := by decide
  have hn := Dn.n13
  have la := Dn.ra
  have lb := Dn.rb
  have ta := tab_tys la (by omega)
  have tb := tab_tys lb (by omega)
  change QB _ (Stmt.For _ _ lb10 [] _ :: (defBody (top 49)).drop 28) _ _ _
  refine wss_cons ?_
  one_item
  kct_strs
  refine callw_list (b := true) r1 fun p3 H3 xs3 hp3 s3 e3 r3 => ?_
  have l3 : Rp K H3 (.ref p3) (.lst (a.map rD)) := .lstOf e3 r3
  kct_strs
  refine we_slM1T ?_
  kct_strs
  refine ⟨_, rfl, by rw [List.length_map, la.1]; exact hn.1, r1.to s3, fun v4 H4 s4 r4 => ?_⟩
  kct_strs
  refine ⟨Nat.le_of_ble_eq_true rfl, fun p5 H5 hp5 s5 e5 => ?_⟩
  kct_strs
  refine ⟨Nat.le_of_ble_eq_true rfl, fun p6 H6 hp6 s6 e6 => ?_⟩
  kct_strs
  refine ⟨Nat.le_of_ble_eq_true rfl, fun p7 H7 hp7 s7 e7 => ?_⟩
  kct_strs
  refine ⟨Nat.le_of_ble_eq_true rfl, fun p8 H8 hp8 s8 e8 => ?_⟩
  kct_strs
  refine ⟨Nat.le_of_ble_eq_true rfl, fun p9 H9 hp9 s9 e9 => ?_⟩
  kct_strs
  refine ⟨Nat.le_of_ble_eq_true rfl, fun p10 H10 hp10 s10 e10 => ?_⟩
  kct_strs
  refine ⟨Nat.le_of_ble_eq_true rfl, fun p11 H11 hp11 s11 e11 => ?_⟩
  have S11 := s3.trans (s4.trans (s5.trans (s6.trans (s7.trans (s8.trans (s9.trans (s10.trans s11)))))))
  kct_strs
  refine ixw_mt (d0 := []) (r1.to S11) (by decide) (by rw [la.1]; show 0 < n; omega) fun w12 r12 => ?_
  kct_strs
  refine ⟨Nat.le_of_ble_eq_true rfl, fun p12 H12 hp12 s12 e12 => ?_⟩
  kct_strs
  rw [show (n : Int) + 1 = ((n + 1 : Nat) : Int) by omega]
  refine opw_repT (ds := [rD (a.getD 0 [])]) (.tupOf e12 (.cons (r12.to s12) .nil)) (by simp) (by omega) (by simp) fun v13 H13 s13 r13 => ?_
  rw [rep_flat2] at r13
  kct_strs
  refine ⟨Nat.le_of_ble_eq_true rfl, fun p14 H14 hp14 s14 e14 => ?_⟩
  have T13 := s13.trans s14
  have T12 := s12.trans T13
  have T11 := s11.trans T12
  have T10 := s10.trans T11
  have T9 := s9.trans T10
  have T8 := s8.trans T9
  have T7 := s7.trans T8
  have T6 := s6.trans T7
  have T5 := s5.trans T6
  have T4 := s4.trans T5
  have T3 := s3.trans T4
  have d5 : Rp K H14 (.ref p5) (.tup []) := .tupOf (T6 _ _ e5) .nil
  have d6 : Rp K H14 (.ref p6) (rD [1, 2]) := .tupOf (T7 _ _ e6) (.cons (.int _) (.cons (.int _) .nil))
  have d7 : Rp K H14 (.ref p7) (.tup [rD [1, 2]]) := .tupOf (T8 _ _ e7) (.cons d6 .nil)
  have d8 : Rp K H14 (.ref p8) (.tup [.bl true]) := .tupOf (T9 _ _ e8) (.cons (.bl _) .nil)
  have d9 : Rp K H14 (.ref p9) (.tup [.tup [.bl true]]) := .tupOf (T10 _ _ e9) (.cons d8 .nil)
  have d10 : Rp K H14 (.ref p10) (rD [1000001]) := .tupOf (T11 _ _ e10) (.cons (.int _) .nil)
  have d11 : Rp K H14 (.ref p11) (.tup [rD [1000001]]) := .tupOf (T12 _ _ e11) (.cons d10 .nil)
  have l0 : (a.getD 0 []).length < 1000 := by rw [la.2 _ (getD_mem (by rw [la.1]; omega))]; omega
  refine ⟨[tD a, tD b, .lst (a.map rD), .tup ((a.map rD).take ((a.map rD).length - 1)), .tup [], .tup [rD [1, 2]], .tup [.tup [.bl true]], .tup [rD [1000001]], .non, .int 5, .tup (List.replicate (n + 1) (rD (a.getD 0 [])))],
    .tupOf e14 (.cons (r1.to T3) (.cons (r2.to T3) (.cons (l3.to T4) (.cons (r4.to T5) (.cons d5 (.cons d7 (.cons d9 (.cons d11 (.cons .non (.cons (.int 5) (.cons (r13.to s14) .nil))))))))))),
    fun k σ H' => Same H14 H' ∧ ∃ oa o3 : Option V, σ = (some (v) :: some (.ref vs) :: some (.int n) :: some (.int mm) :: some (v1) :: some (v2) :: some (vb) :: some (.int dd) :: some (rv) :: ox :: some (bk) :: some (vr) :: ot :: oo :: od :: ol :: on :: some (zv) :: some (pv) :: oc :: og :: oa :: os :: o1 :: o2 :: o3 :: none :: none :: none :: none :: none :: none :: none :: none :: none :: []), ⟨Same.refl _, oa, none, rfl⟩, fun k σ H' h => h.1, ?_, ?_⟩
  · rintro k d w σ1 H15 hk ⟨s15, oa, o3, rfl⟩ rw'
    have ok : d.ty.isSome = true ∧ tys2 d := by
      have hm := List.mem_of_getElem? hk
      simp only [List.mem_cons, List.not_mem_nil, or_false] at hm
      rcases hm with rfl | rfl | rfl | rfl | rfl | rfl | rfl | rfl | rfl | rfl | rfl
      · exact ta
      · exact tb
      · exact ⟨rfl, trivial⟩
      · refine ⟨rfl, by rw [List.length_take, List.length_map, la.1]; omega, fun r hr => ?_⟩
        obtain ⟨r', h', rfl⟩ := List.mem_map.mp (List.mem_of_mem_take hr)
        exact tys_row (by rw [la.2 r' h']; omega)
      · exact ⟨rfl, by decide, fun r hr => by simp at hr⟩
      · refine ⟨rfl, by decide, fun r hr => ?_⟩
        rw [List.mem_singleton.mp hr]
        exact tys_row (by decide)
      · refine ⟨rfl, by decide, fun r hr => ?_⟩
        rw [List.mem_singleton.mp hr]
        exact ⟨rfl, fun d hd => by rw [List.mem_singleton.mp hd]; rfl, by decide⟩
      · refine ⟨rfl, by decide, fun r hr => ?_⟩
        rw [List.mem_singleton.mp hr]
        exact tys_row (by decide)
      · exact ⟨rfl, trivial⟩
      · exact ⟨rfl, trivial⟩
      · refine ⟨rfl, by rw [List.length_replicate]; omega, fun r hr => ?_⟩
        rw [(List.mem_replicate.mp hr).2]
        exact tys_row l0
    show QG _ _ _ _ _ _
    kct_strs
    refine law_b10 T1 rw' ok.1 ok.2 fun o3' H16 s16 => ⟨s15.trans s16, _, o3', rfl⟩
  · rintro σ1 H15 ⟨s15, oa, o3, rfl⟩
    exact q oa o3 H15 (T3.trans s15)
end
section
variable {X : Cx} {elt iter : Expr} {scope : Scope} {N : List Str} {σ σ1 σw : Sl} {S1 S : V → Sl} {σi : V → Sl} {S2 : V → V → Sl} {H : Hp} {Q : VK} {x y : Str} {i j kk : Nat} {px py tpos : Pos}
/-- [elt for x, y in a list of pairs] -/
theorem ql_prs (T : Two X scope N σ σ1 σw S1 S σi S2 x y i j)
    (q : QE X iter σ H fun v H1 => ∃ (l : Addr) (xs : List (Addr × V × V)) (f : (Addr × V × V) → D), v = .ref l ∧ SqL X.K H1 l (xs.map fun z => V.ref z.1) ∧ (∀ z ∈ xs, H1 z.1 = some (.tup [z.2.1, z.2.2])) ∧ xs.length < sizeLine ∧ (∀ z ∈ xs, (f z).im = true) ∧
      (∀ z ∈ xs, ∀ H3, Same H1 H3 → BE X scope elt (S2 z.2.1 z.2.2) H3 fun y H4 => Same H3 H4 ∧ Rp X.K H4 y (f z)) ∧
      ∀ p H3 ys, Same H1 H3 → H1 p = none → H3 p = some (.lst ys) → RpAll X.K H3 ys (xs.map f) → Q (.ref p) H3) :
    QL X elt (.Tuple [.Name x px, .Name y py] kk tpos) iter [] scope [i, j] σ H Q := by
  refine ql_lc (σw := σw) T.w (qi_list (q.imp fun v H1 ⟨l, xs, f, e, hl, hp, hz, him, hb, hq⟩ => ?_))
  have hlen : (xs.map fun z => V.ref z.1).length = xs.length := List.length_map _
  refine ⟨l, e, ⟨_, hl⟩, (xs.map fun z => V.ref z.1).length, _, _, walk_list (xs := xs.map fun z => V.ref z.1), by rw [hlen]; exact hz, fun H' s => s.seq hl, fun k => (xs[k]?).map f, map_im him, ?_, ?_⟩
  · rintro k v H2 H3 hk s2 ⟨rfl, e⟩
    rw [List.getElem?_map] at e
    cases hx : xs[k]? with
    | none => rw [hx] at e; cases e
    | some z =>
      rw [hx] at e
      cases e
      have hm := List.mem_of_getElem? hx
      refine bg_two T (s2 _ _ (hp z hm)) ?_
      intro s H0 C cl fp
      exact (hb z hm H3 s2 s H0 C cl fp).imp fun y H5 ⟨s5, r5⟩ => ⟨s5, _, by simp [hx], r5⟩
  · intro p H2 ys s2 hp hp2 r
    rw [hlen, bits_mp] at r
    exact hq p H2 ys s2 hp hp2 r
end
section
variable {P : Program} {w : World} {K : PySem.W.Frag} {mg : Str → Option Value} {base : Heap} {f fU fT fS fE fP Fa M R C : Addr} {cdv : Value} {A : Around} {outer : List Env} {s : Shared} {H0 : Hp} {E0 : XK}
theorem law_11 {v v1 v2 vb bk vr rv zv pv : V} {ot oo od ol on ox og oa os oc o1 o2 o3 : Option V} {vs : Addr} {n : Nat} {a b : List (List Int)} {dd mm : Int} {H : Hp} (T0 : Fx (LX P w K mg base f cdv A outer s H0 E0) fU fT fS fE fP Fa M R C) (Dn : Dr n a b) (r1 : Rp K H v1 (tD a)) {D0 : Ends}
    (q : ∀ H', D0.rt (.bl true) H') :
    QB (LX P w K mg base f cdv A outer s H0 E0) ((defBody (top 49)).drop 28) D0 (some (v) :: some (.ref vs) :: some (.int n) :: some (.int mm) :: some (v1) :: some (v2) :: some (vb) :: some (.int dd) :: some (rv) :: ox :: some (bk) :: some (vr) :: ot :: oo :: od :: ol :: on :: some (zv) :: some (pv) :: oc :: og :: oa :: os :: o1 :: o2 :: o3 :: none :: none :: none :: none :: none :: none :: none :: none :: none :: []) H := by
  obtain ⟨hN, nd, hr, tk, n_tuple, n_range, n_sum, n_zip, n_len, n_list, n_isinstance, n_all, n_int, g_undone, o_undone, g_check_table, o_check_table, g_check_tables, o_check_tables, g_repeats, o_repeats, g_told_poly, o_told_poly, g_ratio, c_law_state, c_law_take, c_law_mo_skew, c_law_mo_times, c_law_mo_det, c_law_same, c_table_times, c_det, c_flipped, c_law_mo_flip, c_trace, c_plain_table, c_law_mo_plain, c_turned_table, c_table_power, c_is_table, c_is_whole_turn, c_law_says, c_is_wide, c_law_mo_is_line, c_law_result, x_undone, x_repeats, x_told_poly, x_led, x_law_mo_led, m_eq, mkR, T⟩ := T0
  have hz : (1000 : Nat) < sizeLine := by decide
  have hn := Dn.n13
  have la := Dn.ra
  have ia : itb (tD a) = true := tab_itb la hn (Dn.sa.mono (by decide))
  obtain ⟨m, hm, hne, e0⟩ : ∃ m : Nat, (1 ≤ m ∧ m ≤ 3) ∧ n ≠ m ∧ (n : Int) % 3 + 1 = (m : Int) := ⟨n % 3 + 1, by omega, by omega, by omega⟩
  have im : itb (tD (plain m)) = true := tab_itb (plain_rows m) hm ((plain_sm m).mono (by decide))
  change QB _ (_ :: _ :: []) _ _ _
  kct_strs
  refine ⟨Nat.le_of_ble_eq_true rfl, fun p1 H1 hp1 s1 e1 => ?_⟩
  kct_strs
  refine ⟨Nat.le_of_ble_eq_true rfl, fun p2 H2 hp2 s2 e2 => ?_⟩
  kct_strs
  refine ⟨Nat.le_of_ble_eq_true rfl, fun p3 H3 hp3 s3 e3 => ?_⟩
  kct_strs
  refine opw_mod (by decide) ?_
  kct_strs
  rw [e0]
  refine ⟨m, rfl, hm.2, fun v4 H4 s4 r4 => ?_⟩
  kct_strs
  refine ⟨Nat.le_of_ble_eq_true rfl, fun p5 H5 hp5 s5 e5 => ?_⟩
  kct_strs
  refine ⟨Nat.le_of_ble_eq_true rfl, fun p6 H6 hp6 s6 e6 => ?_⟩
  kct_strs
  refine ⟨Nat.le_of_ble_eq_true rfl, fun p7 H7 hp7 s7 e7 => ?_⟩
  kct_strs
  refine ⟨Nat.le_of_ble_eq_true rfl, fun p8 H8 hp8 s8 e8 => ?_⟩
  kct_strs
  refine ⟨Nat.le_of_ble_eq_true rfl, fun p9 H9 hp9 s9 e9 => ?_⟩
  kct_strs
  refine ⟨Nat.le_of_ble_eq_true rfl, fun p10 H10 hp10 s10 e10 => ?_⟩
  kct_strs
  refine ⟨Nat.le_of_ble_eq_true rfl, fun p11 H11 hp11 s11 e11 => ?_⟩
  kct_strs
  refine ⟨Nat.le_of_ble_eq_true rfl, fun p12 H12 hp12 s12 e12 => ?_⟩
  kct_strs
  refine ⟨Nat.le_of_ble_eq_true rfl, fun p13 H13 hp13 s13 e13 => ?_⟩
  kct_strs
  refine ⟨Nat.le_of_ble_eq_true rfl, fun p14 H14 hp14 s14 e14 => ?_⟩
  kct_strs
  refine ⟨Nat.le_of_ble_eq_true rfl, fun p15 H15 hp15 s15 e15 => ?_⟩
  kct_strs
  refine ⟨Nat.le_of_ble_eq_true rfl, fun p16 H16 hp16 s16 e16 => ?_⟩
  kct_strs
  refine ⟨Nat.le_of_ble_eq_true rfl, fun p17 H17 hp17 s17 e17 => ?_⟩
  kct_strs
  refine ⟨Nat.le_of_ble_eq_true rfl, fun p18 H18 hp18 s18 e18 => ?_⟩
  kct_strs
  have T17 := s18
  have T16 := s17.trans T17
  have T15 := s16.trans T16
  have T14 := s15.trans T15
  have T13 := s14.trans T14
  have T12 := s13.trans T13
  have T11 := s12.trans T12
  have T10 := s11.trans T11
  have T9 := s10.trans T10
  have T8 := s9.trans T9
  have T7 := s8.trans T8
  have T6 := s7.trans T7
  have T5 := s6.trans T6
  have T4 := s5.trans T5
  have T3 := s4.trans T4
  have T2 := s3.trans T3
  have T1 := s2.trans T2
  have T0' := s1.trans T1
  have dz : Rp K H18 (.ref p1) (.lst []) := .lstOf (T1 _ _ e1) .nil
  have dtt : Rp K H18 (.ref p5) (.lst [tD a, tD (plain m)]) := .lstOf (T5 _ _ e5) (.cons (r1.to T0') (.cons (r4.to T4) .nil))
  have d12 : Rp K H18 (.ref p12) (rD [1, 2]) := .tupOf (T12 _ _ e12) (.cons (.int _) (.cons (.int _) .nil))
  have d13 : Rp K H18 (.ref p13) (.tup [rD [1, 2]]) := .tupOf (T13 _ _ e13) (.cons d12 .nil)
  have key : ∀ z ∈ [(p3, V.ref fS, V.ref p2), (p7, V.ref fS, V.ref p6), (p9, V.ref fS, V.ref p8), (p11, V.ref fU, V.ref p10), (p15, V.ref fE, V.ref p14), (p17, V.ref fP, V.ref p16)], ∀ (H3 : Hp), Same H18 H3 → ∀ (Q : VK) (E : XK), (∀ p H', Same H3 H' → H' p = some (.tup [.str "malformed", .non]) → Q (.ref p) H') → spRes P w K mg base M R [z.2.1, z.2.2] H3 Q E := by
    intro z hz H3 s Q E g
    simp only [List.mem_cons, List.not_mem_nil, or_false] at hz
    rcases hz with rfl | rfl | rfl | rfl | rfl | rfl
    · exact res_mal o_check_tables (s _ _ (T2 _ _ e2)) (fun Q' E' he => ⟨_, _, rfl, dz.to s, .inr (.inl rfl), he⟩) g
    · exact res_mal o_check_tables (s _ _ (T6 _ _ e6)) (fun Q' E' he => ⟨_, _, rfl, dtt.to s, .inr (.inr ⟨a, plain m, rfl, ia, im, by rw [la.1, (plain_rows m).1]; exact hne⟩), he⟩) g
    · exact res_mal o_check_tables (s _ _ (T8 _ _ e8)) (fun Q' E' he => ⟨_, _, rfl, .non, .inl rfl, he⟩) g
    · exact res_mal o_undone (s _ _ (T10 _ _ e10)) (fun Q' E' he => ⟨_, _, rfl, .non, rfl, trivial, fun _ => he, (fun t e _ => by cases e), (fun t e _ => by cases e)⟩) g
    · refine res_mal o_repeats (s _ _ (T14 _ _ e14)) (fun Q' E' he => ⟨_, _, rfl, d13.to s, rfl, ⟨by decide, fun r hr => ?_⟩, fun _ => he, fun t _ e => absurd e (by decide +kernel)⟩) g
      rw [List.mem_singleton.mp hr]
      exact tys_row (by decide)
    · exact res_mal o_told_poly (s _ _ (T16 _ _ e16)) (fun Q' E' he => ⟨_, _, rfl, .int 5, rfl, trivial, fun _ => he, (fun t e _ => by cases e)⟩) g
  refine we_lc (own := [("act", 32), ("given", 33)]) rfl rfl nd ⟨rfl, of_decide_eq_true (by kernel_rfl), of_decide_eq_true (by kernel_rfl), of_decide_eq_true (by kernel_rfl), of_decide_eq_true (by kernel_rfl)⟩ (fun _ => rfl) ?_
  (refine' ql_prs ⟨?h1, ?h, ?h2, ?hij, ?hN, ?nd, ?hc, ?hl, ?hf, ?hl1, ?hf1⟩ ?q); (case hN => first | with_reducible assumption | assumption); (case h1 => infer_instance); (case h => infer_instance); (case h2 => (intro _; infer_instance)); (case hij => decide); (case nd => first | with_reducible assumption | assumption); (case hc => exact rfl); (case hl => (intro _ _ _ _ _; first | exact Or.inl rfl | exact Or.inr rfl)); (case hf => (intro _ _ _ _ _; first | exact Or.inl rfl | exact Or.inr rfl)); (case hl1 => (intro _ _ _ _ _; first | exact Or.inl rfl | exact Or.inr rfl)); (case hf1 => (intro _ _ _ _ _; first | exact Or.inl rfl | exact Or.inr rfl)); (case' q => skip)
  kct_strs
  refine ⟨p18, [(p3, V.ref fS, V.ref p2), (p7, V.ref fS, V.ref p6), (p9, V.ref fS, V.ref p8), (p11, V.ref fU, V.ref p10), (p15, V.ref fE, V.ref p14), (p17, V.ref fP, V.ref p16)], fun _ => .str "malformed", rfl, .inl (.inl e18), fun z hz => ?_, by show 6 < sizeLine; omega, fun _ _ => rfl, fun z hz H19 s19 => ?_, fun p H19 ys s19 hp hp2 rr => ?_⟩
  · simp only [List.mem_cons, List.not_mem_nil, or_false] at hz
    rcases hz with rfl | rfl | rfl | rfl | rfl | rfl
    · exact T3 _ _ e3
    · exact T7 _ _ e7
    · exact T9 _ _ e9
    · exact T11 _ _ e11
    · exact T15 _ _ e15
    · exact T17 _ _ e17
  · intro s0 H00 C0 cl fp
    kct_strs
    refine key z hz H19 s19 _ _ fun p20 H20 s20 e20 => ?_
    kct_strs
    refine ixw_st (.inl (.inl e20)) (v := .str "malformed") rfl ?_
    exact ⟨s20, .str _⟩
  · kct_strs
    refine ⟨Nat.le_of_ble_eq_true rfl, fun p20 H20 hp20 s20 e20 => ?_⟩
    kct_strs
    refine opw_repL (k := 6) (ds := [.str "malformed"]) e20 (.cons (.str _) .nil) (by decide) (by decide) fun p21 H21 ys hp21 s21 e21 r21 => ?_
    have dl : Rp K H21 (.ref p) (.lst (List.replicate 6 (D.str "malformed"))) := .lstOf ((s20.trans s21) _ _ hp2) (rr.to (s20.trans s21))
    have dr : Rp K H21 (.ref p21) (.lst (List.replicate 6 (D.str "malformed"))) := .lstOf e21 r21
    have sp : (D.lst (List.replicate 6 (D.str "malformed"))).pure = true := by
      simp [List.replicate, D.pure, pureAll]
      decide +kernel
    refine opw_eqd hr dl dr sp sp (by simp [List.replicate, D.dep, depAll]) (by simp [List.replicate, D.dep, depAll]) fun bb hb => ?_
    rw [hb.mpr rfl]
    kct_strs
    rw [if_pos rfl]
    kct_strs
    mem_news
    kct_strs
    refine ⟨Nat.le_of_ble_eq_true rfl, fun p22 H22 hp22 s22 e22 => ?_⟩
    refine ⟨[.int 1, .int 3, .int 0, .int 4, .bl true, .non], .tupOf e22 (.cons (.int _) (.cons (.int _) (.cons (.int _) (.cons (.int _) (.cons (.bl _) (.cons .non .nil)))))), by show 6 < sizeLine; omega, fun d => .bl (wi d 1 3), ⟨fun _ _ => rfl, fun d w H23 hd s23 r23 => ?_⟩, fun p23 H23 ys s23 hp23 hp23' r23 => ?_⟩
    · have td : d.ty.isSome = true := by
        simp only [List.mem_cons, List.not_mem_nil, or_false] at hd
        rcases hd with rfl | rfl | rfl | rfl | rfl | rfl <;> rfl
      intro s0 H00 C0 cl fp
      kct_strs
      exact ⟨w, d, rfl, r23, td, Same.refl _, .bl _⟩
    · kct_strs
      refine ⟨Nat.le_of_ble_eq_true rfl, fun p24 H24 hp24 s24 e24 => ?_⟩
      have el : ([.int 1, .int 3, .int 0, .int 4, .bl true, .non] : List D).map (fun d => D.bl (wi d 1 3)) = [.bl true, .bl true, .bl false, .bl false, .bl false, .bl false] := by simp [wi]
      rw [el] at r23
      have d23 : Rp K H24 (.ref p23) (.lst [.bl true, .bl true, .bl false, .bl false, .bl false, .bl false]) := .lstOf (s24 _ _ hp23') (r23.to s24)
      have d24 : Rp K H24 (.ref p24) (.lst [.bl true, .bl true, .bl false, .bl false, .bl false, .bl false]) := .lstOf e24 (.cons (.bl _) (.cons (.bl _) (.cons (.bl _) (.cons (.bl _) (.cons (.bl _) (.cons (.bl _) .nil))))))
      have pl : (D.lst [.bl true, .bl true, .bl false, .bl false, .bl false, .bl false]).py = some (PyData.list [.bool true, .bool true, .bool false, .bool false, .bool false, .bool false]) := by simp [D.py, pyAll]
      have ee : PyData.eqv (PyData.list [.bool true, .bool true, .bool false, .bool false, .bool false, .bool false]) (PyData.list [.bool true, .bool true, .bool false, .bool false, .bool false, .bool false]) = true := by decide +kernel
      refine opw_of (op_eqD hr.units) ⟨_, _, Rp.py _ _ _ d23 pl, Rp.py _ _ _ d24 pl, by decide +kernel, by decide +kernel, ?_⟩
      rw [ee]
      exact q H24
end
theorem exm_any {K : PySem.W.Frag} {S T : Addr} {b : Bool} (h1 : PySem.W.subIn K (.ref S) (.type "BaseException") = some true) (h2 : PySem.W.isClsIn K S = true) (h3 : PySem.W.typeIn K (.ref S) = some (.type "type")) (h4 : PySem.W.subIn K (.ref T) (.ref S) = some b) :
    PySem.W.exmOne K (.ref T) (.ref S) = some b := by
  unfold PySem.W.exmOne
  have h2' : (PySem.W.clsIn K S).isSome = true := h2
  simp [h1]
  unfold PySem.W.kitCls
  simp [h2', h3, h4]
theorem kit_ty {K : PySem.W.Frag} {S : Addr} {n : String} {b : Bool} (h2 : PySem.W.isClsIn K S = true) (h3 : PySem.W.typeIn K (.ref S) = some (.type "type")) (h4 : PySem.W.subIn K (.type n) (.ref S) = some b) :
    PySem.W.kitOne K (.type n) (.ref S) = some b := by
  unfold PySem.W.kitOne
  have h2' : (PySem.W.clsIn K S).isSome = true := h2
  rw [if_neg (by simp)]
  unfold PySem.W.kitCls
  simp [h2', h3, h4]
theorem kit_me {K : PySem.W.Frag} {S : Addr} : PySem.W.kitOne K (.ref S) (.ref S) = some true := by
  unfold PySem.W.kitOne
  rw [if_pos (by simp)]
theorem rp_ints {K : PySem.W.Frag} {H : Hp} {a : Addr} {ns : List Int} (h : SqL K H a (ns.map V.int)) : Rp K H (.ref a) (.lst (ns.map .int)) := .lst h (RpAll.ints ns)
theorem FnOk.ex3 {P : Program} {w : World} {K : PySem.W.Frag} {mg : Str → Option Value} {base : Heap} {CX : CXT} {f : Addr} {fd : FuncData} {ps : List Str} {sp : Nat → Sp} (F : ∀ n, n ≤ 3 → FnOk P w K mg base CX (n + 2) f fd ps (sp n)) : FnOk P w K mg base CX 5 f fd ps (fun vs H Q E => ∃ n, n ≤ 3 ∧ sp n vs H Q E) :=
  ⟨fun vs H Q E ⟨n, hn, h⟩ => (F n hn).len vs H Q E h, fun A outer s H args us vs Q E hr he hb hv ⟨n, hn, h⟩ => ((F n hn).mono (by omega)).run A outer s H args us vs Q E hr he hb hv h⟩
section
variable {P : Program} {w : World} {K : PySem.W.Frag} {mg : Str → Option Value} {base : Heap}
def spLaw (K : PySem.W.Frag) : Sp := fun vs H Q _ => ∃ (a : Addr) (ns : List Int), vs = [.ref a] ∧ SqL K H a (ns.map V.int) ∧ ns.length ≤ 63 ∧ ∀ H', Q (.bl true) H'
theorem ok_law {f fU fT fS fE fP Fa M R C : Addr} {fd : FuncData} (F : Fun K "law" "law" (top 49) f fd)
    (n_tuple : mg "tuple" = none)
    (n_range : mg "range" = none)
    (n_sum : mg "sum" = none)
    (n_zip : mg "zip" = none)
    (n_len : mg "len" = none)
    (n_list : mg "list" = none)
    (n_isinstance : mg "isinstance" = none)
    (n_all : mg "all" = none)
    (n_int : mg "int" = none)
    (g_undone : mg "undone" = some (.ref fU)) (o_undone : ∃ fd ps, FnOk P w K mg base (L2.CX P w) 8 fU fd ps (spUnd K M R) ∧ PySem.W.keepIn K (.ref fU) = true ∧ Binds K fd ps [])
    (g_check_table : mg "check_table" = some (.ref fT)) (o_check_table : ∃ fd ps, FnOk P w K mg base (L2.CX P w) 8 fT fd ps (spCT K M) ∧ PySem.W.keepIn K (.ref fT) = true ∧ Binds K fd ps [])
    (g_check_tables : mg "check_tables" = some (.ref fS)) (o_check_tables : ∃ fd ps, FnOk P w K mg base (L2.CX P w) 8 fS fd ps (spCTs K M) ∧ PySem.W.keepIn K (.ref fS) = true ∧ Binds K fd ps [])
    (g_repeats : mg "repeats" = some (.ref fE)) (o_repeats : ∃ fd ps, FnOk P w K mg base (L2.CX P w) 8 fE fd ps (spRep K M) ∧ PySem.W.keepIn K (.ref fE) = true ∧ Binds K fd ps [])
    (g_told_poly : mg "told_poly" = some (.ref fP)) (o_told_poly : ∃ fd ps, FnOk P w K mg base (L2.CX P w) 8 fP fd ps (spPoly K M) ∧ PySem.W.keepIn K (.ref fP) = true ∧ Binds K fd ps [])
    (g_ratio : mg "Ratio" = some (.ref C))
    (c_law_state : Cal P w K mg base 1 "_law_state" (spState K) [])
    (c_law_take : Cal P w K mg base 1 "_law_take" (spTake) [])
    (c_law_mo_skew : Cal P w K mg base 2 "_law_mo_skew" (spSkew K) [])
    (c_law_mo_times : Cal P w K mg base 1 "_law_mo_times" (spMul K) [])
    (c_law_mo_det : Cal P w K mg base 5 "_law_mo_det" (spLDs K) [])
    (c_law_same : Cal P w K mg base 4 "_law_same" (spSame K 2) [])
    (c_table_times : Cal P w K mg base 1 "table_times" (spMul K) [])
    (c_det : Cal P w K mg base 1 "det" (spDet K) [])
    (c_flipped : Cal P w K mg base 1 "flipped" (spFlip K) [])
    (c_law_mo_flip : Cal P w K mg base 1 "_law_mo_flip" (spFlip K) [])
    (c_trace : Cal P w K mg base 1 "trace" (spTra K) [])
    (c_plain_table : Cal P w K mg base 1 "plain_table" (spMk K plain) [])
    (c_law_mo_plain : Cal P w K mg base 1 "_law_mo_plain" (spMk K plain) [])
    (c_turned_table : Cal P w K mg base 1 "turned_table" (spMk K turned) [])
    (c_table_power : Cal P w K mg base 2 "table_power" (spPow K) [])
    (c_is_table : Cal P w K mg base 3 "is_table" (spTab K) [])
    (c_is_whole_turn : Cal P w K mg base 4 "is_whole_turn" (spWT K) [])
    (c_law_says : Cal P w K mg base 1 "_law_says" (spSays) [])
    (c_is_wide : Cal P w K mg base 3 "is_wide" (spWi K) [])
    (c_law_mo_is_line : Cal P w K mg base 2 "_law_mo_is_line" (spLine K) [])
    (c_law_result : Cal P w K mg base 9 "_law_result" (spRes P w K mg base M R) [])
    (x_undone : CalX P w K mg base 5 "undone" (spUnd K M R) [])
    (x_repeats : CalX P w K mg base 5 "repeats" (spRep K M) [])
    (x_told_poly : CalX P w K mg base 5 "told_poly" (spPoly K M) [])
    (x_led : CalX P w K mg base 6 "led" (spLed K C) [])
    (x_law_mo_led : CalX P w K mg base 6 "_law_mo_led" (spMoLed K C) [])
    (m_eq : MetX P w K mg base CX0 1 C "__eq__" (spEqR K C)) (mkR : MakX P w K mg base (L2.CX P w) 3 "Ratio" C (spInit (K := K) M R C)) (T4 : Cls4 K mg Fa M R C)
    : FnOk P w K mg base CX0 11 f fd ["script"] (spLaw K) := by
  refine okS F scL (fun vs H Q E ⟨_, _, e, _⟩ => by rw [e]; rfl) ?_
  rintro cdv A outer s H _ Q E hr ⟨a, ns, rfl, hS, hl, q⟩ hN nd
  have T : Fx (LX P w K mg base f cdv A outer s H E) fU fT fS fE fP Fa M R C := ⟨hN, nd, hr, takes0, n_tuple, n_range, n_sum, n_zip, n_len, n_list, n_isinstance, n_all, n_int, g_undone, o_undone, g_check_table, o_check_table, g_check_tables, o_check_tables, g_repeats, o_repeats, g_told_poly, o_told_poly, g_ratio, c_law_state, c_law_take, c_law_mo_skew, c_law_mo_times, c_law_mo_det, c_law_same, c_table_times, c_det, c_flipped, c_law_mo_flip, c_trace, c_plain_table, c_law_mo_plain, c_turned_table, c_table_power, c_is_table, c_is_whole_turn, c_law_says, c_is_wide, c_law_mo_is_line, c_law_result, x_undone, x_repeats, x_told_poly, x_led, x_law_mo_led, m_eq, mkR, T4⟩
  have im : ∀ t : List (List Int), (tD t).im = true := fun t => imAll_map ints_im
  refine law_1 T (rp_ints hS) hl fun vs n a b v1 v2 v3 H1 st D r1 r2 r3 => ?_
  refine law_2 T D r1 r2 r3 fun H2 s2 => ?_
  refine law_3 T D (r1.to s2) (r2.to s2) fun bk H3 s3 => ?_
  have S3 := s2.trans s3
  refine law_4 T D (st.same S3) (r1.to S3) fun m vr ot H4 k4 => ?_
  have r14 := k4.rp (st.same S3) (r1.to S3) (im a)
  have r24 := k4.rp (st.same S3) (r2.to S3) (im b)
  refine law_5 T D r14 r24 fun oo od ol on H5 s5 => ?_
  have st5 := k4.t.same s5
  refine law_6 T D st5 (r14.to s5) fun rv zv pv H6 s6 rr rz rp => ?_
  refine law_7 T D (st5.same s6) (r14.to (s5.trans s6)) rr rz rp fun zv pv oc H7 s7 rz => ?_
  have S7 := s5.trans (s6.trans s7)
  have st7 := st5.same (s6.trans s7)
  refine law_8 T D st7 (r14.to S7) (rr.to s7) rz fun ox og oa ot' oc H8 k8 => ?_
  have r18 := k8.rp st7 (r14.to S7) (im a)
  have r28 := k8.rp st7 (r24.to S7) (im b)
  refine law_9 T D k8.t r18 fun o1 o2 H9 k9 => ?_
  have r19 := k9.rp k8.t r18 (im a)
  have r29 := k9.rp k8.t r28 (im b)
  refine law_10 T D r19 r29 fun oa o3 H10 s10 => ?_
  exact law_11 T D (r19.to s10) fun H11 => q H11
end
section
theorem all_mk {l : PySem.W.OpenLaw} {w : World} {K : PySem.W.Frag} {h : Heap} {mg : Str → Option Value} (X : K.In h) (G : h.Ns mainGlobals mg)
    {C Fa M R T : Addr} {t3 tM : Tok} {f6 : Addr} {od6 an6 : Option Addr} {sl6 : Array (Option Value)} {oc6 kV6 dc6 pm6 cd6 ct6 : Value} {f7 : Addr} {od7 an7 : Option Addr} {sl7 : Array (Option Value)} {oc7 kV7 dc7 pm7 cd7 ct7 : Value} {f8 : Addr} {od8 an8 : Option Addr} {sl8 : Array (Option Value)} {oc8 kV8 dc8 pm8 cd8 ct8 : Value} {f9 : Addr} {od9 an9 : Option Addr} {sl9 : Array (Option Value)} {oc9 kV9 dc9 pm9 cd9 ct9 : Value} {f12 : Addr} {od12 an12 : Option Addr} {sl12 : Array (Option Value)} {oc12 kV12 dc12 pm12 cd12 ct12 : Value} {f16 : Addr} {od16 an16 : Option Addr} {sl16 : Array (Option Value)} {oc16 kV16 dc16 pm16 cd16 ct16 : Value} {f17 : Addr} {od17 an17 : Option Addr} {sl17 : Array (Option Value)} {oc17 kV17 dc17 pm17 cd17 ct17 : Value} {f18 : Addr} {od18 an18 : Option Addr} {sl18 : Array (Option Value)} {oc18 kV18 dc18 pm18 cd18 ct18 : Value} {f19 : Addr} {od19 an19 : Option Addr} {sl19 : Array (Option Value)} {oc19 kV19 dc19 pm19 cd19 ct19 : Value} {f20 : Addr} {od20 an20 : Option Addr} {sl20 : Array (Option Value)} {oc20 kV20 dc20 pm20 cd20 ct20 : Value} {f21 : Addr} {od21 an21 : Option Addr} {sl21 : Array (Option Value)} {oc21 kV21 dc21 pm21 cd21 ct21 : Value} {f22 : Addr} {od22 an22 : Option Addr} {sl22 : Array (Option Value)} {oc22 kV22 dc22 pm22 cd22 ct22 : Value} {f23 : Addr} {od23 an23 : Option Addr} {sl23 : Array (Option Value)} {oc23 kV23 dc23 pm23 cd23 ct23 : Value} {f24 : Addr} {od24 an24 : Option Addr} {sl24 : Array (Option Value)} {oc24 kV24 dc24 pm24 cd24 ct24 : Value} {f25 : Addr} {od25 an25 : Option Addr} {sl25 : Array (Option Value)} {oc25 kV25 dc25 pm25 cd25 ct25 : Value} {f26 : Addr} {od26 an26 : Option Addr} {sl26 : Array (Option Value)} {oc26 kV26 dc26 pm26 cd26 ct26 : Value} {f27 : Addr} {od27 an27 : Option Addr} {sl27 : Array (Option Value)} {oc27 kV27 dc27 pm27 cd27 ct27 : Value} {f28 : Addr} {od28 an28 : Option Addr} {sl28 : Array (Option Value)} {oc28 kV28 dc28 pm28 cd28 ct28 : Value} {f29 : Addr} {od29 an29 : Option Addr} {sl29 : Array (Option Value)} {oc29 kV29 dc29 pm29 cd29 ct29 : Value} {f30 : Addr} {od30 an30 : Option Addr} {sl30 : Array (Option Value)} {oc30 kV30 dc30 pm30 cd30 ct30 : Value} {f31 : Addr} {od31 an31 : Option Addr} {sl31 : Array (Option Value)} {oc31 kV31 dc31 pm31 cd31 ct31 : Value} {f32 : Addr} {od32 an32 : Option Addr} {sl32 : Array (Option Value)} {oc32 kV32 dc32 pm32 cd32 ct32 : Value} {f33 : Addr} {od33 an33 : Option Addr} {sl33 : Array (Option Value)} {oc33 kV33 dc33 pm33 cd33 ct33 : Value} {f35 : Addr} {od35 an35 : Option Addr} {sl35 : Array (Option Value)} {oc35 kV35 dc35 pm35 cd35 ct35 : Value} {f36 : Addr} {od36 an36 : Option Addr} {sl36 : Array (Option Value)} {oc36 kV36 dc36 pm36 cd36 ct36 : Value} {f37 : Addr} {od37 an37 : Option Addr} {sl37 : Array (Option Value)} {oc37 kV37 dc37 pm37 cd37 ct37 : Value} {f38 : Addr} {od38 an38 : Option Addr} {sl38 : Array (Option Value)} {oc38 kV38 dc38 pm38 cd38 ct38 : Value} {f39 : Addr} {od39 an39 : Option Addr} {sl39 : Array (Option Value)} {oc39 kV39 dc39 pm39 cd39 ct39 : Value} {f40 : Addr} {od40 an40 : Option Addr} {sl40 : Array (Option Value)} {oc40 kV40 dc40 pm40 cd40 ct40 : Value} {f41 : Addr} {od41 an41 : Option Addr} {sl41 : Array (Option Value)} {oc41 kV41 dc41 pm41 cd41 ct41 : Value} {f42 : Addr} {od42 an42 : Option Addr} {sl42 : Array (Option Value)} {oc42 kV42 dc42 pm42 cd42 ct42 : Value} {f43 : Addr} {od43 an43 : Option Addr} {sl43 : Array (Option Value)} {oc43 kV43 dc43 pm43 cd43 ct43 : Value} {f44 : Addr} {od44 an44 : Option Addr} {sl44 : Array (Option Value)} {oc44 kV44 dc44 pm44 cd44 ct44 : Value} {f45 : Addr} {od45 an45 : Option Addr} {sl45 : Array (Option Value)} {oc45 kV45 dc45 pm45 cd45 ct45 : Value} {f46 : Addr} {od46 an46 : Option Addr} {sl46 : Array (Option Value)} {oc46 kV46 dc46 pm46 cd46 ct46 : Value} {f47 : Addr} {od47 an47 : Option Addr} {sl47 : Array (Option Value)} {oc47 kV47 dc47 pm47 cd47 ct47 : Value} {f48 : Addr} {od48 an48 : Option Addr} {sl48 : Array (Option Value)} {oc48 kV48 dc48 pm48 cd48 ct48 : Value} {f49 : Addr} {od49 an49 : Option Addr} {sl49 : Array (Option Value)} {oc49 kV49 dc49 pm49 cd49 ct49 : Value} {fm1 : Addr} {odm1 anm1 : Option Addr} {slm1 : Array (Option Value)} {ocm1 kVm1 dcm1 pmm1 cdm1 ctm1 : Value} {fm3 : Addr} {odm3 anm3 : Option Addr} {slm3 : Array (Option Value)} {ocm3 kVm3 dcm3 pmm3 cdm3 ctm3 : Value} {fm5 : Addr} {odm5 anm5 : Option Addr} {slm5 : Array (Option Value)} {ocm5 kVm5 dcm5 pmm5 cdm5 ctm5 : Value} {fm9 : Addr} {odm9 anm9 : Option Addr} {slm9 : Array (Option Value)} {ocm9 kVm9 dcm9 pmm9 cdm9 ctm9 : Value} {fRI : Addr} {odRI anRI : Option Addr} {slRI : Array (Option Value)} {ocRI kVRI dcRI pmRI cdRI ctRI : Value} {fI : Addr} {odI anI : Option Addr} {slI : Array (Option Value)} {ocI kVI dcI pmI cdI ctI : Value} {oT : Obj} {itT : Value} {nT : Nat} {nmR qR : Str} {NR : Addr} {bsR bmR : List Value} {snR : List Str} {subR : List Value} {abR : Bool} {colR : Option Bool} {ddR : Option Addr} {k0R k1R k2R k3R k5R : Option Value}
    {fa : Addr} (hfa : mg "law" = some (.ref fa))
    (gC : PySem.W.nsIn K mainGlobals "Ratio" = some (some (.ref C)))
    (gF : PySem.W.nsIn K mainGlobals "Fault" = some (some (.ref Fa)))
    (gM : PySem.W.nsIn K mainGlobals "Malformed" = some (some (.ref M)))
    (gR : PySem.W.nsIn K mainGlobals "Refused" = some (some (.ref R)))
    (gW : PySem.W.nsIn K mainGlobals "MOST_WIDE" = some (some (.int 3 t3)))
    (gI : PySem.W.nsIn K mainGlobals "MOST_ITEM" = some (some (.int 1000000 tM)))
    (a6 : PySem.W.nsIn K mainGlobals "is_integer" = some (some (.ref f6)))
    (l6 : K.lookup f6 = some ⟨oc6, od6, .func (PySem.W.fnOf "is_integer" "is_integer" (defArgs (top 6)) (defBody (top 6)) (defScope (top 6)) .none kV6 dc6 pm6 an6 cd6 ct6), sl6⟩)
    (c6 : PySem.W.codeIn K cd6 "is_integer" = true)
    (k6 : PySem.W.keepIn K (.ref f6) = true)
    (a7 : PySem.W.nsIn K mainGlobals "is_count" = some (some (.ref f7)))
    (l7 : K.lookup f7 = some ⟨oc7, od7, .func (PySem.W.fnOf "is_count" "is_count" (defArgs (top 7)) (defBody (top 7)) (defScope (top 7)) .none kV7 dc7 pm7 an7 cd7 ct7), sl7⟩)
    (c7 : PySem.W.codeIn K cd7 "is_count" = true)
    (k7 : PySem.W.keepIn K (.ref f7) = true)
    (a8 : PySem.W.nsIn K mainGlobals "is_whole_row" = some (some (.ref f8)))
    (l8 : K.lookup f8 = some ⟨oc8, od8, .func (PySem.W.fnOf "is_whole_row" "is_whole_row" (defArgs (top 8)) (defBody (top 8)) (defScope (top 8)) .none kV8 dc8 pm8 an8 cd8 ct8), sl8⟩)
    (c8 : PySem.W.codeIn K cd8 "is_whole_row" = true)
    (k8 : PySem.W.keepIn K (.ref f8) = true)
    (a9 : PySem.W.nsIn K mainGlobals "common" = some (some (.ref f9)))
    (l9 : K.lookup f9 = some ⟨oc9, od9, .func (PySem.W.fnOf "common" "common" (defArgs (top 9)) (defBody (top 9)) (defScope (top 9)) .none kV9 dc9 pm9 an9 cd9 ct9), sl9⟩)
    (c9 : PySem.W.codeIn K cd9 "common" = true)
    (k9 : PySem.W.keepIn K (.ref f9) = true)
    (a12 : PySem.W.nsIn K mainGlobals "check_ratio" = some (some (.ref f12)))
    (l12 : K.lookup f12 = some ⟨oc12, od12, .func (PySem.W.fnOf "check_ratio" "check_ratio" (defArgs (top 12)) (defBody (top 12)) (defScope (top 12)) .none kV12 dc12 pm12 an12 cd12 ct12), sl12⟩)
    (c12 : PySem.W.codeIn K cd12 "check_ratio" = true)
    (k12 : PySem.W.keepIn K (.ref f12) = true)
    (a16 : PySem.W.nsIn K mainGlobals "is_table" = some (some (.ref f16)))
    (l16 : K.lookup f16 = some ⟨oc16, od16, .func (PySem.W.fnOf "is_table" "is_table" (defArgs (top 16)) (defBody (top 16)) (defScope (top 16)) .none kV16 dc16 pm16 an16 cd16 ct16), sl16⟩)
    (c16 : PySem.W.codeIn K cd16 "is_table" = true)
    (k16 : PySem.W.keepIn K (.ref f16) = true)
    (a17 : PySem.W.nsIn K mainGlobals "check_table" = some (some (.ref f17)))
    (l17 : K.lookup f17 = some ⟨oc17, od17, .func (PySem.W.fnOf "check_table" "check_table" (defArgs (top 17)) (defBody (top 17)) (defScope (top 17)) .none kV17 dc17 pm17 an17 cd17 ct17), sl17⟩)
    (c17 : PySem.W.codeIn K cd17 "check_table" = true)
    (k17 : PySem.W.keepIn K (.ref f17) = true)
    (a18 : PySem.W.nsIn K mainGlobals "check_tables" = some (some (.ref f18)))
    (l18 : K.lookup f18 = some ⟨oc18, od18, .func (PySem.W.fnOf "check_tables" "check_tables" (defArgs (top 18)) (defBody (top 18)) (defScope (top 18)) .none kV18 dc18 pm18 an18 cd18 ct18), sl18⟩)
    (c18 : PySem.W.codeIn K cd18 "check_tables" = true)
    (k18 : PySem.W.keepIn K (.ref f18) = true)
    (a19 : PySem.W.nsIn K mainGlobals "plain_table" = some (some (.ref f19)))
    (l19 : K.lookup f19 = some ⟨oc19, od19, .func (PySem.W.fnOf "plain_table" "plain_table" (defArgs (top 19)) (defBody (top 19)) (defScope (top 19)) .none kV19 dc19 pm19 an19 cd19 ct19), sl19⟩)
    (c19 : PySem.W.codeIn K cd19 "plain_table" = true)
    (k19 : PySem.W.keepIn K (.ref f19) = true)
    (a20 : PySem.W.nsIn K mainGlobals "turned_table" = some (some (.ref f20)))
    (l20 : K.lookup f20 = some ⟨oc20, od20, .func (PySem.W.fnOf "turned_table" "turned_table" (defArgs (top 20)) (defBody (top 20)) (defScope (top 20)) .none kV20 dc20 pm20 an20 cd20 ct20), sl20⟩)
    (c20 : PySem.W.codeIn K cd20 "turned_table" = true)
    (k20 : PySem.W.keepIn K (.ref f20) = true)
    (a21 : PySem.W.nsIn K mainGlobals "table_times" = some (some (.ref f21)))
    (l21 : K.lookup f21 = some ⟨oc21, od21, .func (PySem.W.fnOf "table_times" "table_times" (defArgs (top 21)) (defBody (top 21)) (defScope (top 21)) .none kV21 dc21 pm21 an21 cd21 ct21), sl21⟩)
    (c21 : PySem.W.codeIn K cd21 "table_times" = true)
    (k21 : PySem.W.keepIn K (.ref f21) = true)
    (a22 : PySem.W.nsIn K mainGlobals "led" = some (some (.ref f22)))
    (l22 : K.lookup f22 = some ⟨oc22, od22, .func (PySem.W.fnOf "led" "led" (defArgs (top 22)) (defBody (top 22)) (defScope (top 22)) .none kV22 dc22 pm22 an22 cd22 ct22), sl22⟩)
    (c22 : PySem.W.codeIn K cd22 "led" = true)
    (k22 : PySem.W.keepIn K (.ref f22) = true)
    (a23 : PySem.W.nsIn K mainGlobals "flipped" = some (some (.ref f23)))
    (l23 : K.lookup f23 = some ⟨oc23, od23, .func (PySem.W.fnOf "flipped" "flipped" (defArgs (top 23)) (defBody (top 23)) (defScope (top 23)) .none kV23 dc23 pm23 an23 cd23 ct23), sl23⟩)
    (c23 : PySem.W.codeIn K cd23 "flipped" = true)
    (k23 : PySem.W.keepIn K (.ref f23) = true)
    (a24 : PySem.W.nsIn K mainGlobals "det" = some (some (.ref f24)))
    (l24 : K.lookup f24 = some ⟨oc24, od24, .func (PySem.W.fnOf "det" "det" (defArgs (top 24)) (defBody (top 24)) (defScope (top 24)) .none kV24 dc24 pm24 an24 cd24 ct24), sl24⟩)
    (c24 : PySem.W.codeIn K cd24 "det" = true)
    (k24 : PySem.W.keepIn K (.ref f24) = true)
    (a25 : PySem.W.nsIn K mainGlobals "trace" = some (some (.ref f25)))
    (l25 : K.lookup f25 = some ⟨oc25, od25, .func (PySem.W.fnOf "trace" "trace" (defArgs (top 25)) (defBody (top 25)) (defScope (top 25)) .none kV25 dc25 pm25 an25 cd25 ct25), sl25⟩)
    (c25 : PySem.W.codeIn K cd25 "trace" = true)
    (k25 : PySem.W.keepIn K (.ref f25) = true)
    (a26 : PySem.W.nsIn K mainGlobals "is_whole_turn" = some (some (.ref f26)))
    (l26 : K.lookup f26 = some ⟨oc26, od26, .func (PySem.W.fnOf "is_whole_turn" "is_whole_turn" (defArgs (top 26)) (defBody (top 26)) (defScope (top 26)) .none kV26 dc26 pm26 an26 cd26 ct26), sl26⟩)
    (c26 : PySem.W.codeIn K cd26 "is_whole_turn" = true)
    (k26 : PySem.W.keepIn K (.ref f26) = true)
    (a27 : PySem.W.nsIn K mainGlobals "undone" = some (some (.ref f27)))
    (l27 : K.lookup f27 = some ⟨oc27, od27, .func (PySem.W.fnOf "undone" "undone" (defArgs (top 27)) (defBody (top 27)) (defScope (top 27)) .none kV27 dc27 pm27 an27 cd27 ct27), sl27⟩)
    (c27 : PySem.W.codeIn K cd27 "undone" = true)
    (k27 : PySem.W.keepIn K (.ref f27) = true)
    (a28 : PySem.W.nsIn K mainGlobals "sign" = some (some (.ref f28)))
    (l28 : K.lookup f28 = some ⟨oc28, od28, .func (PySem.W.fnOf "sign" "sign" (defArgs (top 28)) (defBody (top 28)) (defScope (top 28)) .none kV28 dc28 pm28 an28 cd28 ct28), sl28⟩)
    (c28 : PySem.W.codeIn K cd28 "sign" = true)
    (k28 : PySem.W.keepIn K (.ref f28) = true)
    (a29 : PySem.W.nsIn K mainGlobals "minor" = some (some (.ref f29)))
    (l29 : K.lookup f29 = some ⟨oc29, od29, .func (PySem.W.fnOf "minor" "minor" (defArgs (top 29)) (defBody (top 29)) (defScope (top 29)) .none kV29 dc29 pm29 an29 cd29 ct29), sl29⟩)
    (c29 : PySem.W.codeIn K cd29 "minor" = true)
    (k29 : PySem.W.keepIn K (.ref f29) = true)
    (a30 : PySem.W.nsIn K mainGlobals "table_power" = some (some (.ref f30)))
    (l30 : K.lookup f30 = some ⟨oc30, od30, .func (PySem.W.fnOf "table_power" "table_power" (defArgs (top 30)) (defBody (top 30)) (defScope (top 30)) .none kV30 dc30 pm30 an30 cd30 ct30), sl30⟩)
    (c30 : PySem.W.codeIn K cd30 "table_power" = true)
    (k30 : PySem.W.keepIn K (.ref f30) = true)
    (a31 : PySem.W.nsIn K mainGlobals "repeats" = some (some (.ref f31)))
    (l31 : K.lookup f31 = some ⟨oc31, od31, .func (PySem.W.fnOf "repeats" "repeats" (defArgs (top 31)) (defBody (top 31)) (defScope (top 31)) .none kV31 dc31 pm31 an31 cd31 ct31), sl31⟩)
    (c31 : PySem.W.codeIn K cd31 "repeats" = true)
    (k31 : PySem.W.keepIn K (.ref f31) = true)
    (a32 : PySem.W.nsIn K mainGlobals "told_poly" = some (some (.ref f32)))
    (l32 : K.lookup f32 = some ⟨oc32, od32, .func (PySem.W.fnOf "told_poly" "told_poly" (defArgs (top 32)) (defBody (top 32)) (defScope (top 32)) .none kV32 dc32 pm32 an32 cd32 ct32), sl32⟩)
    (c32 : PySem.W.codeIn K cd32 "told_poly" = true)
    (k32 : PySem.W.keepIn K (.ref f32) = true)
    (a33 : PySem.W.nsIn K mainGlobals "is_wide" = some (some (.ref f33)))
    (l33 : K.lookup f33 = some ⟨oc33, od33, .func (PySem.W.fnOf "is_wide" "is_wide" (defArgs (top 33)) (defBody (top 33)) (defScope (top 33)) .none kV33 dc33 pm33 an33 cd33 ct33), sl33⟩)
    (c33 : PySem.W.codeIn K cd33 "is_wide" = true)
    (k33 : PySem.W.keepIn K (.ref f33) = true)
    (a35 : PySem.W.nsIn K mainGlobals "_law_state" = some (some (.ref f35)))
    (l35 : K.lookup f35 = some ⟨oc35, od35, .func (PySem.W.fnOf "_law_state" "_law_state" (defArgs (top 35)) (defBody (top 35)) (defScope (top 35)) .none kV35 dc35 pm35 an35 cd35 ct35), sl35⟩)
    (c35 : PySem.W.codeIn K cd35 "_law_state" = true)
    (k35 : PySem.W.keepIn K (.ref f35) = true)
    (a36 : PySem.W.nsIn K mainGlobals "_law_take" = some (some (.ref f36)))
    (l36 : K.lookup f36 = some ⟨oc36, od36, .func (PySem.W.fnOf "_law_take" "_law_take" (defArgs (top 36)) (defBody (top 36)) (defScope (top 36)) .none kV36 dc36 pm36 an36 cd36 ct36), sl36⟩)
    (c36 : PySem.W.codeIn K cd36 "_law_take" = true)
    (k36 : PySem.W.keepIn K (.ref f36) = true)
    (a37 : PySem.W.nsIn K mainGlobals "_law_says" = some (some (.ref f37)))
    (l37 : K.lookup f37 = some ⟨oc37, od37, .func (PySem.W.fnOf "_law_says" "_law_says" (defArgs (top 37)) (defBody (top 37)) (defScope (top 37)) .none kV37 dc37 pm37 an37 cd37 ct37), sl37⟩)
    (c37 : PySem.W.codeIn K cd37 "_law_says" = true)
    (k37 : PySem.W.keepIn K (.ref f37) = true)
    (a38 : PySem.W.nsIn K mainGlobals "_law_is_whole" = some (some (.ref f38)))
    (l38 : K.lookup f38 = some ⟨oc38, od38, .func (PySem.W.fnOf "_law_is_whole" "_law_is_whole" (defArgs (top 38)) (defBody (top 38)) (defScope (top 38)) .none kV38 dc38 pm38 an38 cd38 ct38), sl38⟩)
    (c38 : PySem.W.codeIn K cd38 "_law_is_whole" = true)
    (k38 : PySem.W.keepIn K (.ref f38) = true)
    (a39 : PySem.W.nsIn K mainGlobals "_law_same" = some (some (.ref f39)))
    (l39 : K.lookup f39 = some ⟨oc39, od39, .func (PySem.W.fnOf "_law_same" "_law_same" (defArgs (top 39)) (defBody (top 39)) (defScope (top 39)) .none kV39 dc39 pm39 an39 cd39 ct39), sl39⟩)
    (c39 : PySem.W.codeIn K cd39 "_law_same" = true)
    (k39 : PySem.W.keepIn K (.ref f39) = true)
    (a40 : PySem.W.nsIn K mainGlobals "_law_result" = some (some (.ref f40)))
    (l40 : K.lookup f40 = some ⟨oc40, od40, .func (PySem.W.fnOf "_law_result" "_law_result" (defArgs (top 40)) (defBody (top 40)) (defScope (top 40)) .none kV40 dc40 pm40 an40 cd40 ct40), sl40⟩)
    (c40 : PySem.W.codeIn K cd40 "_law_result" = true)
    (k40 : PySem.W.keepIn K (.ref f40) = true)
    (a41 : PySem.W.nsIn K mainGlobals "_law_sign_of" = some (some (.ref f41)))
    (l41 : K.lookup f41 = some ⟨oc41, od41, .func (PySem.W.fnOf "_law_sign_of" "_law_sign_of" (defArgs (top 41)) (defBody (top 41)) (defScope (top 41)) .none kV41 dc41 pm41 an41 cd41 ct41), sl41⟩)
    (c41 : PySem.W.codeIn K cd41 "_law_sign_of" = true)
    (k41 : PySem.W.keepIn K (.ref f41) = true)
    (a42 : PySem.W.nsIn K mainGlobals "_law_mo_plain" = some (some (.ref f42)))
    (l42 : K.lookup f42 = some ⟨oc42, od42, .func (PySem.W.fnOf "_law_mo_plain" "_law_mo_plain" (defArgs (top 42)) (defBody (top 42)) (defScope (top 42)) .none kV42 dc42 pm42 an42 cd42 ct42), sl42⟩)
    (c42 : PySem.W.codeIn K cd42 "_law_mo_plain" = true)
    (k42 : PySem.W.keepIn K (.ref f42) = true)
    (a43 : PySem.W.nsIn K mainGlobals "_law_mo_times" = some (some (.ref f43)))
    (l43 : K.lookup f43 = some ⟨oc43, od43, .func (PySem.W.fnOf "_law_mo_times" "_law_mo_times" (defArgs (top 43)) (defBody (top 43)) (defScope (top 43)) .none kV43 dc43 pm43 an43 cd43 ct43), sl43⟩)
    (c43 : PySem.W.codeIn K cd43 "_law_mo_times" = true)
    (k43 : PySem.W.keepIn K (.ref f43) = true)
    (a44 : PySem.W.nsIn K mainGlobals "_law_mo_flip" = some (some (.ref f44)))
    (l44 : K.lookup f44 = some ⟨oc44, od44, .func (PySem.W.fnOf "_law_mo_flip" "_law_mo_flip" (defArgs (top 44)) (defBody (top 44)) (defScope (top 44)) .none kV44 dc44 pm44 an44 cd44 ct44), sl44⟩)
    (c44 : PySem.W.codeIn K cd44 "_law_mo_flip" = true)
    (k44 : PySem.W.keepIn K (.ref f44) = true)
    (a45 : PySem.W.nsIn K mainGlobals "_law_mo_det" = some (some (.ref f45)))
    (l45 : K.lookup f45 = some ⟨oc45, od45, .func (PySem.W.fnOf "_law_mo_det" "_law_mo_det" (defArgs (top 45)) (defBody (top 45)) (defScope (top 45)) .none kV45 dc45 pm45 an45 cd45 ct45), sl45⟩)
    (c45 : PySem.W.codeIn K cd45 "_law_mo_det" = true)
    (k45 : PySem.W.keepIn K (.ref f45) = true)
    (a46 : PySem.W.nsIn K mainGlobals "_law_mo_led" = some (some (.ref f46)))
    (l46 : K.lookup f46 = some ⟨oc46, od46, .func (PySem.W.fnOf "_law_mo_led" "_law_mo_led" (defArgs (top 46)) (defBody (top 46)) (defScope (top 46)) .none kV46 dc46 pm46 an46 cd46 ct46), sl46⟩)
    (c46 : PySem.W.codeIn K cd46 "_law_mo_led" = true)
    (k46 : PySem.W.keepIn K (.ref f46) = true)
    (a47 : PySem.W.nsIn K mainGlobals "_law_mo_skew" = some (some (.ref f47)))
    (l47 : K.lookup f47 = some ⟨oc47, od47, .func (PySem.W.fnOf "_law_mo_skew" "_law_mo_skew" (defArgs (top 47)) (defBody (top 47)) (defScope (top 47)) .none kV47 dc47 pm47 an47 cd47 ct47), sl47⟩)
    (c47 : PySem.W.codeIn K cd47 "_law_mo_skew" = true)
    (k47 : PySem.W.keepIn K (.ref f47) = true)
    (a48 : PySem.W.nsIn K mainGlobals "_law_mo_is_line" = some (some (.ref f48)))
    (l48 : K.lookup f48 = some ⟨oc48, od48, .func (PySem.W.fnOf "_law_mo_is_line" "_law_mo_is_line" (defArgs (top 48)) (defBody (top 48)) (defScope (top 48)) .none kV48 dc48 pm48 an48 cd48 ct48), sl48⟩)
    (c48 : PySem.W.codeIn K cd48 "_law_mo_is_line" = true)
    (k48 : PySem.W.keepIn K (.ref f48) = true)
    (a49 : PySem.W.nsIn K mainGlobals "law" = some (some (.ref f49)))
    (l49 : K.lookup f49 = some ⟨oc49, od49, .func (PySem.W.fnOf "law" "law" (defArgs (top 49)) (defBody (top 49)) (defScope (top 49)) .none kV49 dc49 pm49 an49 cd49 ct49), sl49⟩)
    (c49 : PySem.W.codeIn K cd49 "law" = true)
    (k49 : PySem.W.keepIn K (.ref f49) = true)
    (am1 : PySem.W.findIn K (.ref C) "__add__" = some (some (.ref fm1)))
    (lm1 : K.lookup fm1 = some ⟨ocm1, odm1, .func (PySem.W.fnOf "__add__" "Ratio.__add__" (defArgs (inC 11 1)) (defBody (inC 11 1)) (defScope (inC 11 1)) .none kVm1 dcm1 pmm1 anm1 cdm1 ctm1), slm1⟩)
    (cm1 : PySem.W.codeIn K cdm1 "Ratio.__add__" = true)
    (km1 : PySem.W.keepIn K (.ref fm1) = true)
    (im1 : PySem.W.isFn K (.ref fm1) = true)
    (am3 : PySem.W.findIn K (.ref C) "__mul__" = some (some (.ref fm3)))
    (lm3 : K.lookup fm3 = some ⟨ocm3, odm3, .func (PySem.W.fnOf "__mul__" "Ratio.__mul__" (defArgs (inC 11 3)) (defBody (inC 11 3)) (defScope (inC 11 3)) .none kVm3 dcm3 pmm3 anm3 cdm3 ctm3), slm3⟩)
    (cm3 : PySem.W.codeIn K cdm3 "Ratio.__mul__" = true)
    (km3 : PySem.W.keepIn K (.ref fm3) = true)
    (im3 : PySem.W.isFn K (.ref fm3) = true)
    (am5 : PySem.W.findIn K (.ref C) "__eq__" = some (some (.ref fm5)))
    (lm5 : K.lookup fm5 = some ⟨ocm5, odm5, .func (PySem.W.fnOf "__eq__" "Ratio.__eq__" (defArgs (inC 11 5)) (defBody (inC 11 5)) (defScope (inC 11 5)) .none kVm5 dcm5 pmm5 anm5 cdm5 ctm5), slm5⟩)
    (cm5 : PySem.W.codeIn K cdm5 "Ratio.__eq__" = true)
    (km5 : PySem.W.keepIn K (.ref fm5) = true)
    (im5 : PySem.W.isFn K (.ref fm5) = true)
    (am9 : PySem.W.findIn K (.ref C) "times" = some (some (.ref fm9)))
    (lm9 : K.lookup fm9 = some ⟨ocm9, odm9, .func (PySem.W.fnOf "times" "Ratio.times" (defArgs (inC 11 9)) (defBody (inC 11 9)) (defScope (inC 11 9)) .none kVm9 dcm9 pmm9 anm9 cdm9 ctm9), slm9⟩)
    (cm9 : PySem.W.codeIn K cdm9 "Ratio.times" = true)
    (km9 : PySem.W.keepIn K (.ref fm9) = true)
    (im9 : PySem.W.isFn K (.ref fm9) = true)
    (aRI : PySem.W.findIn K (.ref R) "__init__" = some (some (.ref fRI)))
    (lRI : K.lookup fRI = some ⟨ocRI, odRI, .func (PySem.W.fnOf "__init__" "Refused.__init__" (defArgs (inC 4 0)) (defBody (inC 4 0)) (defScope (inC 4 0)) .none kVRI dcRI pmRI anRI cdRI ctRI), slRI⟩)
    (cRI : PySem.W.codeIn K cdRI "Refused.__init__" = true)
    (kRI : PySem.W.keepIn K (.ref fRI) = true)
    (tfR : PySem.W.typeIn K (.ref fRI) = some (.type "function"))
    (aI : PySem.W.findIn K (.ref C) "__init__" = some (some (.ref fI)))
    (lI : K.lookup fI = some ⟨ocI, odI, .func (PySem.W.fnOf "__init__" "Ratio.__init__" (defArgs (inC 11 0)) (defBody (inC 11 0)) (defScope (inC 11 0)) (.ref T) kVI dcI pmI anI cdI ctI), slI⟩)
    (cI : PySem.W.codeIn K cdI "Ratio.__init__" = true)
    (kI : PySem.W.keepIn K (.ref fI) = true)
    (iI : PySem.W.isFn K (.ref fI) = true)
    (lT : K.lookup T = some oT)
    (oTd : oT.data = .seq [itT].toArray nT)
    (rT : RelV (.int 1) itT)
    (sF : PySem.W.specialIn K (.ref Fa) "__getattribute__" = some (some (.builtin "type.__getattribute__")))
    (tF : PySem.W.typeIn K (.ref Fa) = some (.type "type"))
    (rF : PySem.W.readsIn K Fa (.type "type") = true)
    (vF : PySem.W.findCls K (.ref Fa) (.type "type") "__init__" = some (.val (.builtin "ValueError.__init__")))
    (xM : PySem.W.excIn K M [.type "ValueError", .type "Exception", .type "BaseException", .type "object"] "ValueError.__new__" = true)
    (kM : PySem.W.keepIn K (.ref M) = true)
    (bM : PySem.W.subIn K (.ref M) (.type "BaseException") = some true)
    (tM : PySem.W.typeIn K (.ref M) = some (.type "type"))
    (lR : K.lookup R = some (excClassObj nmR qR R NR bsR bmR true snR subR abR colR ddR k0R k1R k2R k3R k5R "ValueError.__new__"))
    (rbR : PySem.HandSPX.refsVE bmR = true)
    (saR : PySem.W.findIn K (.ref R) "__setattr__" = some (some (.builtin "object.__setattr__")))
    (bR : PySem.W.subIn K (.ref R) (.type "BaseException") = some true)
    (tR : PySem.W.typeIn K (.ref R) = some (.type "type"))
    (kR : PySem.W.keepIn K (.ref R) = true)
    (nR : PySem.W.findIn K (.ref R) "reason" = some none)
    (gaR : PySem.W.findIn K (.ref R) "__getattribute__" = some (some (.builtin "BaseException.__getattribute__")))
    (ggR : PySem.W.findIn K (.ref R) "__getattr__" = some none)
    (hdR : PySem.W.hasDictIn K R = true)
    (iM : PySem.W.isClsIn K M = true)
    (iR : PySem.W.isClsIn K R = true)
    (sMM : PySem.W.subIn K (.ref M) (.ref M) = some true)
    (sRM : PySem.W.subIn K (.ref R) (.ref M) = some false)
    (sRR : PySem.W.subIn K (.ref R) (.ref R) = some true)
    (nRM : R ≠ M)
    (pgC : PySem.W.plainGet K C Str.empty = true)
    (hdC : PySem.W.hasDictIn K C = true)
    (poC : PySem.W.plainOver K C = true)
    (saC : PySem.W.findIn K (.ref C) "__setattr__" = some (some (.builtin "object.__setattr__")))
    (haC : PySem.W.findIn K (.ref C) "__class__" = some (some (.builtin "object.__class__")))
    (hnC : PySem.W.specialIn K (.builtin "object.__class__") "__get__" = some (some (.builtin "getset_descriptor.__get__")))
    (htC : PySem.W.takesIn K (.builtin "object.__class__") = some true)
    (hmC : PySem.W.mroIn K C (.type "object") = some true)
    (pC : PySem.W.selfFirst K C = true)
    (anC : PySem.W.findIn K (.ref C) "n" = some none)
    (adC : PySem.W.findIn K (.ref C) "d" = some none)
    (tC : PySem.W.typeIn K (.ref C) = some (.type "type"))
    (iC : PySem.W.isClsIn K C = true)
    (kC : PySem.W.keepIn K (.ref C) = true)
    (mkC : PySem.W.makesIn K C = true)
    (s_NoneType : PySem.W.subIn K (.type "NoneType") (.ref C) = some false)
    (s_bool : PySem.W.subIn K (.type "bool") (.ref C) = some false)
    (s_int : PySem.W.subIn K (.type "int") (.ref C) = some false)
    (s_str : PySem.W.subIn K (.type "str") (.ref C) = some false)
    (s_tuple : PySem.W.subIn K (.type "tuple") (.ref C) = some false)
    (z_isinstance : PySem.W.nsIn K mainGlobals "isinstance" = some none)
    (z_int : PySem.W.nsIn K mainGlobals "int" = some none)
    (z_bool : PySem.W.nsIn K mainGlobals "bool" = some none)
    (z_abs : PySem.W.nsIn K mainGlobals "abs" = some none)
    (z_str : PySem.W.nsIn K mainGlobals "str" = some none)
    (z_tuple : PySem.W.nsIn K mainGlobals "tuple" = some none)
    (z_len : PySem.W.nsIn K mainGlobals "len" = some none)
    (z_all : PySem.W.nsIn K mainGlobals "all" = some none)
    (z_range : PySem.W.nsIn K mainGlobals "range" = some none)
    (z_sum : PySem.W.nsIn K mainGlobals "sum" = some none)
    (z_zip : PySem.W.nsIn K mainGlobals "zip" = some none)
    (z_enumerate : PySem.W.nsIn K mainGlobals "enumerate" = some none)
    (z_list : PySem.W.nsIn K mainGlobals "list" = some none)
    : ∃ fd : FuncData, (∀ (s : Shared) (v : Value), BindsTo s fd ⟨[v], []⟩ [("script", v)]) ∧ ∀ base : Heap, K.In base → base.Ns mainGlobals mg → FnOk l.prog w K mg base CX0 11 fa fd ["script"] (spLaw K) := by
  have e := hfa.symm.trans (PySem.W.mg_of X G a49)
  cases e
  have F6 := fun_mk (st := top 6) l6 c6 k6
  have b6 := F6.binds (ps := ["value"]) fun _ _ _ _ _ _ us hl => match us, hl with | [_], _ => rfl
  have g6 := PySem.W.mg_of X G a6
  have F7 := fun_mk (st := top 7) l7 c7 k7
  have b7 := F7.binds (ps := ["value", "low", "high"]) fun _ _ _ _ _ _ us hl => match us, hl with | [_, _, _], _ => rfl
  have g7 := PySem.W.mg_of X G a7
  have F8 := fun_mk (st := top 8) l8 c8 k8
  have b8 := F8.binds (ps := ["value"]) fun _ _ _ _ _ _ us hl => match us, hl with | [_], _ => rfl
  have g8 := PySem.W.mg_of X G a8
  have F9 := fun_mk (st := top 9) l9 c9 k9
  have b9 := F9.binds (ps := ["a", "b"]) fun _ _ _ _ _ _ us hl => match us, hl with | [_, _], _ => rfl
  have g9 := PySem.W.mg_of X G a9
  have F12 := fun_mk (st := top 12) l12 c12 k12
  have b12 := F12.binds (ps := ["value"]) fun _ _ _ _ _ _ us hl => match us, hl with | [_], _ => rfl
  have g12 := PySem.W.mg_of X G a12
  have F16 := fun_mk (st := top 16) l16 c16 k16
  have b16 := F16.binds (ps := ["value"]) fun _ _ _ _ _ _ us hl => match us, hl with | [_], _ => rfl
  have g16 := PySem.W.mg_of X G a16
  have F17 := fun_mk (st := top 17) l17 c17 k17
  have b17 := F17.binds (ps := ["value"]) fun _ _ _ _ _ _ us hl => match us, hl with | [_], _ => rfl
  have g17 := PySem.W.mg_of X G a17
  have F18 := fun_mk (st := top 18) l18 c18 k18
  have b18 := F18.binds (ps := ["values"]) fun _ _ _ _ _ _ us hl => match us, hl with | [_], _ => rfl
  have g18 := PySem.W.mg_of X G a18
  have F19 := fun_mk (st := top 19) l19 c19 k19
  have b19 := F19.binds (ps := ["wide"]) fun _ _ _ _ _ _ us hl => match us, hl with | [_], _ => rfl
  have g19 := PySem.W.mg_of X G a19
  have F20 := fun_mk (st := top 20) l20 c20 k20
  have b20 := F20.binds (ps := ["wide"]) fun _ _ _ _ _ _ us hl => match us, hl with | [_], _ => rfl
  have g20 := PySem.W.mg_of X G a20
  have F21 := fun_mk (st := top 21) l21 c21 k21
  have b21 := F21.binds (ps := ["one", "two"]) fun _ _ _ _ _ _ us hl => match us, hl with | [_, _], _ => rfl
  have g21 := PySem.W.mg_of X G a21
  have F22 := fun_mk (st := top 22) l22 c22 k22
  have b22 := F22.binds (ps := ["table", "x"]) fun _ _ _ _ _ _ us hl => match us, hl with | [_, _], _ => rfl
  have g22 := PySem.W.mg_of X G a22
  have F23 := fun_mk (st := top 23) l23 c23 k23
  have b23 := F23.binds (ps := ["table"]) fun _ _ _ _ _ _ us hl => match us, hl with | [_], _ => rfl
  have g23 := PySem.W.mg_of X G a23
  have F24 := fun_mk (st := top 24) l24 c24 k24
  have b24 := F24.binds (ps := ["table"]) fun _ _ _ _ _ _ us hl => match us, hl with | [_], _ => rfl
  have g24 := PySem.W.mg_of X G a24
  have F25 := fun_mk (st := top 25) l25 c25 k25
  have b25 := F25.binds (ps := ["table"]) fun _ _ _ _ _ _ us hl => match us, hl with | [_], _ => rfl
  have g25 := PySem.W.mg_of X G a25
  have F26 := fun_mk (st := top 26) l26 c26 k26
  have b26 := F26.binds (ps := ["value"]) fun _ _ _ _ _ _ us hl => match us, hl with | [_], _ => rfl
  have g26 := PySem.W.mg_of X G a26
  have F27 := fun_mk (st := top 27) l27 c27 k27
  have b27 := F27.binds (ps := ["table"]) fun _ _ _ _ _ _ us hl => match us, hl with | [_], _ => rfl
  have g27 := PySem.W.mg_of X G a27
  have F28 := fun_mk (st := top 28) l28 c28 k28
  have b28 := F28.binds (ps := ["k"]) fun _ _ _ _ _ _ us hl => match us, hl with | [_], _ => rfl
  have g28 := PySem.W.mg_of X G a28
  have F29 := fun_mk (st := top 29) l29 c29 k29
  have b29 := F29.binds (ps := ["table", "i", "k"]) fun _ _ _ _ _ _ us hl => match us, hl with | [_, _, _], _ => rfl
  have g29 := PySem.W.mg_of X G a29
  have F30 := fun_mk (st := top 30) l30 c30 k30
  have b30 := F30.binds (ps := ["table", "k"]) fun _ _ _ _ _ _ us hl => match us, hl with | [_, _], _ => rfl
  have g30 := PySem.W.mg_of X G a30
  have F31 := fun_mk (st := top 31) l31 c31 k31
  have b31 := F31.binds (ps := ["table"]) fun _ _ _ _ _ _ us hl => match us, hl with | [_], _ => rfl
  have g31 := PySem.W.mg_of X G a31
  have F32 := fun_mk (st := top 32) l32 c32 k32
  have b32 := F32.binds (ps := ["table"]) fun _ _ _ _ _ _ us hl => match us, hl with | [_], _ => rfl
  have g32 := PySem.W.mg_of X G a32
  have F33 := fun_mk (st := top 33) l33 c33 k33
  have b33 := F33.binds (ps := ["value"]) fun _ _ _ _ _ _ us hl => match us, hl with | [_], _ => rfl
  have g33 := PySem.W.mg_of X G a33
  have F35 := fun_mk (st := top 35) l35 c35 k35
  have b35 := F35.binds (ps := ["script"]) fun _ _ _ _ _ _ us hl => match us, hl with | [_], _ => rfl
  have g35 := PySem.W.mg_of X G a35
  have F36 := fun_mk (st := top 36) l36 c36 k36
  have b36 := F36.binds (ps := ["state", "m"]) fun _ _ _ _ _ _ us hl => match us, hl with | [_, _], _ => rfl
  have g36 := PySem.W.mg_of X G a36
  have F37 := fun_mk (st := top 37) l37 c37 k37
  have b37 := F37.binds (ps := ["value", "due"]) fun _ _ _ _ _ _ us hl => match us, hl with | [_, _], _ => rfl
  have g37 := PySem.W.mg_of X G a37
  have F38 := fun_mk (st := top 38) l38 c38 k38
  have b38 := F38.binds (ps := ["value"]) fun _ _ _ _ _ _ us hl => match us, hl with | [_], _ => rfl
  have g38 := PySem.W.mg_of X G a38
  have F39 := fun_mk (st := top 39) l39 c39 k39
  have b39 := F39.binds (ps := ["one", "two"]) fun _ _ _ _ _ _ us hl => match us, hl with | [_, _], _ => rfl
  have g39 := PySem.W.mg_of X G a39
  have F40 := fun_mk (st := top 40) l40 c40 k40
  have b40 := F40.binds (ps := ["act", "given"]) fun _ _ _ _ _ _ us hl => match us, hl with | [_, _], _ => rfl
  have g40 := PySem.W.mg_of X G a40
  have F41 := fun_mk (st := top 41) l41 c41 k41
  have b41 := F41.binds (ps := ["k"]) fun _ _ _ _ _ _ us hl => match us, hl with | [_], _ => rfl
  have g41 := PySem.W.mg_of X G a41
  have F42 := fun_mk (st := top 42) l42 c42 k42
  have b42 := F42.binds (ps := ["wide"]) fun _ _ _ _ _ _ us hl => match us, hl with | [_], _ => rfl
  have g42 := PySem.W.mg_of X G a42
  have F43 := fun_mk (st := top 43) l43 c43 k43
  have b43 := F43.binds (ps := ["one", "two"]) fun _ _ _ _ _ _ us hl => match us, hl with | [_, _], _ => rfl
  have g43 := PySem.W.mg_of X G a43
  have F44 := fun_mk (st := top 44) l44 c44 k44
  have b44 := F44.binds (ps := ["table"]) fun _ _ _ _ _ _ us hl => match us, hl with | [_], _ => rfl
  have g44 := PySem.W.mg_of X G a44
  have F45 := fun_mk (st := top 45) l45 c45 k45
  have b45 := F45.binds (ps := ["rows"]) fun _ _ _ _ _ _ us hl => match us, hl with | [_], _ => rfl
  have g45 := PySem.W.mg_of X G a45
  have F46 := fun_mk (st := top 46) l46 c46 k46
  have b46 := F46.binds (ps := ["table", "x"]) fun _ _ _ _ _ _ us hl => match us, hl with | [_, _], _ => rfl
  have g46 := PySem.W.mg_of X G a46
  have F47 := fun_mk (st := top 47) l47 c47 k47
  have b47 := F47.binds (ps := ["state", "wide"]) fun _ _ _ _ _ _ us hl => match us, hl with | [_, _], _ => rfl
  have g47 := PySem.W.mg_of X G a47
  have F48 := fun_mk (st := top 48) l48 c48 k48
  have b48 := F48.binds (ps := ["line", "wide"]) fun _ _ _ _ _ _ us hl => match us, hl with | [_, _], _ => rfl
  have g48 := PySem.W.mg_of X G a48
  have F49 := fun_mk (st := top 49) l49 c49 k49
  have Fm1 := fun_mk (st := inC 11 1) lm1 cm1 km1
  have bm1 := Fm1.binds (ps := ["self", "other"]) fun _ _ _ _ _ _ us hl => match us, hl with | [_, _], _ => rfl
  have Fm3 := fun_mk (st := inC 11 3) lm3 cm3 km3
  have bm3 := Fm3.binds (ps := ["self", "other"]) fun _ _ _ _ _ _ us hl => match us, hl with | [_, _], _ => rfl
  have Fm5 := fun_mk (st := inC 11 5) lm5 cm5 km5
  have bm5 := Fm5.binds (ps := ["self", "other"]) fun _ _ _ _ _ _ us hl => match us, hl with | [_, _], _ => rfl
  have Fm9 := fun_mk (st := inC 11 9) lm9 cm9 km9
  have bm9 := Fm9.binds (ps := ["self", "k"]) fun _ _ _ _ _ _ us hl => match us, hl with | [_, _], _ => rfl
  have FRI := fun_mk (st := inC 4 0) lRI cRI kRI
  have bRI := FRI.binds (ps := ["self", "reason"]) fun _ _ _ _ _ _ us hl => match us, hl with | [_, _], _ => rfl
  have m_isinstance := PySem.W.mg_none_of X G z_isinstance
  have m_int := PySem.W.mg_none_of X G z_int
  have m_bool := PySem.W.mg_none_of X G z_bool
  have m_abs := PySem.W.mg_none_of X G z_abs
  have m_str := PySem.W.mg_none_of X G z_str
  have m_tuple := PySem.W.mg_none_of X G z_tuple
  have m_len := PySem.W.mg_none_of X G z_len
  have m_all := PySem.W.mg_none_of X G z_all
  have m_range := PySem.W.mg_none_of X G z_range
  have m_sum := PySem.W.mg_none_of X G z_sum
  have m_zip := PySem.W.mg_none_of X G z_zip
  have m_enumerate := PySem.W.mg_none_of X G z_enumerate
  have m_list := PySem.W.mg_none_of X G z_list
  have g3 := PySem.W.mg_of X G gW
  have gMI := PySem.W.mg_of X G gI
  have FI := funD_mk (st := inC 11 0) lI cI kI lT oTd rT
  have bI0 : ∃ ds, Vals ([.int 1] : List V) ds ∧ Binds K _ ["self", "n", "d"] ds := FI.binds1 2 0 (by simp) rfl fun T kV doc pm an cdv ct us its h1 h2 => match us, its, h1, h2 with | [_, _], [_], _, _ => ⟨_, rfl, rfl⟩
  have bI1 : ∃ ds, Vals ([] : List V) ds ∧ Binds K _ ["self", "n", "d"] ds := FI.binds1 3 1 (by simp) rfl fun T kV doc pm an cdv ct us its h1 h2 => match us, its, h1, h2 with | [_, _, _], [_], _, _ => ⟨_, rfl, rfl⟩
  obtain ⟨dsI, vI, bI⟩ := bI0
  obtain ⟨ds1, v1, bI1⟩ := bI1
  cases v1
  have T4 : Cls4 K mg Fa M R C := ⟨PySem.W.mg_of X G gF, sF, tF, rF, vF, PySem.W.mg_of X G gM, xM, kM, bM, tM, PySem.W.mg_of X G gR, ⟨⟨_, _, _, _, _, _, _, _, _, _, _, _, _, _, _, lR, rbR⟩, saR, bR, tR, kR⟩, nR, ⟨gaR, ggR, bR, hdR⟩, exm_any bM iM tM sMM, exm_any bM iM tM sRM, exm_any bR iR tR sRR, PySem.W.mg_of X G gC, ⟨⟨pgC, hdC, poC, saC⟩, haC, hnC, htC, hmC, kit_me⟩, pC, anC, adC, kit_ty iC tC s_NoneType, kit_ty iC tC s_bool, kit_ty iC tC s_int, kit_ty iC tC s_str, kit_ty iC tC s_tuple, nRM⟩
  have MkC : Mk K C fI := ⟨mkC, aI, iI, kC⟩
  refine ⟨PySem.W.fnOf "law" "law" (defArgs (top 49)) (defBody (top 49)) (defScope (top 49)) .none kV49 dc49 pm49 an49 cd49 ct49, fun s v => .of_eq rfl, fun base _ _ => ?_⟩
  have O6 := ok_is_integer (P := l.prog) (w := w) (base := base) (mg := mg) F6 m_isinstance m_int m_bool
  have C6 : Cal l.prog w K mg base 1 "is_integer" (spWhole K) [] := ⟨f6, _, _, _, O6, g6, k6, b6, .nil⟩
  have O9 := ok_common (P := l.prog) (w := w) (base := base) (mg := mg) F9 m_abs
  have C9 : Cal l.prog w K mg base 1 "common" (spCommon) [] := ⟨f9, _, _, _, O9, g9, k9, b9, .nil⟩
  have ORI := ok_refused (P := l.prog) (w := w) (base := base) (mg := mg) FRI T4
  have OI := ok_ratio (P := l.prog) (w := w) (base := base) (mg := mg) FI T4 C6 C9 ORI aRI tfR bRI m_abs
  have mkR : MakX l.prog w K mg base (L2.CX l.prog w) 3 "Ratio" C (spInit (K := K) M R C) := ⟨PySem.W.mg_of X G gC, fI, _, _, OI, MkC, bI1⟩
  have mkD : MakD l.prog w K mg base (L2.CX l.prog w) 3 "Ratio" C (spInit (K := K) M R C) [.int 1] := ⟨PySem.W.mg_of X G gC, fI, _, _, dsI, OI, MkC, bI, vI⟩
  have O12 := ok_check (P := l.prog) (w := w) (base := base) (mg := mg) F12 T4 m_isinstance
  have C12 : CalX l.prog w K mg base 1 "check_ratio" (spChk K M C) [] := ⟨f12, _, _, _, O12, g12, k12, b12, .nil⟩
  have Om1 := ok_add (P := l.prog) (w := w) (base := base) (mg := mg) Fm1 T4 C12 mkR
  have M1 : MetX l.prog w K mg base (L2.CX l.prog w) 5 C "__add__" (spOp K M R C (fun p q p' q' => p * q' + p' * q) (fun p q p' q' => q * q')) := ⟨fm1, _, _, Om1, ⟨am1, im1, km1⟩, bm1⟩
  have Om3 := ok_mul (P := l.prog) (w := w) (base := base) (mg := mg) Fm3 T4 C12 mkR
  have M3 : MetX l.prog w K mg base (L2.CX l.prog w) 5 C "__mul__" (spOp K M R C (fun p q p' q' => p * p') (fun p q p' q' => q * q')) := ⟨fm3, _, _, Om3, ⟨am3, im3, km3⟩, bm3⟩
  have Om5 := ok_eq (P := l.prog) (w := w) (base := base) (mg := mg) Fm5 T4 m_isinstance
  have M5 : MetX l.prog w K mg base (CX0) 1 C "__eq__" (spEqR K C) := ⟨fm5, _, _, Om5, ⟨am5, im5, km5⟩, bm5⟩
  have Om9 := ok_times (P := l.prog) (w := w) (base := base) (mg := mg) Fm9 T4 mkR
  have M9 : MetX l.prog w K mg base (L2.CX l.prog w) 5 C "times" (spTimes C) := ⟨fm9, _, _, Om9, ⟨am9, im9, km9⟩, bm9⟩
  have O7 := ok_is_count (P := l.prog) (w := w) (base := base) (mg := mg) F7 C6
  have C7 : Cal l.prog w K mg base 2 "is_count" (spCount K) [] := ⟨f7, _, _, _, O7, g7, k7, b7, .nil⟩
  have O8 := ok_is_whole_row (P := l.prog) (w := w) (base := base) (mg := mg) F8 C6 m_isinstance m_tuple m_all
  have C8 : Cal l.prog w K mg base 2 "is_whole_row" (spRow K) [] := ⟨f8, _, _, _, O8, g8, k8, b8, .nil⟩
  have O16 := ok_is_table (P := l.prog) (w := w) (base := base) (mg := mg) F16 C8 m_isinstance m_tuple m_all m_len m_abs g3 gMI
  have C16 : Cal l.prog w K mg base 3 "is_table" (spTab K) [] := ⟨f16, _, _, _, O16, g16, k16, b16, .nil⟩
  have O17 := ok_check_table (P := l.prog) (w := w) (base := base) (mg := mg) F17 T4 C16
  have C17 : CalX l.prog w K mg base 4 "check_table" (spCT K M) [] := ⟨f17, _, _, _, O17, g17, k17, b17, .nil⟩
  have O18 := ok_check_tables (P := l.prog) (w := w) (base := base) (mg := mg) F18 T4 C16 m_isinstance m_tuple m_list m_len m_all
  have O19 := ok_plain (P := l.prog) (w := w) (base := base) (mg := mg) F19 m_tuple m_range m_int
  have C19 : Cal l.prog w K mg base 1 "plain_table" (spMk K plain) [] := ⟨f19, _, _, _, O19, g19, k19, b19, .nil⟩
  have O20 := ok_turned (P := l.prog) (w := w) (base := base) (mg := mg) F20 m_tuple m_range m_int
  have C20 : Cal l.prog w K mg base 1 "turned_table" (spMk K turned) [] := ⟨f20, _, _, _, O20, g20, k20, b20, .nil⟩
  have O21 := ok_times_t (P := l.prog) (w := w) (base := base) (mg := mg) F21 m_tuple m_range m_len m_sum
  have C21 : Cal l.prog w K mg base 1 "table_times" (spMul K) [] := ⟨f21, _, _, _, O21, g21, k21, b21, .nil⟩
  have O22 := FnOk.or (ok_ledI (P := l.prog) (w := w) (base := base) (mg := mg) F22 T4 m_isinstance m_zip m_tuple) (ok_ledR (P := l.prog) (w := w) (base := base) (mg := mg) F22 T4 m_isinstance m_zip m_tuple M1 M9)
  have C22 : CalX l.prog w K mg base 6 "led" (spLed K C) [] := ⟨f22, _, _, _, O22, g22, k22, b22, .nil⟩
  have O23 := ok_flipped (P := l.prog) (w := w) (base := base) (mg := mg) F23 m_tuple m_range m_len
  have C23 : Cal l.prog w K mg base 1 "flipped" (spFlip K) [] := ⟨f23, _, _, _, O23, g23, k23, b23, .nil⟩
  have O24 := ok_det (P := l.prog) (w := w) (base := base) (mg := mg) F24 m_len m_range
  have C24 : Cal l.prog w K mg base 1 "det" (spDet K) [] := ⟨f24, _, _, _, O24, g24, k24, b24, .nil⟩
  have O25 := ok_trace (P := l.prog) (w := w) (base := base) (mg := mg) F25 m_sum m_range m_len
  have C25 : Cal l.prog w K mg base 1 "trace" (spTra K) [] := ⟨f25, _, _, _, O25, g25, k25, b25, .nil⟩
  have O26 := ok_whole_turn (P := l.prog) (w := w) (base := base) (mg := mg) F26 C16 C24
  have C26 : Cal l.prog w K mg base 4 "is_whole_turn" (spWT K) [] := ⟨f26, _, _, _, O26, g26, k26, b26, .nil⟩
  have O28 := ok_sign (P := l.prog) (w := w) (base := base) (mg := mg) F28 
  have C28 : Cal l.prog w K mg base 1 "sign" (spSg) [] := ⟨f28, _, _, _, O28, g28, k28, b28, .nil⟩
  have O29 := ok_minor (P := l.prog) (w := w) (base := base) (mg := mg) F29 m_len m_enumerate m_tuple C24
  have C29 : Cal l.prog w K mg base 2 "minor" (spMin K) [] := ⟨f29, _, _, _, O29, g29, k29, b29, .nil⟩
  have O27 := ok_undone (P := l.prog) (w := w) (base := base) (mg := mg) F27 T4 C17 C24 C28 C29 ORI aRI tfR bRI m_len m_tuple m_range
  have C27 : CalX l.prog w K mg base 5 "undone" (spUnd K M R) [] := ⟨f27, _, _, _, O27, g27, k27, b27, .nil⟩
  have O30 := ok_power (P := l.prog) (w := w) (base := base) (mg := mg) F30 C19 C21 m_len m_range
  have C30 : Cal l.prog w K mg base 2 "table_power" (spPow K) [] := ⟨f30, _, _, _, O30, g30, k30, b30, .nil⟩
  have O31 := ok_repeats (P := l.prog) (w := w) (base := base) (mg := mg) F31 T4 C17 C19 C21 m_len m_range
  have C31 : CalX l.prog w K mg base 5 "repeats" (spRep K M) [] := ⟨f31, _, _, _, O31, g31, k31, b31, .nil⟩
  have O32 := ok_told_poly (P := l.prog) (w := w) (base := base) (mg := mg) F32 T4 C17 C24 C25 m_len m_range m_sum
  have C32 : CalX l.prog w K mg base 5 "told_poly" (spPoly K M) [] := ⟨f32, _, _, _, O32, g32, k32, b32, .nil⟩
  have O33 := ok_is_wide (P := l.prog) (w := w) (base := base) (mg := mg) F33 C7 g3
  have C33 : Cal l.prog w K mg base 3 "is_wide" (spWi K) [] := ⟨f33, _, _, _, O33, g33, k33, b33, .nil⟩
  have O35 := ok_law_state (P := l.prog) (w := w) (base := base) (mg := mg) F35 m_abs m_int
  have C35 : Cal l.prog w K mg base 1 "_law_state" (spState K) [] := ⟨f35, _, _, _, O35, g35, k35, b35, .nil⟩
  have O36 := ok_law_take (P := l.prog) (w := w) (base := base) (mg := mg) F36 m_int
  have C36 : Cal l.prog w K mg base 1 "_law_take" (spTake) [] := ⟨f36, _, _, _, O36, g36, k36, b36, .nil⟩
  have O37 := ok_law_says (P := l.prog) (w := w) (base := base) (mg := mg) F37 m_isinstance m_bool
  have C37 : Cal l.prog w K mg base 1 "_law_says" (spSays) [] := ⟨f37, _, _, _, O37, g37, k37, b37, .nil⟩
  have O38 := ok_law_is_whole (P := l.prog) (w := w) (base := base) (mg := mg) F38 m_isinstance m_int m_bool
  have C38 : Cal l.prog w K mg base 1 "_law_is_whole" (spWhole K) [] := ⟨f38, _, _, _, O38, g38, k38, b38, .nil⟩
  have O39 := ok_law_same (P := l.prog) (w := w) (base := base) (mg := mg) F39 C38 g39 k39 b39 m_isinstance m_tuple m_str m_len m_all m_range 2
  have C39 : Cal l.prog w K mg base 4 "_law_same" (spSame K 2) [] := ⟨f39, _, _, _, O39, g39, k39, b39, .nil⟩
  have O40 := ok_law_result (P := l.prog) (w := w) (base := base) (mg := mg) F40 T4 m_len
  have C40 : Cal l.prog w K mg base 9 "_law_result" (spRes l.prog w K mg base M R) [] := ⟨f40, _, _, _, O40, g40, k40, b40, .nil⟩
  have O41 := ok_law_sign_of (P := l.prog) (w := w) (base := base) (mg := mg) F41 m_int
  have C41 : Cal l.prog w K mg base 1 "_law_sign_of" (spSg) [] := ⟨f41, _, _, _, O41, g41, k41, b41, .nil⟩
  have O42 := ok_mo_plain (P := l.prog) (w := w) (base := base) (mg := mg) F42 m_tuple m_range m_int
  have C42 : Cal l.prog w K mg base 1 "_law_mo_plain" (spMk K plain) [] := ⟨f42, _, _, _, O42, g42, k42, b42, .nil⟩
  have O43 := ok_mo_times (P := l.prog) (w := w) (base := base) (mg := mg) F43 m_tuple m_range m_len m_sum
  have C43 : Cal l.prog w K mg base 1 "_law_mo_times" (spMul K) [] := ⟨f43, _, _, _, O43, g43, k43, b43, .nil⟩
  have O44 := ok_mo_flip (P := l.prog) (w := w) (base := base) (mg := mg) F44 m_tuple m_range m_len
  have C44 : Cal l.prog w K mg base 1 "_law_mo_flip" (spFlip K) [] := ⟨f44, _, _, _, O44, g44, k44, b44, .nil⟩
  have O45 := FnOk.ex3 (ok_mo_det (P := l.prog) (w := w) (base := base) (mg := mg) F45 C41 g45 k45 b45 m_len m_range)
  have C45 : Cal l.prog w K mg base 5 "_law_mo_det" (spLDs K) [] := ⟨f45, _, _, _, O45, g45, k45, b45, .nil⟩
  have O46 := ok_mo_led (P := l.prog) (w := w) (base := base) (mg := mg) F46 T4 m_zip m_tuple mkD M1 M3
  have C46 : CalX l.prog w K mg base 6 "_law_mo_led" (spMoLed K C) [] := ⟨f46, _, _, _, O46, g46, k46, b46, .nil⟩
  have O47 := ok_mo_skew (P := l.prog) (w := w) (base := base) (mg := mg) F47 C42 C43 C36 m_list m_range m_tuple
  have C47 : Cal l.prog w K mg base 2 "_law_mo_skew" (spSkew K) [] := ⟨f47, _, _, _, O47, g47, k47, b47, .nil⟩
  have O48 := ok_is_line (P := l.prog) (w := w) (base := base) (mg := mg) F48 C38 m_isinstance m_tuple m_all m_len m_abs
  have C48 : Cal l.prog w K mg base 2 "_law_mo_is_line" (spLine K) [] := ⟨f48, _, _, _, O48, g48, k48, b48, .nil⟩
  exact ok_law F49 m_tuple m_range m_sum m_zip m_len m_list m_isinstance m_all m_int g27 ⟨_, _, O27.mono (by decide), k27, b27⟩ g17 ⟨_, _, O17.mono (by decide), k17, b17⟩ g18 ⟨_, _, O18.mono (by decide), k18, b18⟩ g31 ⟨_, _, O31.mono (by decide), k31, b31⟩ g32 ⟨_, _, O32.mono (by decide), k32, b32⟩ (PySem.W.mg_of X G gC) C35 C36 C47 C43 C45 C39 C21 C24 C23 C44 C25 C19 C42 C20 C30 C16 C26 C37 C33 C48 C40 C27 C31 C32 C22 C46 M5 mkR T4
end

end K03
open PySem PySem.W PyProof.Rows
set_option maxHeartbeats 0 in
theorem PySem.Challenge.cw_motionroads_k03_whole_tables_holds : PySem.Challenge.rw_motionroads_k03_whole_tables.Holds := by
  w_on; o_law; k_head; (case hw => w_witness2)
  k_fill
  refine L2.walk_of (l := PySem.Challenge.rw_motionroads_k03_whole_tables) (n := 63) (k := 11) (x := "script") (CX := fun _ => L2.CX0) (sp := fun w => K03.spLaw _) rfl (by decide) rfl ⟨rfl, by decide, by decide⟩ (fun w h Y => PySem.W.kIn_of Y) ?F (fun _ _ a ns hl _ hS => ⟨a, ns, rfl, hS, hl, fun _ => rfl⟩) (fun _ _ _ _ _ h => h)
  case F =>
    intro w mg fa h KX G hmg
    refine' K03.all_mk KX G hmg ?gC ?gF ?gM ?gR ?gW ?gI ?a6 ?l6 ?c6 ?k6 ?a7 ?l7 ?c7 ?k7 ?a8 ?l8 ?c8 ?k8 ?a9 ?l9 ?c9 ?k9 ?a12 ?l12 ?c12 ?k12 ?a16 ?l16 ?c16 ?k16 ?a17 ?l17 ?c17 ?k17 ?a18 ?l18 ?c18 ?k18 ?a19 ?l19 ?c19 ?k19 ?a20 ?l20 ?c20 ?k20 ?a21 ?l21 ?c21 ?k21 ?a22 ?l22 ?c22 ?k22 ?a23 ?l23 ?c23 ?k23 ?a24 ?l24 ?c24 ?k24 ?a25 ?l25 ?c25 ?k25 ?a26 ?l26 ?c26 ?k26 ?a27 ?l27 ?c27 ?k27 ?a28 ?l28 ?c28 ?k28 ?a29 ?l29 ?c29 ?k29 ?a30 ?l30 ?c30 ?k30 ?a31 ?l31 ?c31 ?k31 ?a32 ?l32 ?c32 ?k32 ?a33 ?l33 ?c33 ?k33 ?a35 ?l35 ?c35 ?k35 ?a36 ?l36 ?c36 ?k36 ?a37 ?l37 ?c37 ?k37 ?a38 ?l38 ?c38 ?k38 ?a39 ?l39 ?c39 ?k39 ?a40 ?l40 ?c40 ?k40 ?a41 ?l41 ?c41 ?k41 ?a42 ?l42 ?c42 ?k42 ?a43 ?l43 ?c43 ?k43 ?a44 ?l44 ?c44 ?k44 ?a45 ?l45 ?c45 ?k45 ?a46 ?l46 ?c46 ?k46 ?a47 ?l47 ?c47 ?k47 ?a48 ?l48 ?c48 ?k48 ?a49 ?l49 ?c49 ?k49 ?am1 ?lm1 ?cm1 ?km1 ?im1 ?am3 ?lm3 ?cm3 ?km3 ?im3 ?am5 ?lm5 ?cm5 ?km5 ?im5 ?am9 ?lm9 ?cm9 ?km9 ?im9 ?aRI ?lRI ?cRI ?kRI ?tfR ?aI ?lI ?cI ?kI ?iI ?lT ?oTd ?rT ?sF ?tF ?rF ?vF ?xM ?kM ?bM ?tM ?lR ?rbR ?saR ?bR ?tR ?kR ?nR ?gaR ?ggR ?hdR ?iM ?iR ?sMM ?sRM ?sRR ?nRM ?pgC ?hdC ?poC ?saC ?haC ?hnC ?htC ?hmC ?pC ?anC ?adC ?tC ?iC ?kC ?mkC ?s_NoneType ?s_bool ?s_int ?s_str ?s_tuple ?z_isinstance ?z_int ?z_bool ?z_abs ?z_str ?z_tuple ?z_len ?z_all ?z_range ?z_sum ?z_zip ?z_enumerate ?z_list
    (case gC => k_is)
    (case gF => k_is)
    (case gM => k_is)
    (case gR => k_is)
    (case gW => k_is)
    (case gI => k_is)
    (case a6 => k_is)
    (case l6 => k_is)
    (case c6 => k_is)
    (case k6 => k_is)
    (case a7 => k_is)
    (case l7 => k_is)
    (case c7 => k_is)
    (case k7 => k_is)
    (case a8 => k_is)
    (case l8 => k_is)
    (case c8 => k_is)
    (case k8 => k_is)
    (case a9 => k_is)
    (case l9 => k_is)
    (case c9 => k_is)
    (case k9 => k_is)
    (case a12 => k_is)
    (case l12 => k_is)
    (case c12 => k_is)
    (case k12 => k_is)
    (case a16 => k_is)
    (case l16 => k_is)
    (case c16 => k_is)
    (case k16 => k_is)
    (case a17 => k_is)
    (case l17 => k_is)
    (case c17 => k_is)
    (case k17 => k_is)
    (case a18 => k_is)
    (case l18 => k_is)
    (case c18 => k_is)
    (case k18 => k_is)
    (case a19 => k_is)
    (case l19 => k_is)
    (case c19 => k_is)
    (case k19 => k_is)
    (case a20 => k_is)
    (case l20 => k_is)
    (case c20 => k_is)
    (case k20 => k_is)
    (case a21 => k_is)
    (case l21 => k_is)
    (case c21 => k_is)
    (case k21 => k_is)
    (case a22 => k_is)
    (case l22 => k_is)
    (case c22 => k_is)
    (case k22 => k_is)
    (case a23 => k_is)
    (case l23 => k_is)
    (case c23 => k_is)
    (case k23 => k_is)
    (case a24 => k_is)
    (case l24 => k_is)
    (case c24 => k_is)
    (case k24 => k_is)
    (case a25 => k_is)
    (case l25 => k_is)
    (case c25 => k_is)
    (case k25 => k_is)
    (case a26 => k_is)
    (case l26 => k_is)
    (case c26 => k_is)
    (case k26 => k_is)
    (case a27 => k_is)
    (case l27 => k_is)
    (case c27 => k_is)
    (case k27 => k_is)
    (case a28 => k_is)
    (case l28 => k_is)
    (case c28 => k_is)
    (case k28 => k_is)
    (case a29 => k_is)
    (case l29 => k_is)
    (case c29 => k_is)
    (case k29 => k_is)
    (case a30 => k_is)
    (case l30 => k_is)
    (case c30 => k_is)
    (case k30 => k_is)
    (case a31 => k_is)
    (case l31 => k_is)
    (case c31 => k_is)
    (case k31 => k_is)
    (case a32 => k_is)
    (case l32 => k_is)
    (case c32 => k_is)
    (case k32 => k_is)
    (case a33 => k_is)
    (case l33 => k_is)
    (case c33 => k_is)
    (case k33 => k_is)
    (case a35 => k_is)
    (case l35 => k_is)
    (case c35 => k_is)
    (case k35 => k_is)
    (case a36 => k_is)
    (case l36 => k_is)
    (case c36 => k_is)
    (case k36 => k_is)
    (case a37 => k_is)
    (case l37 => k_is)
    (case c37 => k_is)
    (case k37 => k_is)
    (case a38 => k_is)
    (case l38 => k_is)
    (case c38 => k_is)
    (case k38 => k_is)
    (case a39 => k_is)
    (case l39 => k_is)
    (case c39 => k_is)
    (case k39 => k_is)
    (case a40 => k_is)
    (case l40 => k_is)
    (case c40 => k_is)
    (case k40 => k_is)
    (case a41 => k_is)
    (case l41 => k_is)
    (case c41 => k_is)
    (case k41 => k_is)
    (case a42 => k_is)
    (case l42 => k_is)
    (case c42 => k_is)
    (case k42 => k_is)
    (case a43 => k_is)
    (case l43 => k_is)
    (case c43 => k_is)
    (case k43 => k_is)
    (case a44 => k_is)
    (case l44 => k_is)
    (case c44 => k_is)
    (case k44 => k_is)
    (case a45 => k_is)
    (case l45 => k_is)
    (case c45 => k_is)
    (case k45 => k_is)
    (case a46 => k_is)
    (case l46 => k_is)
    (case c46 => k_is)
    (case k46 => k_is)
    (case a47 => k_is)
    (case l47 => k_is)
    (case c47 => k_is)
    (case k47 => k_is)
    (case a48 => k_is)
    (case l48 => k_is)
    (case c48 => k_is)
    (case k48 => k_is)
    (case a49 => k_is)
    (case l49 => k_is)
    (case c49 => k_is)
    (case k49 => k_is)
    (case am1 => k_is)
    (case lm1 => k_is)
    (case cm1 => k_is)
    (case km1 => k_is)
    (case im1 => k_is)
    (case am3 => k_is)
    (case lm3 => k_is)
    (case cm3 => k_is)
    (case km3 => k_is)
    (case im3 => k_is)
    (case am5 => k_is)
    (case lm5 => k_is)
    (case cm5 => k_is)
    (case km5 => k_is)
    (case im5 => k_is)
    (case am9 => k_is)
    (case lm9 => k_is)
    (case cm9 => k_is)
    (case km9 => k_is)
    (case im9 => k_is)
    (case aRI => k_is)
    (case lRI => k_is)
    (case cRI => k_is)
    (case kRI => k_is)
    (case tfR => k_is)
    (case aI => k_is)
    (case lI => k_is)
    (case cI => k_is)
    (case kI => k_is)
    (case iI => k_is)
    (case lT => k_is)
    (case oTd => rfl)
    (case rT => exact ⟨_, rfl⟩)
    (case sF => k_is)
    (case tF => k_is)
    (case rF => k_is)
    (case vF => k_is)
    (case xM => k_exc)
    (case kM => k_is)
    (case bM => k_is)
    (case tM => k_is)
    (case lR => k_is)
    (case rbR => rfl)
    (case saR => k_is)
    (case bR => k_is)
    (case tR => k_is)
    (case kR => k_is)
    (case nR => k_is)
    (case gaR => k_is)
    (case ggR => k_is)
    (case hdR => k_is)
    (case iM => k_is)
    (case iR => k_is)
    (case sMM => k_is)
    (case sRM => k_is)
    (case sRR => k_is)
    (case nRM => decide)
    (case pgC => k_is)
    (case hdC => k_is)
    (case poC => k_is)
    (case saC => k_is)
    (case haC => k_is)
    (case hnC => k_is)
    (case htC => k_is)
    (case hmC => k_is)
    (case pC => k_is)
    (case anC => k_is)
    (case adC => k_is)
    (case tC => k_is)
    (case iC => k_is)
    (case kC => k_is)
    (case mkC => k_is)
    (case s_NoneType => k_is)
    (case s_bool => k_is)
    (case s_int => k_is)
    (case s_str => k_is)
    (case s_tuple => k_is)
    (case z_isinstance => k_is)
    (case z_int => k_is)
    (case z_bool => k_is)
    (case z_abs => k_is)
    (case z_str => k_is)
    (case z_tuple => k_is)
    (case z_len => k_is)
    (case z_all => k_is)
    (case z_range => k_is)
    (case z_sum => k_is)
    (case z_zip => k_is)
    (case z_enumerate => k_is)
    (case z_list => k_is)
