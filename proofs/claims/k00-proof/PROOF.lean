import PyProof.Rows.All
import Wide.All
import OpenK.AllK
import Wide.FinOn
import HandS.ForMost
import HandS.ForExc
import HandS.IsInst
import HandS.Codes
import HandS.Flow
import HandS.Style
import HandS.Walk
import HandS.Conv
import HandS.Zip
import HandS.TupAny
import HandS.TupMul
import HandS.CallLocal
import HandS.TryMany
import HandS.ExcOwn
import HandS.ExcInit
import HandS.Words
import HandS.WordsExc
import PySem.Challenge.RW_motionroads_k00_whole_integers_and_rows
set_option Elab.async false
set_option linter.all false
set_option maxRecDepth 100000
/-! Sx: readings without terms: what an expression, a test, a statement brings, goal by goal. -/
namespace Sx
abbrev Sl := L2.St
open PySem PySem.Spec PyProof.Rows L2

/-! ### slots by name -/
class inductive Var : List Str → Sl → Str → outParam V → outParam Nat → Prop
  | z {N : List Str} {σ : Sl} {x : Str} {v : V} : Var (x :: N) (some v :: σ) x v 0
  | s {N : List Str} {σ : Sl} {x y : Str} {v : V} {o : Option V} {i : Nat} (h : Var N σ x v i) : Var (y :: N) (o :: σ) x v (i + 1)
instance (priority := high) Var.iz {N : List Str} {σ : Sl} {x : Str} {v : V} : Var (x :: N) (some v :: σ) x v 0 := .z
instance (priority := low) Var.is {N : List Str} {σ : Sl} {x y : Str} {v : V} {o : Option V} {i : Nat} [h : Var N σ x v i] : Var (y :: N) (o :: σ) x v (i + 1) := .s h
theorem Var.n {N : List Str} {σ : Sl} {x : Str} {v : V} {i : Nat} (h : Var N σ x v i) : N[i]? = some x := by
  induction h with
  | z => rfl
  | s _ ih => simpa using ih
theorem Var.v {N : List Str} {σ : Sl} {x : Str} {v : V} {i : Nat} (h : Var N σ x v i) : σ[i]? = some (some v) := by
  induction h with
  | z => rfl
  | s _ ih => simpa using ih
class inductive Put : List Str → Sl → Str → V → outParam Sl → outParam Nat → Prop
  | z {N : List Str} {σ : Sl} {x : Str} {v : V} {o : Option V} : Put (x :: N) (o :: σ) x v (some v :: σ) 0
  | s {N : List Str} {σ σ' : Sl} {x y : Str} {v : V} {o : Option V} {i : Nat} (h : Put N σ x v σ' i) : Put (y :: N) (o :: σ) x v (o :: σ') (i + 1)
instance (priority := high) Put.iz {N : List Str} {σ : Sl} {x : Str} {v : V} {o : Option V} : Put (x :: N) (o :: σ) x v (some v :: σ) 0 := .z
instance (priority := low) Put.is {N : List Str} {σ σ' : Sl} {x y : Str} {v : V} {o : Option V} {i : Nat} [h : Put N σ x v σ' i] : Put (y :: N) (o :: σ) x v (o :: σ') (i + 1) := .s h
theorem Put.n {N : List Str} {σ σ' : Sl} {x : Str} {v : V} {i : Nat} (h : Put N σ x v σ' i) : N[i]? = some x := by
  induction h with
  | z => rfl
  | s _ ih => simpa using ih
theorem Put.v {N : List Str} {σ σ' : Sl} {x : Str} {v : V} {i : Nat} (h : Put N σ x v σ' i) : σ.set i (some v) = σ' := by
  induction h with
  | z => rfl
  | s _ ih => simp [ih]
class inductive Ix : List Str → outParam Nat → Str → Prop
  | z {N : List Str} {x : Str} : Ix (x :: N) 0 x
  | s {N : List Str} {x y : Str} {i : Nat} (h : Ix N i x) : Ix (y :: N) (i + 1) x
instance (priority := high) Ix.iz {N : List Str} {x : Str} : Ix (x :: N) 0 x := .z
instance (priority := low) Ix.is {N : List Str} {x y : Str} {i : Nat} [h : Ix N i x] : Ix (y :: N) (i + 1) x := .s h
theorem Ix.n {N : List Str} {i : Nat} {x : Str} (h : Ix N i x) : N[i]? = some x := by
  induction h with
  | z => rfl
  | s _ ih => simpa using ih
/-- what the built-in names hold -/
class BB (x : Str) (u : outParam Value) : Prop where
  h : bootBuiltins x = some u
instance : BB "abs" (.builtin "abs") := ⟨by decide +kernel⟩
instance : BB "len" (.builtin "len") := ⟨by decide +kernel⟩
instance : BB "isinstance" (.builtin "isinstance") := ⟨by decide +kernel⟩
instance : BB "all" (.builtin "all") := ⟨by decide +kernel⟩
instance : BB "any" (.builtin "any") := ⟨by decide +kernel⟩
instance : BB "sum" (.builtin "sum") := ⟨by decide +kernel⟩
instance : BB "sorted" (.builtin "sorted") := ⟨by decide +kernel⟩
instance : BB "max" (.builtin "max") := ⟨by decide +kernel⟩
instance : BB "min" (.builtin "min") := ⟨by decide +kernel⟩
instance : BB "int" (.type "int") := ⟨by decide +kernel⟩
instance : BB "str" (.type "str") := ⟨by decide +kernel⟩
instance : BB "bool" (.type "bool") := ⟨by decide +kernel⟩
instance : BB "list" (.type "list") := ⟨by decide +kernel⟩
instance : BB "tuple" (.type "tuple") := ⟨by decide +kernel⟩
instance : BB "dict" (.type "dict") := ⟨by decide +kernel⟩
instance : BB "set" (.type "set") := ⟨by decide +kernel⟩
/-- a def as its callers see it: no exception leaves it -/
structure Cal (P : Program) (w : World) (K : PySem.W.Frag) (mg : Str → Option Value) (base : Heap) (k : Nat) (x : Str) (sp : Sp) (dvs : List V) : Prop where
  ex : ∃ (f : Addr) (fd : FuncData) (ps : List Str) (ds : List Value), FnOk P w K mg base CX0 k f fd ps sp ∧ mg x = some (.ref f) ∧ PySem.W.keepIn K (.ref f) = true ∧ Binds K fd ps ds ∧ Vals dvs ds
/-- .. errors may leave it -/
structure CalX (P : Program) (w : World) (K : PySem.W.Frag) (mg : Str → Option Value) (base : Heap) (k : Nat) (x : Str) (sp : Sp) (dvs : List V) : Prop where
  ex : ∃ (f : Addr) (fd : FuncData) (ps : List Str) (ds : List Value), FnOk P w K mg base (L2.CX P w) k f fd ps sp ∧ mg x = some (.ref f) ∧ PySem.W.keepIn K (.ref f) = true ∧ Binds K fd ps ds ∧ Vals dvs ds

/-! ### what is wanted -/
section
variable (X : Cx)
def QE (e : Expr) (σ : Sl) (H : Hp) (Q : VK) : Prop := ∀ (pins : List (Addr × Obj)) (s : Shared), Inv X pins σ H s → wpAny (model X.prog X.w) X.A (eval e X.env) (EP X pins σ Q) X.xe s
def QT (e : Expr) (σ : Sl) (H : Hp) (Q : Bool → Hp → Prop) : Prop := ∀ (pins : List (Addr × Obj)) (s : Shared), Inv X pins σ H s → wpAny (model X.prog X.w) X.A (isTrue e X.env (eval e X.env)) (TP X pins σ Q) X.xe s
def QW (e : Expr) (σ : Sl) (H : Hp) (Q : Bool → Hp → Prop) : Prop := ∀ (wh : Sem Value) (pins : List (Addr × Obj)) (s : Shared), Inv X pins σ H s → wpAny (model X.prog X.w) X.A (isTrue e X.env wh) (TP X pins σ Q) X.xe s
def QA (es : List Expr) (σ : Sl) (H : Hp) (Q : List V → Hp → Prop) : Prop := ∀ (pos : Pos) (pins : List (Addr × Obj)) (s : Shared), Inv X pins σ H s → wpAny (model X.prog X.w) X.A (spliced (backTo pos (starEach es X.env))) (AP X pins σ Q) X.xe s
def QS (st : Stmt) (D : Ends) (σ : Sl) (H : Hp) : Prop := ∀ (pins : List (Addr × Obj)) (s : Shared), Inv X pins σ H s → wpAny (model X.prog X.w) X.A (exec st X.env) (SP X pins D) X.xe s
def QB (sts : List Stmt) (D : Ends) (σ : Sl) (H : Hp) : Prop := ∀ (pins : List (Addr × Obj)) (s : Shared), Inv X pins σ H s → wpAny (model X.prog X.w) X.A (execs sts X.env) (SP X pins D) X.xe s
def QG (tg : Expr) (v : V) (σ : Sl) (H : Hp) (Q : Sl → Hp → Prop) : Prop := ∀ (pins : List (Addr × Obj)) (s : Shared) (u : Value), Inv X pins σ H s → RelV v u → wpAny (model X.prog X.w) X.A (assign tg X.env u) (fun _ s' => ∃ σ' H', Inv X pins σ' H' s' ∧ Q σ' H') X.xe s
def QGs (tgs : List Expr) (vs : List V) (σ : Sl) (H : Hp) (Q : Sl → Hp → Prop) : Prop := ∀ (pins : List (Addr × Obj)) (s : Shared) (us : List Value), Inv X pins σ H s → Vals vs us → wpAny (model X.prog X.w) X.A (assignInOrder ((assignEach tgs X.env).map (·.2)) us) (fun _ s' => ∃ σ' H', Inv X pins σ' H' s' ∧ Q σ' H') X.xe s
/-- a two-place operation at two values -/
def OpW (f : Value → Value → Sem Value) (x y : V) (H : Hp) (Q : VK) : Prop := ∀ (pins : List (Addr × Obj)) (s : Shared) (σ : Sl) (v u : Value), Inv X pins σ H s → RelV x v → RelV y u → wpAny (model X.prog X.w) X.A (f v u) (EP X pins σ Q) X.xe s
def UnW (f : Value → Sem Value) (x : V) (H : Hp) (Q : VK) : Prop := ∀ (pins : List (Addr × Obj)) (s : Shared) (σ : Sl) (v : Value), Inv X pins σ H s → RelV x v → wpAny (model X.prog X.w) X.A (f v) (EP X pins σ Q) X.xe s
def CallW (f : Value) (xs : List V) (H : Hp) (Q : VK) : Prop := ∀ (pins : List (Addr × Obj)) (s : Shared) (σ : Sl) (us : List Value), Inv X pins σ H s → Vals xs us → wpAny (model X.prog X.w) X.A (call f us) (EP X pins σ Q) X.xe s
end

section
variable {X : Cx} {e a b c : Expr} {es : List Expr} {σ σ' : Sl} {H : Hp} {Q : VK} {pos p : Pos} {t : TE} {x : Str} {v : V}
theorem pe_sem : PE X e (QE X e) := ⟨fun pins s _ _ _ I h => h pins s I⟩
theorem pt_sem : PT X e (QT X e) := ⟨fun pins s _ _ _ I h => h pins s I⟩
theorem pw_sem : PW X e (QW X e) := ⟨fun wh pins s _ _ _ I h => h wh pins s I⟩
theorem pa_sem : PA X es (QA X es) := ⟨fun pos pins s _ _ _ I h => h pos pins s I⟩
theorem ps_sem {st : Stmt} : PS X st (QS X st) := ⟨fun pins s _ _ _ I h => h pins s I⟩
theorem pss_sem {sts : List Stmt} : PSs X sts (QB X sts) := ⟨fun pins s _ _ _ I h => h pins s I⟩
theorem pg_sem {tg : Expr} : PG X tg (QG X tg) := ⟨fun pins s _ _ _ u _ I r h => h pins s u I r⟩
theorem pgs_sem {tgs : List Expr} : PGs X tgs (QGs X tgs) := ⟨fun pins s _ _ _ us _ I r h => h pins s us I r⟩
theorem op_sem {f : Value → Value → Sem Value} : OpR X f (OpW X f) := fun pins s σ _ _ _ v u _ I rx ry h => h pins s σ v u I rx ry
theorem un_sem {f : Value → Sem Value} : UnR X f (UnW X f) := fun pins s σ _ _ v _ I rx h => h pins s σ v I rx
theorem call_sem {f : Value} : CallR X f (CallW X f) := fun pins s σ _ _ us _ I r h => h pins s σ us I r
theorem we_of (h : PE X e t) (q : t σ H Q) : QE X e σ H Q := fun pins s I => h.run pins s σ H Q I q
theorem wt_of {t : TT} {Q : Bool → Hp → Prop} (h : PT X e t) (q : t σ H Q) : QT X e σ H Q := fun pins s I => h.run pins s σ H Q I q
theorem ww_of {t : TT} {Q : Bool → Hp → Prop} (h : PW X e t) (q : t σ H Q) : QW X e σ H Q := fun wh pins s I => h.run wh pins s σ H Q I q
theorem wa_of {t : TA} {Q : List V → Hp → Prop} (h : PA X es t) (q : t σ H Q) : QA X es σ H Q := fun pos pins s I => h.run pos pins s σ H Q I q
theorem ws_of {st : Stmt} {t : TS} {D : Ends} (h : PS X st t) (q : t D σ H) : QS X st D σ H := fun pins s I => h.run pins s σ H D I q
theorem wss_of {sts : List Stmt} {t : TS} {D : Ends} (h : PSs X sts t) (q : t D σ H) : QB X sts D σ H := fun pins s I => h.run pins s σ H D I q
theorem wg_of {tg : Expr} {t : TG} {Q : Sl → Hp → Prop} (h : PG X tg t) (q : t v σ H Q) : QG X tg v σ H Q := fun pins s u I r => h.run pins s σ H v u Q I r q
theorem wgs_of {tgs : List Expr} {vs : List V} {t : TGs} {Q : Sl → Hp → Prop} (h : PGs X tgs t) (q : t vs σ H Q) : QGs X tgs vs σ H Q := fun pins s us I r => h.run pins s σ H vs us Q I r q
theorem opw_of {f : Value → Value → Sem Value} {r : R2} {y : V} (h : OpR X f r) (q : r v y H Q) : OpW X f v y H Q := fun pins s σ u w I rx ry => h pins s σ H v y u w Q I rx ry q
theorem unw_of {f : Value → Sem Value} {r : V → Hp → VK → Prop} (h : UnR X f r) (q : r v H Q) : UnW X f v H Q := fun pins s σ u I rx => h pins s σ H v u Q I rx q
theorem callw_of {f : Value} {r : List V → Hp → VK → Prop} {xs : List V} (h : CallR X f r) (q : r xs H Q) : CallW X f xs H Q := fun pins s σ us I rx => h pins s σ H xs us Q I rx q
/-! ### mono -/
theorem QE.imp {Q' : VK} (h : QE X e σ H Q) (k : ∀ v H', Q v H' → Q' v H') : QE X e σ H Q' := fun pins s I => thn (h pins s I) fun _ _ ⟨v, H', J, r, q⟩ => ⟨v, H', J, r, k v H' q⟩

/-! ### expressions -/
theorem we_name {N : List Str} {i : Nat} (h : Var N σ x v i) (hN : X.N = N) (hv : Vis X.env.scope x) (q : Q v H) (hd : (x == ("__debug__" : Str)) = false := by decide) (hcd : (x == ("__classdict__" : Str)) = false := by decide) : QE X (.Name x pos) σ H Q :=
  we_of (pe_var (i := i) (hN ▸ h.n) hv hd hcd) ⟨v, h.v, q⟩
theorem we_int {i : Int} {j} (q : Q (.int i) H) : QE X (.Constant (.int i) j pos) σ H Q := we_of pe_int q
theorem we_bl {i : Bool} {j} (q : Q (.bl i) H) : QE X (.Constant (.bool i) j pos) σ H Q := we_of pe_bl q
theorem we_non {j} (q : Q .non H) : QE X (.Constant .none j pos) σ H Q := we_of pe_non q
theorem we_str {z : Str} {j} (q : Q (.str z) H) : QE X (.Constant (.str z) j pos) σ H Q := we_of pe_str q
theorem we_bin {op : Operator} (q : QE X a σ H fun x H1 => QE X b σ H1 fun y H2 => OpW X (binaryOp op) x y H2 Q) : QE X (.BinOp a op b pos) σ H Q := we_of (pe_op op_sem pe_sem pe_sem) q
theorem we_un {op : UnaryOp} (q : QE X a σ H fun x H1 => UnW X (unaryOp op) x H1 Q) : QE X (.UnaryOp op a pos) σ H Q := we_of (pe_un un_sem pe_sem) q
theorem we_not (q : QE X a σ H fun x H1 => ∃ c, x = .bl c ∧ Q (.bl (!c)) H1) : QE X (.UnaryOp .Not a pos) σ H Q := we_of (pe_not pe_sem) q
theorem we_cmp {op : CmpOp} (hm : behindInMarks op b = false) (q : QE X a σ H fun x H1 => QE X b σ H1 fun y H2 => OpW X (compareOp op) x y H2 Q) : QE X (.Compare a [op] [b] pos) σ H Q := we_of (pe_cmpR op_sem pe_sem pe_sem hm) q
theorem we_chain {op op' : CmpOp} (hm : lastMarks [op, op'] [b, c] = false)
    (q : QE X a σ H fun x H1 => QE X b σ H1 fun y H2 => OpW X (compareOp op) x y H2 fun z H3 => ∃ k, z = .bl k ∧ (if k = true then QE X c σ H3 fun w H4 => OpW X (compareOp op') y w H4 Q else Q (.bl false) H3)) :
    QE X (.Compare a [op, op'] [b, c] pos) σ H Q := we_of (pe_chain op_sem op_sem pe_sem pe_sem pe_sem hm) q
theorem we_and {rest : List Expr} (q : QE X a σ H fun x H1 => ∃ c, x = .bl c ∧ if c = true then QE X (.BoolOp .And (b :: rest) pos) σ H1 Q else Q (.bl false) H1) : QE X (.BoolOp .And (a :: b :: rest) pos) σ H Q := we_of (pe_and pe_sem pe_sem) q
theorem we_or {rest : List Expr} (q : QE X a σ H fun x H1 => ∃ c, x = .bl c ∧ if c = true then Q (.bl true) H1 else QE X (.BoolOp .Or (b :: rest) pos) σ H1 Q) : QE X (.BoolOp .Or (a :: b :: rest) pos) σ H Q := we_of (pe_or pe_sem pe_sem) q
theorem we_one {op : BoolOp} (q : QE X a σ H Q) : QE X (.BoolOp op [a] pos) σ H Q := we_of (pe_one pe_sem) q
theorem we_ifx (q : QT X c σ H fun k H1 => if k = true then QE X a σ H1 Q else QE X b σ H1 Q) : QE X (.IfExp c a b pos) σ H Q := we_of (pe_ifExp pt_sem pe_sem pe_sem) q
theorem same_new {H : Hp} {q : Addr} {o : HO} (h : H q = none) : Same H (upd H q o) := fun b u e => by rw [upd_ne (ne_of_none e h)]; exact e
theorem we_tup {k : Nat} (q : QA X es σ H fun xs H1 => xs.length ≤ sizeLine ∧ ∀ p H2, H1 p = none → Same H1 H2 → H2 p = some (.tup xs) → Q (.ref p) H2) : QE X (.Tuple es k pos) σ H Q :=
  we_of (pe_tup pa_sem) (fun pos pins s I => thn (q pos pins s I) fun us s' ⟨vs, H', J, r, hl, z⟩ => ⟨vs, H', J, r, hl, fun p hp => z p _ hp (same_new hp) upd_same⟩)
theorem we_lst (q : QA X es σ H fun xs H1 => xs.length ≤ sizeLine ∧ ∀ p H2, H1 p = none → Same H1 H2 → H2 p = some (.lst xs) → Q (.ref p) H2) : QE X (.List es pos) σ H Q :=
  we_of (pe_lst pa_sem) (fun pos pins s I => thn (q pos pins s I) fun us s' ⟨vs, H', J, r, hl, z⟩ => ⟨vs, H', J, r, hl, fun p hp => z p _ hp (same_new hp) upd_same⟩)
theorem wa_nil {Q : List V → Hp → Prop} (q : Q [] H) : QA X [] σ H Q := wa_of pa_nil q
theorem wa_cons {Q : List V → Hp → Prop} (hs : starEach (e :: es) X.env = (false, eval e X.env) :: starEach es X.env) (q : QE X e σ H fun x H1 => QA X es σ H1 fun xs H2 => Q (x :: xs) H2) : QA X (e :: es) σ H Q := wa_of (pa_cons pe_sem pa_sem hs) q
theorem we_call {j k : Nat} {sp : Sp} {dvs : List V} (c : Cal X.prog X.w X.K X.mg X.base k x sp dvs) (hr : Room j X.A) (hk : k ≤ j) (hg : Gl X x)
    (q : QA X (e :: es) σ H fun vs H1 => sp (vs ++ dvs) H1 Q L2.E0)
    (hdb : (x == ("__debug__" : Str)) = false := by decide) (he : starEach (e :: es) X.env = (false, eval e X.env) :: starEach es X.env := by rfl) (hpl : (backTo pos (starEach es X.env)).any (·.1) = false := by rfl) :
    QE X (.Call (.Name x p) (e :: es) [] pos) σ H Q := by
  obtain ⟨f, fd, ps, ds, F, hm, kp, b, d⟩ := c.ex
  exact we_of (pe_call F (hr.mono hk) hg hm kp b d pass0 pa_sem hdb he hpl) q
theorem we_bltn {id : String} (hm : X.mg x = none) (hg : Gl X x) (hv : BB x (.builtin id)) (q : QA X (e :: es) σ H fun vs H1 => CallW X (.builtin id) vs H1 Q) (hn : x ≠ "__name__" := by decide) (hdb : (x == ("__debug__" : Str)) = false := by decide)
    (he : starEach (e :: es) X.env = (false, eval e X.env) :: starEach es X.env := by rfl) (hpl : (backTo pos (starEach es X.env)).any (·.1) = false := by rfl) : QE X (.Call (.Name x p) (e :: es) [] pos) σ H Q :=
  we_of (pe_callB call_sem hg hm hv.h pa_sem hn hdb he hpl) q
theorem we_type {T : String} (hm : X.mg x = none) (hg : Gl X x) (hv : BB x (.type T)) (q : QA X (e :: es) σ H fun vs H1 => CallW X (.type T) vs H1 Q) (hn : x ≠ "__name__" := by decide) (hdb : (x == ("__debug__" : Str)) = false := by decide)
    (he : starEach (e :: es) X.env = (false, eval e X.env) :: starEach es X.env := by rfl) (hpl : (backTo pos (starEach es X.env)).any (·.1) = false := by rfl) : QE X (.Call (.Name x p) (e :: es) [] pos) σ H Q :=
  we_of (pe_callTy call_sem hg hm hv.h pa_sem hn hdb he hpl) q
/-- a built-in's name as a value (isinstance's second argument) -/
theorem we_bval {u : Value} {v : V} (hm : X.mg x = none) (hg : Gl X x) (hv : BB x u) (r : RelV v u) (q : Q v H) (hn : x ≠ "__name__" := by decide) (hdb : (x == ("__debug__" : Str)) = false := by decide) : QE X (.Name x pos) σ H Q :=
  we_of (pe_bltn hg hm hv.h r hn hdb) q
theorem we_tyval {T : String} (hm : X.mg x = none) (hg : Gl X x) (hv : BB x (.type T)) (q : Q (.ty T) H) (hn : x ≠ "__name__" := by decide) (hdb : (x == ("__debug__" : Str)) = false := by decide) : QE X (.Name x pos) σ H Q :=
  we_of (pe_bltn hg hm hv.h (v := .ty T) rfl hn hdb) q
theorem we_gval {u : Value} {v : V} (hm : X.mg x = some u) (hg : Gl X x) (r : RelV v u) (q : Q v H) (hdb : (x == ("__debug__" : Str)) = false := by decide) : QE X (.Name x pos) σ H Q :=
  we_of (C8.pe_gc hg ⟨u, hm, r⟩ hdb) q

/-! ### tests -/
theorem wt_cmp {op : CmpOp} {Q : Bool → Hp → Prop} (hm : behindInMarks op b = false) (q : QE X a σ H fun x H1 => QE X b σ H1 fun y H2 => OpW X (compareOp op) x y H2 fun z H3 => ∃ k, z = .bl k ∧ Q k H3) : QT X (.Compare a [op] [b] pos) σ H Q := wt_of (pt_cmpR op_sem pe_sem pe_sem hm) q
theorem wt_chain {op op' : CmpOp} {Q : Bool → Hp → Prop} (hm : lastMarks [op, op'] [b, c] = false)
    (q : QE X a σ H fun x H1 => QE X b σ H1 fun y H2 => OpW X (compareOp op) x y H2 fun z H3 => ∃ k, z = .bl k ∧ (if k = true then QE X c σ H3 fun w H4 => OpW X (compareOp op') y w H4 fun z H5 => ∃ k, z = .bl k ∧ Q k H5 else ∃ k, V.bl false = .bl k ∧ Q k H3)) :
    QT X (.Compare a [op, op'] [b, c] pos) σ H Q := wt_of (pt_chain op_sem op_sem pe_sem pe_sem pe_sem hm) q
theorem wt_not {Q : Bool → Hp → Prop} (q : QT X a σ H fun k H1 => Q (!k) H1) : QT X (.UnaryOp .Not a pos) σ H Q := wt_of (pt_not pt_sem) q
theorem wt_boolop {op : BoolOp} {Q : Bool → Hp → Prop} (q : QW X (.BoolOp op es pos) σ H Q) : QT X (.BoolOp op es pos) σ H Q := wt_of pw_sem.pt q
theorem ww_and {rest : List Expr} {Q : Bool → Hp → Prop} (q : QT X a σ H fun k H1 => if k = true then QW X (.BoolOp .And (b :: rest) pos) σ H1 Q else Q false H1) : QW X (.BoolOp .And (a :: b :: rest) pos) σ H Q := ww_of (pw_and pt_sem pw_sem) q
theorem ww_or {rest : List Expr} {Q : Bool → Hp → Prop} (q : QT X a σ H fun k H1 => if k = true then Q true H1 else QW X (.BoolOp .Or (b :: rest) pos) σ H1 Q) : QW X (.BoolOp .Or (a :: b :: rest) pos) σ H Q := ww_of (pw_or pt_sem pw_sem) q
theorem ww_and1 {Q : Bool → Hp → Prop} (q : QT X a σ H Q) : QW X (.BoolOp .And [a] pos) σ H Q := ww_of (pw_and1 pt_sem) q
theorem ww_or1 {Q : Bool → Hp → Prop} (q : QT X a σ H Q) : QW X (.BoolOp .Or [a] pos) σ H Q := ww_of (pw_or1 pt_sem) q
theorem wt_val {Q : Bool → Hp → Prop} (he : ∀ whole, isTrue e X.env whole = (do let v ← whole; standAt e.pos; holding [v] (truthy v))) (q : QE X e σ H fun x H1 => ∃ k, x = .bl k ∧ Q k H1) : QT X e σ H Q := wt_of (pt_val pe_sem he) q

/-! ### operations at values -/
theorem opw_add {i j : Int} (q : Q (.int (i + j)) H) : OpW X (binaryOp .Add) (.int i) (.int j) H Q := opw_of op_add ⟨i, j, rfl, rfl, q⟩
theorem opw_sub {i j : Int} (q : Q (.int (i - j)) H) : OpW X (binaryOp .Sub) (.int i) (.int j) H Q := opw_of op_sub ⟨i, j, rfl, rfl, q⟩
theorem opw_mul {i j : Int} (hc : CMul i j) (q : Q (.int (i * j)) H) : OpW X (binaryOp .Mult) (.int i) (.int j) H Q := opw_of op_mul ⟨i, j, rfl, rfl, hc, q⟩
theorem opw_div {i j : Int} (hc : CDiv i j) (q : Q (.int (i / j)) H) : OpW X (binaryOp .FloorDiv) (.int i) (.int j) H Q := opw_of op_fdiv ⟨i, j, rfl, rfl, hc, q⟩
theorem opw_divN {i j : Int} (hc : CDivN i j) (q : Q (.int (i.fdiv j)) H) : OpW X (binaryOp .FloorDiv) (.int i) (.int j) H Q := opw_of op_fdivN ⟨i, j, rfl, rfl, hc, q⟩
theorem opw_mod {i j : Int} (hc : 0 < j) (q : Q (.int (i % j)) H) : OpW X (binaryOp .Mod) (.int i) (.int j) H Q := opw_of op_mod ⟨i, j, rfl, rfl, hc, q⟩
theorem opw_modN {i j : Int} (hc : j ≠ 0) (q : Q (.int (i.fmod j)) H) : OpW X (binaryOp .Mod) (.int i) (.int j) H Q := opw_of op_modN ⟨i, j, rfl, rfl, hc, q⟩
theorem unw_neg {i : Int} (q : Q (.int (-i)) H) : UnW X (unaryOp .USub) (.int i) H Q := unw_of un_neg ⟨i, rfl, q⟩
theorem opw_lt {i j : Int} (q : Q (.bl (decide (i < j))) H) : OpW X (compareOp .Lt) (.int i) (.int j) H Q := opw_of op_lt ⟨i, j, rfl, rfl, q⟩
theorem opw_le {i j : Int} (q : Q (.bl (decide (i ≤ j))) H) : OpW X (compareOp .LtE) (.int i) (.int j) H Q := opw_of op_le ⟨i, j, rfl, rfl, q⟩
theorem opw_gt {i j : Int} (q : Q (.bl (decide (j < i))) H) : OpW X (compareOp .Gt) (.int i) (.int j) H Q := opw_of op_gt ⟨i, j, rfl, rfl, q⟩
theorem opw_ge {i j : Int} (q : Q (.bl (decide (j ≤ i))) H) : OpW X (compareOp .GtE) (.int i) (.int j) H Q := opw_of op_ge ⟨i, j, rfl, rfl, q⟩
theorem opw_eq {i j : Int} (q : Q (.bl (decide (i = j))) H) : OpW X (compareOp .Eq) (.int i) (.int j) H Q := opw_of op_eq ⟨rfl, by rw [show decide (V.int i = V.int j) = decide (i = j) from by simp]; exact q⟩
theorem opw_ne {i j : Int} (q : Q (.bl (!decide (i = j))) H) : OpW X (compareOp .NotEq) (.int i) (.int j) H Q := opw_of op_ne ⟨rfl, by rw [show decide (V.int i = V.int j) = decide (i = j) from by simp]; exact q⟩
theorem opw_eqb {i j : Bool} (q : Q (.bl (decide (i = j))) H) : OpW X (compareOp .Eq) (.bl i) (.bl j) H Q := opw_of op_eq ⟨rfl, by rw [show decide (V.bl i = V.bl j) = decide (i = j) from by simp]; exact q⟩
theorem opw_neb {i j : Bool} (q : Q (.bl (!decide (i = j))) H) : OpW X (compareOp .NotEq) (.bl i) (.bl j) H Q := opw_of op_ne ⟨rfl, by rw [show decide (V.bl i = V.bl j) = decide (i = j) from by simp]; exact q⟩
theorem opw_eqs {i j : Str} (q : Q (.bl (decide (i = j))) H) : OpW X (compareOp .Eq) (.str i) (.str j) H Q := opw_of op_eq ⟨rfl, by rw [show decide (V.str i = V.str j) = decide (i = j) from by simp]; exact q⟩
theorem opw_nes {i j : Str} (q : Q (.bl (!decide (i = j))) H) : OpW X (compareOp .NotEq) (.str i) (.str j) H Q := opw_of op_ne ⟨rfl, by rw [show decide (V.str i = V.str j) = decide (i = j) from by simp]; exact q⟩
theorem callw_abs {i : Int} (q : Q (.int (if i < 0 then -i else i)) H) : CallW X (.builtin "abs") [.int i] H Q := callw_of call_abs ⟨i, rfl, q⟩
theorem callw_int {i : Int} (q : Q (.int i) H) : CallW X (.type "int") [.int i] H Q := callw_of call_int1 (.inl ⟨i, rfl, q⟩)
theorem callw_intb {k : Bool} (q : Q (.int (if k then 1 else 0)) H) : CallW X (.type "int") [.bl k] H Q := callw_of call_int1 (.inr ⟨k, rfl, q⟩)
end

/-! ### statements -/
section
variable {X : Cx} {e c : Expr} {st : Stmt} {sts rest body orelse : List Stmt} {σ σ' : Sl} {H : Hp} {D : Ends} {pos p : Pos} {x : Str} {v : V}
theorem wss_nil (q : D.nx σ H) : QB X [] D σ H := wss_of pss_nil q
theorem wss_cons (q : QS X st { D with nx := fun σ' H' => QB X rest D σ' H' } σ H) : QB X (st :: rest) D σ H := wss_of (pss_cons ps_sem pss_sem) q
theorem wss_one (q : QS X st D σ H) : QB X [st] D σ H := wss_of (pss_one ps_sem) q
theorem ws_ret (q : QE X e σ H D.rt) : QS X (.Return (some e) pos) D σ H := ws_of (ps_ret pe_sem) q
theorem ws_retN (q : D.rt .non H) : QS X (.Return none pos) D σ H := ws_of ps_retN q
theorem ws_if (q : QT X c σ H fun k H1 => if k = true then QB X body D σ H1 else QB X orelse D σ H1) : QS X (.If c body orelse pos) D σ H := ws_of (ps_if pt_sem pss_sem pss_sem) q
theorem ws_expr (hs : swapsWith e none pos.line X.env = pure false) (q : QE X e σ H fun _ H1 => D.nx σ H1) : QS X (.Expr e pos) D σ H := ws_of (ps_expr pe_sem hs) q
theorem wg_name {N : List Str} {i : Nat} {Q : Sl → Hp → Prop} (h : Put N σ x v σ' i) (hN : X.N = N) (nd : X.N.Nodup) (hx : Loc X.env.scope x) (hf : X.fn x = true ∨ X.env.scope.names.lookup x = some .local) (q : Q σ' H) : QG X (.Name x pos) v σ H Q :=
  wg_of (pg_name (i := i) nd (hN ▸ h.n) hx hf) (by show Q (σ.set i (some v)) H; rw [h.v]; exact q)
theorem wgs_nil {Q : Sl → Hp → Prop} (q : Q σ H) : QGs X [] [] σ H Q := wgs_of pgs_nil ⟨rfl, q⟩
theorem wgs_cons {es : List Expr} {vs : List V} {Q : Sl → Hp → Prop} (hs : (assignEach (e :: es) X.env).map (·.2) = assign e X.env :: (assignEach es X.env).map (·.2)) (q : QG X e v σ H fun σ' H' => QGs X es vs σ' H' Q) : QGs X (e :: es) (v :: vs) σ H Q :=
  wgs_of (pgs_cons pg_sem pgs_sem hs) ⟨v, vs, rfl, q⟩
theorem wg_tup {es : List Expr} {k : Nat} {a : Addr} {xs : List V} {Q : Sl → Hp → Prop} (hc : X.calm = true) (ht : SqT X.K H a xs) (hl : xs.length = (assignEach es X.env).length) (hst : (assignEach es X.env).findIdx? (·.1) = none) (q : QGs X es xs σ H Q) : QG X (.Tuple es k pos) (.ref a) σ H Q :=
  wg_of (pg_tup hc pgs_sem rfl hst) ⟨a, xs, rfl, ht, hl, q⟩
theorem ws_asg {tg : Expr} (hs : swapsWithSole [tg] e pos.line X.env = pure false) (hw : swappedStores [tg] e X.env = pure none) (h1 : (assignEach [tg] X.env).map (·.2) = [assign tg X.env]) (q : QE X e σ H fun v H1 => QG X tg v σ H1 D.nx) : QS X (.Assign [tg] e pos) D σ H :=
  ws_of (ps_asg pe_sem pg_sem hs hw h1) q
theorem ws_set (hs : swapsWith e (some (.Name x p)) pos.line X.env = pure false) (nd : X.N.Nodup) (hx : Loc X.env.scope x) (hf : X.fn x = true ∨ X.env.scope.names.lookup x = some .local) {N : List Str} (hN : X.N = N) {i : Nat} (hi : N[i]? = some x)
    (q : QE X e σ H fun v H1 => D.nx (σ.set i (some v)) H1) : QS X (.Assign [.Name x p] e pos) D σ H :=
  ws_of (ps_set (i := i) nd (hN ▸ hi) hx pe_sem hs hf) q
theorem ws_par {y : Str} {a b : Expr} {px py pt : Pos} {kt k2 pt2} {N : List Str} {i j : Nat} (hN : X.N = N) (hi : Ix N i x) (hj : Ix N j y) (hij : i ≠ j) (hc : X.calm = true) (nd : X.N.Nodup)
    (hx : X.env.scope.names.lookup x = some .local) (hy : X.env.scope.names.lookup y = some .local)
    (hw : swappedStores [.Tuple [.Name x px, .Name y py] kt pt] (.Tuple [a, b] k2 pt2) X.env = pure (some [x, y]))
    (hs : swapsWithSole [.Tuple [.Name x px, .Name y py] kt pt] (.Tuple [a, b] k2 pt2) pos.line X.env = pure false)
    (q : QA X [a, b] σ H fun vs H1 => ∃ v w, vs = [v, w] ∧ ∃ σ1 σ2, Put N σ x v σ1 i ∧ Put N σ1 y w σ2 j ∧ D.nx σ2 H1) : QS X (.Assign [.Tuple [.Name x px, .Name y py] kt pt] (.Tuple [a, b] k2 pt2) pos) D σ H :=
  ws_of (ps_par hc nd (hN ▸ hi.n) (hN ▸ hj.n) hij hx hy pa_sem hw hs) (fun pos pins s I => thn (q pos pins s I) fun us s' ⟨vs, H', J, r, v, w, e, σ1, σ2, p1, p2, z⟩ => ⟨vs, H', J, r, v, w, e, by rw [p1.v, p2.v]; exact z⟩)
theorem ws_par3 {y z : Str} {a b c : Expr} {px py pz pt : Pos} {kt k2 pt2} {N : List Str} {i j l : Nat} (hN : X.N = N) (hi : Ix N i x) (hj : Ix N j y) (hl : Ix N l z) (hij : i ≠ j) (hil : i ≠ l) (hjl : j ≠ l) (hc : X.calm = true) (nd : X.N.Nodup)
    (hx : X.env.scope.names.lookup x = some .local) (hy : X.env.scope.names.lookup y = some .local) (hz : X.env.scope.names.lookup z = some .local)
    (hw : swappedStores [.Tuple [.Name x px, .Name y py, .Name z pz] kt pt] (.Tuple [a, b, c] k2 pt2) X.env = pure (some [x, y, z]))
    (hs : swapsWithSole [.Tuple [.Name x px, .Name y py, .Name z pz] kt pt] (.Tuple [a, b, c] k2 pt2) pos.line X.env = pure false)
    (q : QA X [a, b, c] σ H fun vs H1 => ∃ u v w, vs = [u, v, w] ∧ ∃ σ1 σ2 σ3, Put N σ x u σ1 i ∧ Put N σ1 y v σ2 j ∧ Put N σ2 z w σ3 l ∧ D.nx σ3 H1) : QS X (.Assign [.Tuple [.Name x px, .Name y py, .Name z pz] kt pt] (.Tuple [a, b, c] k2 pt2) pos) D σ H :=
  ws_of (ps_par3 hc nd (hN ▸ hi.n) (hN ▸ hj.n) (hN ▸ hl.n) hij hil hjl hx hy hz pa_sem hw hs) (fun pos pins s I => thn (q pos pins s I) fun us s' ⟨vs, H', J, r, u, v, w, e, σ1, σ2, σ3, p1, p2, p3, zz⟩ => ⟨vs, H', J, r, u, v, w, e, by rw [p1.v, p2.v, p3.v]; exact zz⟩)
theorem ifd {c A B : Prop} [Decidable c] (h1 : c → A) (h2 : ¬ c → B) : if decide c = true then A else B := by
  by_cases h : c
  · rw [if_pos (decide_eq_true h)]
    exact h1 h
  · rw [if_neg (by simpa using h)]
    exact h2 h
theorem ifn {c A B : Prop} [Decidable c] (h1 : ¬ c → A) (h2 : c → B) : if (!decide c) = true then A else B := by
  by_cases h : c
  · rw [if_neg (by simpa using h)]
    exact h2 h
  · rw [if_pos (by simpa using h)]
    exact h1 h
theorem ifb {b : Bool} {A B : Prop} (h1 : b = true → A) (h2 : b = false → B) : if b = true then A else B := by
  cases b with
  | true => exact h1 rfl
  | false => rw [if_neg Bool.false_ne_true]; exact h2 rfl
theorem ifnb {b : Bool} {A B : Prop} (h1 : b = false → A) (h2 : b = true → B) : if (!b) = true then A else B := by
  cases b with
  | false => exact h1 rfl
  | true => rw [if_neg (by decide)]; exact h2 rfl
/-- while, by an invariant and a measure -/
theorem ws_while (I : Sl → Hp → Prop) (μ : Sl → Hp → Nat) (hp : PassesOwn (model X.prog X.w) X.A X.env X.xe) (h0 : I σ H)
    (h : ∀ σ1 H1, I σ1 H1 → QT X c σ1 H1 fun k H2 => if k = true then QB X body { D with nx := fun σ3 H3 => I σ3 H3 ∧ μ σ3 H3 < μ σ1 H1, ct := fun σ3 H3 => I σ3 H3 ∧ μ σ3 H3 < μ σ1 H1, bk := D.nx } σ1 H2 else D.nx σ1 H2) : QS X (.While c body [] pos) D σ H := by
  refine ws_of (ps_while hp pt_sem pss_sem) ⟨fun m σ1 H1 => I σ1 H1 ∧ μ σ1 H1 = m, ⟨_, h0, rfl⟩, fun m σ1 H1 hm => ?_⟩
  obtain ⟨i1, rfl⟩ := hm
  intro pins s J
  refine thn (h σ1 H1 i1 pins s J) fun k s2 ⟨H2, J2, q2⟩ => ⟨H2, J2, ?_⟩
  cases k with
  | true =>
    rw [if_pos rfl] at q2 ⊢
    exact ⟨fun σ3 H3 => I σ3 H3 ∧ μ σ3 H3 < μ σ1 H1, fun σ3 H3 q => ⟨_, q.2, q.1, rfl⟩, q2⟩
  | false =>
    rw [if_neg Bool.false_ne_true] at q2 ⊢
    exact q2
end
end Sx

/-! Sd: data as a whole, and what stands for it. -/
namespace Sx
open PySem PySem.Spec PyProof.Rows L2

inductive D where
  | non | bl (b : Bool) | int (i : Int) | str (x : Str) | tup (ds : List D) | lst (ds : List D) | obj (c : Addr) (ns : List Str) (ds : List D)

mutual
/-- no list inside -/
def D.im : D → Bool
  | .lst _ => false
  | .tup ds => imAll ds
  | .obj _ _ ds => imAll ds
  | _ => true
def imAll : List D → Bool
  | [] => true
  | d :: r => d.im && imAll r
end
mutual
inductive Rp (K : PySem.W.Frag) (H : Hp) : V → D → Prop
  | non : Rp K H .non .non
  | bl (b : Bool) : Rp K H (.bl b) (.bl b)
  | int (i : Int) : Rp K H (.int i) (.int i)
  | str (x : Str) : Rp K H (.str x) (.str x)
  | tup {a : Addr} {xs : List V} {ds : List D} : SqT K H a xs → RpAll K H xs ds → Rp K H (.ref a) (.tup ds)
  | lst {a : Addr} {xs : List V} {ds : List D} : SqL K H a xs → RpAll K H xs ds → Rp K H (.ref a) (.lst ds)
  | obj {a c dx : Addr} {fs : List (Str × V)} {ns : List Str} {ds : List D} : H a = some (.ins c dx fs) → fs.map (·.1) = ns → RpAll K H (fs.map (·.2)) ds → Rp K H (.ref a) (.obj c ns ds)
inductive RpAll (K : PySem.W.Frag) (H : Hp) : List V → List D → Prop
  | nil : RpAll K H [] []
  | cons {v : V} {vs : List V} {d : D} {ds : List D} : Rp K H v d → RpAll K H vs ds → RpAll K H (v :: vs) (d :: ds)
end
section
variable {K : PySem.W.Frag} {H H' : Hp}
theorem Same.tupR {a : Addr} {xs : List V} (e : Same H H') (h : SqT K H a xs) : SqT K H' a xs := by
  rcases h with (h | ⟨o, h⟩) | h
  · exact .inl (.inl (e _ _ h))
  · exact .inl (.inr ⟨o, e _ _ h⟩)
  · exact .inr h
mutual
theorem Rp.mono (s : Same H H') : ∀ (d : D) (v : V), Rp K H v d → Rp K H' v d
  | .non, _, h => by cases h; exact .non
  | .bl _, _, h => by cases h; exact .bl _
  | .int _, _, h => by cases h; exact .int _
  | .str _, _, h => by cases h; exact .str _
  | .tup ds, _, h => by
    cases h with
    | tup h1 h2 => exact .tup (Same.tupR s h1) (RpAll.mono s ds _ h2)
  | .lst ds, _, h => by
    cases h with
    | lst h1 h2 => exact .lst (s.seq h1) (RpAll.mono s ds _ h2)
  | .obj c ns ds, _, h => by
    cases h with
    | obj h1 h2 h3 => exact .obj (s _ _ h1) h2 (RpAll.mono s ds _ h3)
theorem RpAll.mono (s : Same H H') : ∀ (ds : List D) (vs : List V), RpAll K H vs ds → RpAll K H' vs ds
  | [], _, h => by cases h; exact .nil
  | d :: ds, _, h => by
    cases h with
    | cons h1 h2 => exact .cons (Rp.mono s d _ h1) (RpAll.mono s ds _ h2)
end
theorem Rp.to {d : D} {v : V} (h : Rp K H v d) (s : Same H H') : Rp K H' v d := Rp.mono s d v h
theorem RpAll.to {ds : List D} {vs : List V} (h : RpAll K H vs ds) (s : Same H H') : RpAll K H' vs ds := RpAll.mono s ds vs h
/-- a list is written: what holds no list stands -/
def Lst (H : Hp) (p : Addr) : Prop := ∃ xs, H p = some (.lst xs)
mutual
theorem Rp.keep {p : Addr} (l : Lst H p) (s : ∀ b o, b ≠ p → H b = some o → H' b = some o) : ∀ (d : D) (v : V), d.im = true → Rp K H v d → Rp K H' v d
  | .non, _, _, h => by cases h; exact .non
  | .bl _, _, _, h => by cases h; exact .bl _
  | .int _, _, _, h => by cases h; exact .int _
  | .str _, _, _, h => by cases h; exact .str _
  | .tup ds, _, m, h => by
    obtain ⟨zs, hz⟩ := l
    cases h with
    | tup h1 h2 =>
      refine .tup ?_ (RpAll.keep ⟨zs, hz⟩ s ds _ (by simpa [D.im] using m) h2)
      rcases h1 with (h1 | ⟨o, h1⟩) | h1
      · exact .inl (.inl (s _ _ (ne_of h1 hz (by intro z; cases z)) h1))
      · exact .inl (.inr ⟨o, s _ _ (ne_of h1 hz (by intro z; cases z)) h1⟩)
      · exact .inr h1
  | .lst _, _, m, _ => by simp [D.im] at m
  | .obj c ns ds, _, m, h => by
    obtain ⟨zs, hz⟩ := l
    cases h with
    | obj h1 h2 h3 => exact .obj (s _ _ (ne_of h1 hz (by intro z; cases z)) h1) h2 (RpAll.keep ⟨zs, hz⟩ s ds _ (by simpa [D.im] using m) h3)
theorem RpAll.keep {p : Addr} (l : Lst H p) (s : ∀ b o, b ≠ p → H b = some o → H' b = some o) : ∀ (ds : List D) (vs : List V), imAll ds = true → RpAll K H vs ds → RpAll K H' vs ds
  | [], _, _, h => by cases h; exact .nil
  | d :: ds, _, m, h => by
    have m' : d.im = true ∧ imAll ds = true := by simpa [imAll] using m
    cases h with
    | cons h1 h2 => exact .cons (Rp.keep l s d _ m'.1 h1) (RpAll.keep l s ds _ m'.2 h2)
end
theorem RpAll.len : ∀ {vs : List V} {ds : List D}, RpAll K H vs ds → vs.length = ds.length
  | _, _, .nil => rfl
  | _, _, .cons _ t => by simp [RpAll.len t]
theorem RpAll.get : ∀ {vs : List V} {ds : List D} {i : Nat} {v : V}, RpAll K H vs ds → vs[i]? = some v → ∃ d, ds[i]? = some d ∧ Rp K H v d
  | _, _, _, _, .nil, e => by simp at e
  | _, _, 0, _, .cons r _, e => by simp at e; subst e; exact ⟨_, rfl, r⟩
  | _, _, i + 1, v, .cons _ t, e => by
    obtain ⟨d, h1, h2⟩ := RpAll.get (i := i) (v := v) t (by simpa using e)
    exact ⟨d, by simpa using h1, h2⟩
theorem RpAll.getD' : ∀ {vs : List V} {ds : List D} {i : Nat} {d : D}, RpAll K H vs ds → ds[i]? = some d → ∃ v, vs[i]? = some v ∧ Rp K H v d
  | _, _, _, _, .nil, e => by simp at e
  | _, _, 0, _, .cons r _, e => by simp at e; subst e; exact ⟨_, rfl, r⟩
  | _, _, i + 1, v, .cons _ t, e => by
    obtain ⟨d, h1, h2⟩ := RpAll.getD' (i := i) (d := v) t (by simpa using e)
    exact ⟨d, by simpa using h1, h2⟩
theorem RpAll.snoc : ∀ {vs : List V} {ds : List D} {v : V} {d : D}, RpAll K H vs ds → Rp K H v d → RpAll K H (vs ++ [v]) (ds ++ [d])
  | _, _, _, _, .nil, h => .cons h .nil
  | _, _, _, _, .cons r t, h => .cons r (RpAll.snoc t h)
theorem RpAll.app : ∀ {vs ws : List V} {ds es : List D}, RpAll K H vs ds → RpAll K H ws es → RpAll K H (vs ++ ws) (ds ++ es)
  | _, _, _, _, .nil, h => h
  | _, _, _, _, .cons r t, h => .cons r (RpAll.app t h)
theorem imAll_iff : ∀ {ds : List D}, imAll ds = true ↔ ∀ d ∈ ds, d.im = true
  | [] => by simp [imAll]
  | d :: r => by simp [imAll, imAll_iff (ds := r)]
theorem RpAll.ints : ∀ (ns : List Int), RpAll K H (ns.map V.int) (ns.map D.int)
  | [] => .nil
  | n :: r => .cons (.int n) (RpAll.ints r)
theorem RpAll.ints_inv : ∀ {ns : List Int} {vs : List V}, RpAll K H vs (ns.map D.int) → vs = ns.map V.int
  | [], _, h => by cases h; rfl
  | n :: r, _, h => by
    cases h with
    | cons h1 h2 => cases h1; rw [RpAll.ints_inv h2]; rfl
theorem RpAll.bls_inv : ∀ {ns : List Bool} {vs : List V}, RpAll K H vs (ns.map D.bl) → vs = ns.map V.bl
  | [], _, h => by cases h; rfl
  | n :: r, _, h => by
    cases h with
    | cons h1 h2 => cases h1; rw [RpAll.bls_inv h2]; rfl
theorem RpAll.strs_inv : ∀ {ns : List Str} {vs : List V}, RpAll K H vs (ns.map D.str) → vs = ns.map V.str
  | [], _, h => by cases h; rfl
  | n :: r, _, h => by
    cases h with
    | cons h1 h2 => cases h1; rw [RpAll.strs_inv h2]; rfl
mutual
/-- .. as the library's data, where no object is inside -/
def D.py : D → Option PyData
  | .non => some .none
  | .bl b => some (.bool b)
  | .int i => some (.int i)
  | .str x => some (.str x)
  | .tup ds => (pyAll ds).map .tuple
  | .lst ds => (pyAll ds).map .list
  | .obj _ _ _ => none
def pyAll : List D → Option (List PyData)
  | [] => some []
  | d :: r => match d.py, pyAll r with
    | some x, some xs => some (x :: xs)
    | _, _ => none
end
mutual
theorem Rp.py : ∀ (d : D) (v : V) (e : PyData), Rp K H v d → d.py = some e → Dp K H v e
  | .non, _, _, h, q => by cases h; cases q; exact .non
  | .bl _, _, _, h, q => by cases h; cases q; exact .bl _
  | .int _, _, _, h, q => by cases h; cases q; exact .int _
  | .str _, _, _, h, q => by cases h; cases q; exact .str _
  | .tup ds, _, _, h, q => by
    cases h with
    | tup h1 h2 =>
      unfold D.py at q
      cases w : pyAll ds with
      | none => rw [w] at q; cases q
      | some xs => rw [w] at q; cases q; exact .tup h1 (RpAll.py ds _ xs h2 w)
  | .lst ds, _, _, h, q => by
    cases h with
    | lst h1 h2 =>
      unfold D.py at q
      cases w : pyAll ds with
      | none => rw [w] at q; cases q
      | some xs => rw [w] at q; cases q; exact .lst h1 (RpAll.py ds _ xs h2 w)
  | .obj _ _ _, _, _, _, q => by unfold D.py at q; cases q
theorem RpAll.py : ∀ (ds : List D) (vs : List V) (es : List PyData), RpAll K H vs ds → pyAll ds = some es → DpAll K H vs es
  | [], _, _, h, q => by cases h; unfold pyAll at q; cases q; exact .nil
  | d :: ds, _, _, h, q => by
    cases h with
    | cons h1 h2 =>
      unfold pyAll at q
      cases w1 : d.py with
      | none => rw [w1] at q; cases q
      | some x =>
        cases w2 : pyAll ds with
        | none => rw [w1, w2] at q; cases q
        | some xs => rw [w1, w2] at q; cases q; exact .cons (Rp.py d _ x h1 w1) (RpAll.py ds _ xs h2 w2)
end
/-! ### a datum's type -/
def D.ty : D → Option String
  | .non => some "NoneType"
  | .bl _ => some "bool"
  | .int _ => some "int"
  | .str _ => some "str"
  | .tup _ => some "tuple"
  | .lst _ => some "list"
  | .obj .. => none
theorem Rp.tyx : ∀ {d : D} {v : V} {n : String}, Rp K H v d → d.ty = some n → TyX K H v (.type n)
  | _, _, _, .non, e => by cases e; exact .base .non
  | _, _, _, .bl _, e => by cases e; exact .base (.bl _)
  | _, _, _, .int _, e => by cases e; exact .base (.int _)
  | _, _, _, .str _, e => by cases e; exact .base (.str _)
  | _, _, _, .tup h _, e => by
    cases e
    rcases h with (h | ⟨o, h⟩) | ⟨o, its, n, h1, h2, _⟩
    · exact .base (.tup h)
    · exact .fTuple h
    · exact .kTuple h1 h2
  | _, _, _, .lst h _, e => by
    cases e
    rcases h with (h | ⟨o, h⟩) | ⟨o, its, n, h1, h2, _⟩
    · exact .base (.lst h)
    · exact .base (.frz h)
    · exact .kList h1 h2
  | _, _, _, .obj .., e => by cases e
end
def D.isI : D → Bool
  | .int _ => true
  | .bl _ => true
  | _ => false
def D.whole : D → Bool
  | .int _ => true
  | _ => false
def D.isB : D → Bool
  | .bl _ => true
  | _ => false
def D.isS : D → Bool
  | .str _ => true
  | _ => false
def D.isT : D → Bool
  | .tup _ => true
  | _ => false
def D.isL : D → Bool
  | .lst _ => true
  | _ => false
theorem D.whole_eq (d : D) : d.whole = (d.isI && !d.isB) := by cases d <;> rfl
section
variable {X : Cx} {H : Hp} {Q : VK} {v : V} {d : D}
theorem callw_isi {n c : String} {b : Bool} (h : Rp X.K H v d) (e : d.ty = some n) (k : kitB n c = some b) (q : Q (.bl b) H) : CallW X (.builtin "isinstance") [v, .ty c] H Q :=
  callw_of call_isi ⟨v, .ty c, .type n, .type c, b, rfl, .ty c, h.tyx e, kit_ty k, q⟩
theorem isi_int (h : Rp X.K H v d) (o : d.ty.isSome = true) (q : Q (.bl d.isI) H) : CallW X (.builtin "isinstance") [v, .ty "int"] H Q := by
  cases d <;> first | exact callw_isi (b := true) h rfl (by decide +kernel) q | exact callw_isi (b := false) h rfl (by decide +kernel) q | cases o
theorem isi_bool (h : Rp X.K H v d) (o : d.ty.isSome = true) (q : Q (.bl d.isB) H) : CallW X (.builtin "isinstance") [v, .ty "bool"] H Q := by
  cases d <;> first | exact callw_isi (b := true) h rfl (by decide +kernel) q | exact callw_isi (b := false) h rfl (by decide +kernel) q | cases o
theorem isi_str (h : Rp X.K H v d) (o : d.ty.isSome = true) (q : Q (.bl d.isS) H) : CallW X (.builtin "isinstance") [v, .ty "str"] H Q := by
  cases d <;> first | exact callw_isi (b := true) h rfl (by decide +kernel) q | exact callw_isi (b := false) h rfl (by decide +kernel) q | cases o
theorem isi_tuple (h : Rp X.K H v d) (o : d.ty.isSome = true) (q : Q (.bl d.isT) H) : CallW X (.builtin "isinstance") [v, .ty "tuple"] H Q := by
  cases d <;> first | exact callw_isi (b := true) h rfl (by decide +kernel) q | exact callw_isi (b := false) h rfl (by decide +kernel) q | cases o
end
end Sx

/-! Sc: what loops and comprehensions walk; containers. -/
namespace Sx
open PySem PySem.Spec PyProof.Rows L2

section
variable (X : Cx)
def QI (tg iter : Expr) (σ : Sl) (H : Hp) (R : It → Hp → Prop) : Prop := ∀ (pins : List (Addr × Obj)) (s : Shared), Inv X pins σ H s → wpAny (model X.prog X.w) X.A (eval iter X.env) (fun v s1 => wpAny (model X.prog X.w) X.A (pyIter v) (PIE X pins σ tg R) X.xe s1) X.xe s
/-- in a comprehension's block, wherever it begins -/
def BG (scope : Scope) (tg : Expr) (v : V) (σ : Sl) (H : Hp) (Q : Sl → Hp → Prop) : Prop := ∀ (s : Shared) (H0 : Hp) (C : Addr) (cl : List (Str × Addr)) (fp : List Addr), QG (X.blk s H0 scope (compEnvC scope cl C X.env) fp) tg v σ H Q
def BE (scope : Scope) (e : Expr) (σ : Sl) (H : Hp) (Q : VK) : Prop := ∀ (s : Shared) (H0 : Hp) (C : Addr) (cl : List (Str × Addr)) (fp : List Addr), QE (X.blk s H0 scope (compEnvC scope cl C X.env) fp) e σ H Q
def BT (scope : Scope) (e : Expr) (σ : Sl) (H : Hp) (Q : Bool → Hp → Prop) : Prop := ∀ (s : Shared) (H0 : Hp) (C : Addr) (cl : List (Str × Addr)) (fp : List Addr), QT (X.blk s H0 scope (compEnvC scope cl C X.env) fp) e σ H Q
end
section
variable {X : Cx} {tg iter e a b l : Expr} {σ : Sl} {H : Hp} {R : It → Hp → Prop} {pos p : Pos}
theorem pi_sem : PI X tg iter (QI X tg iter) := ⟨fun pins s _ _ _ I h => h pins s I⟩
theorem qi_of {wi : TI} (h : PI X tg iter wi) (q : wi σ H R) : QI X tg iter σ H R := fun pins s I => h.run pins s σ H R I q
theorem qi_list (q : QE X l σ H fun x H1 => ∃ a, x = .ref a ∧ (∃ xs, SqL X.K H1 a xs) ∧ R (Itl X.K a) H1) : QI X tg l σ H R := qi_of (pi_list pe_sem) q
theorem qi_tup (q : QE X l σ H fun x H1 => ∃ a, x = .ref a ∧ (∃ xs, SqT X.K H1 a xs) ∧ R (Itt X.K a) H1) : QI X tg l σ H R := qi_of (pi_tup pe_sem) q
theorem qi_range1 (hm : X.mg "range" = none) (hg : Gl X "range") (hs : starEach [a] X.env = [(false, eval a X.env)]) (q : QE X a σ H fun x H1 => ∃ j : Int, x = .int j ∧ (-(2 ^ 62) ≤ j ∧ j < 2 ^ 62) ∧ R (Itr 0 j.toNat) H1) : QI X tg (.Call (.Name "range" p) [a] [] pos) σ H R :=
  qi_of (pi_range1 hg hm pa_sem hs) (wa_cons hs (by exact fun pins s I => thn (q pins s I) fun u s1 ⟨v, H1, J, r, j, e, ⟨h1, h2⟩, z⟩ => ⟨v, H1, J, r, wa_nil ⟨j, by rw [e], h1, h2, z⟩⟩))
theorem qi_range2 (hm : X.mg "range" = none) (hg : Gl X "range") (hs : starEach [a, b] X.env = [(false, eval a X.env), (false, eval b X.env)]) (hs2 : starEach [b] X.env = [(false, eval b X.env)])
    (q : QE X a σ H fun x H1 => QE X b σ H1 fun y H2 => ∃ i j : Int, x = .int i ∧ y = .int j ∧ (-(2 ^ 62) ≤ i ∧ i < 2 ^ 62 ∧ -(2 ^ 62) ≤ j ∧ j < 2 ^ 62) ∧ R (Itr i (j - i).toNat) H2) : QI X tg (.Call (.Name "range" p) [a, b] [] pos) σ H R :=
  qi_of (pi_range2 hg hm pa_sem hs hs2) (wa_cons (by rw [hs, hs2]) (by
    exact fun pins s I => thn (q pins s I) fun u s1 ⟨v, H1, J, r, z⟩ => ⟨v, H1, J, r, wa_cons hs2 (by
      exact fun pins s I => thn (z pins s I) fun u s1 ⟨v2, H2, J2, r2, i, j, e1, e2, h, z2⟩ => ⟨v2, H2, J2, r2, wa_nil ⟨i, j, by rw [e1, e2], h, z2⟩⟩)⟩))
theorem QI.imp {R' : It → Hp → Prop} (h : QI X tg iter σ H R) (k : ∀ J H1, R J H1 → R' J H1) : QI X tg iter σ H R' := fun pins s I => thn (h pins s I) fun v s1 h1 => thn h1 fun itv s2 ⟨it, fp, tn, J, H', e, J1, T, t0, f, r⟩ => ⟨it, fp, tn, J, H', e, J1, T, t0, f, k _ _ r⟩
/-- for: what it walks, Pv by the turn, the slots and the heap -/
theorem qs_for {body : List Stmt} {E : Ends} (hp : PassesOwn (model X.prog X.w) X.A X.env X.xe) (hc : X.calm = true) (hfs : ∀ x, foldedSetIterable iter X.env x = pure x)
    (q : QI X tg iter σ H fun J H1 => ∃ (n : Nat) (G : Hp → Prop) (Y : Nat → Hp → V → Hp → Prop), Walk J n G Y ∧ ∃ Pv : Nat → Sl → Hp → Prop, Pv 0 σ H1 ∧ (∀ i σ H, i ≤ n → Pv i σ H → G H) ∧
      (∀ i x σ H H', i < n → Pv i σ H → Y i H x H' → QG X tg x σ H' fun σ2 H2 => QB X body { E with nx := Pv (i + 1), ct := Pv (i + 1), bk := E.nx } σ2 H2) ∧ (∀ σ H, Pv n σ H → E.nx σ H)) : QS X (.For tg iter body [] pos) E σ H :=
  ws_of (ps_for hp hc pi_sem pg_sem pss_sem hfs) (q.imp fun J H1 ⟨n, G, Y, w, Pv, h0, hG, hs, hd⟩ => for_it w Pv h0 hG hs hd)
/-! ### comprehensions -/
def bits (n : Nat) (F : Nat → Option D) : List D := (List.range n).filterMap F
theorem bits_succ (n : Nat) (F : Nat → Option D) : bits (n + 1) F = bits n F ++ (F n).toList := by
  unfold bits
  rw [List.range_succ, List.filterMap_append]
  cases e : F n <;> simp [e]
theorem bits_len (n : Nat) (F : Nat → Option D) : (bits n F).length ≤ n := by
  unfold bits
  exact Nat.le_trans (List.length_filterMap_le _ _) (by simp)
/-- what a comprehension has made behind i turns -/
structure LcAt (K : PySem.W.Frag) (H1 : Hp) (Dl : Addr) (F : Nat → Option D) (i : Nat) (H : Hp) : Prop where
  s : Same H1 H
  l : ∃ acc, H Dl = some (.lst acc) ∧ RpAll K H acc (bits i F)
theorem LcAt.zero {K : PySem.W.Frag} {H1 : Hp} {Dl : Addr} {F : Nat → Option D} (h : H1 Dl = none) : LcAt K H1 Dl F 0 (upd H1 Dl (.lst [])) := ⟨same_new h, [], upd_same, .nil⟩
theorem LcAt.skip {K : PySem.W.Frag} {H1 H H' : Hp} {Dl : Addr} {F : Nat → Option D} {i : Nat} (h : LcAt K H1 Dl F i H) (s : Same H H') (e : F i = none) : LcAt K H1 Dl F (i + 1) H' := by
  obtain ⟨acc, h1, h2⟩ := h.l
  exact ⟨h.s.trans s, acc, s _ _ h1, by rw [bits_succ, e]; simpa using h2.to s⟩
theorem LcAt.more {K : PySem.W.Frag} {H1 H H' : Hp} {Dl : Addr} {F : Nat → Option D} {i : Nat} {y : V} {d : D} (h : LcAt K H1 Dl F i H) (h0 : H1 Dl = none) (s : Same H H') (e : F i = some d) (him : ∀ i d, F i = some d → d.im = true) (r : Rp K H' y d) :
    ∃ acc, H' Dl = some (.lst acc) ∧ acc.length = (bits i F).length ∧ LcAt K H1 Dl F (i + 1) (upd H' Dl (.lst (acc ++ [y]))) := by
  obtain ⟨acc, h1, h2⟩ := h.l
  have hk : ∀ b o, b ≠ Dl → H' b = some o → (upd H' Dl (.lst (acc ++ [y]))) b = some o := fun b o n q => by rw [upd_ne n]; exact q
  have hall : imAll (bits i F) = true := by
    rw [imAll_iff]
    intro d hd
    unfold bits at hd
    rw [List.mem_filterMap] at hd
    obtain ⟨j, _, hj⟩ := hd
    exact him j d hj
  refine ⟨acc, s _ _ h1, h2.len, ⟨fun b o q => ?_, acc ++ [y], upd_same, ?_⟩⟩
  · rw [upd_ne (ne_of_none q h0)]
    exact s _ _ (h.s _ _ q)
  · rw [bits_succ, e]
    exact (RpAll.keep ⟨acc, s _ _ h1⟩ hk _ _ hall (h2.to s)).snoc (Rp.keep ⟨acc, s _ _ h1⟩ hk _ _ (him i d e) r)
/-- a comprehension with at most one test, from its parts -/
def QT1 (X : Cx) (scope : Scope) : List Expr → Sl → Hp → (Bool → Hp → Prop) → Prop
  | [] => tYes
  | [c] => BT X scope c
  | _ => fun _ _ _ => False
def QL (X : Cx) (elt tg iter : Expr) (ifs : List Expr) (scope : Scope) (vs : List Nat) (σ : Sl) (H : Hp) (Q : VK) : Prop := tLc (QI X tg iter) (BG X scope tg) (QT1 X scope ifs) (BE X scope elt) vs σ H Q
theorem pts_1 {scope : Scope} : ∀ (ifs : List Expr) (s : Shared) (H : Hp) (C : Addr) (cl : List (Str × Addr)) (fp : List Addr), PTs (X.blk s H scope (compEnvC scope cl C X.env) fp) ifs (QT1 X scope ifs)
  | [], _, _, _, _, _ => pts_nil
  | [c], s, H, C, cl, fp => pts_one ⟨fun pins s1 σ1 H2 Q1 I h => h s H C cl fp pins s1 I⟩
  | _ :: _ :: _, _, _, _, _, _ => by
    exact ⟨fun _ _ _ _ _ _ h => h.elim⟩
theorem we_lc {elt : Expr} {ifs : List Expr} {scope : Scope} {own : List (Str × Nat)} {vs : List Nat} {Q : VK} (hv : own.map (·.2) = vs) (hc : X.calm = true) (nd : X.N.Nodup) (ok : BlkOk X.N X.env.scope scope own) (hs : ∀ x, foldedSetIterable iter X.env x = pure x)
    (q : QL X elt tg iter ifs scope vs σ H Q) : QE X (.ListComp elt [⟨tg, iter, ifs, 0⟩] scope pos) σ H Q := by
  subst hv
  exact we_of (pe_lc hc nd pi_sem ok (g := BG X scope tg) (tt := QT1 X scope ifs) (te := BE X scope elt) (fun s H0 C cl fp => ⟨fun pins s1 σ1 H2 v u Q1 I r h => h s H0 C cl fp pins s1 u I r⟩) (pts_1 ifs) (fun s H0 C cl fp => ⟨fun pins s1 σ1 H2 Q1 I h => h s H0 C cl fp pins s1 I⟩) hs) q
/-- name = [..] in a def -/
theorem ws_setLc {elt : Expr} {ifs : List Expr} {scope : Scope} {own : List (Str × Nat)} {vs : List Nat} {D : Ends} {y : Str} {j : Nat} {py spos : Pos} (hv : own.map (·.2) = vs) (hc : X.calm = true) (nd : X.N.Nodup) (hy : X.N[j]? = some y) (hyl : X.env.scope.names.lookup y = some .local)
    (hsw : swapsWith (.ListComp elt [⟨tg, iter, ifs, 0⟩] scope pos) (some (.Name y py)) spos.line X.env = pure true) (ok : BlkOk X.N X.env.scope scope own) (hs : ∀ x, foldedSetIterable iter X.env x = pure x)
    (q : QL X elt tg iter ifs scope vs σ H fun v H1 => D.nx (σ.set j (some v)) H1) : QS X (.Assign [.Name y py] (.ListComp elt [⟨tg, iter, ifs, 0⟩] scope pos) spos) D σ H := by
  subst hv
  exact ws_of (ps_setLc hc nd hy hyl hsw pi_sem ok (g := BG X scope tg) (tt := QT1 X scope ifs) (te := BE X scope elt) (fun s H0 C cl fp => ⟨fun pins s1 σ1 H2 v u Q1 I r h => h s H0 C cl fp pins s1 u I r⟩) (pts_1 ifs) (fun s H0 C cl fp => ⟨fun pins s1 σ1 H2 Q1 I h => h s H0 C cl fp pins s1 I⟩) hs) q
/-- [elt for tg in iter]: F tells what turn i brings -/
theorem ql_lc {elt : Expr} {scope : Scope} {vs : List Nat} {Q : VK} {σw : Sl} (hw : wipe σ vs = σw)
    (q : QI X tg iter σ H fun J H1 => ∃ (n : Nat) (G : Hp → Prop) (Y : Nat → Hp → V → Hp → Prop), Walk J n G Y ∧ n < sizeLine ∧ (∀ H', Same H1 H' → G H') ∧ ∃ F : Nat → Option D, (∀ i d, F i = some d → d.im = true) ∧
      (∀ i x H2 H3, i < n → Same H1 H2 → Y i H2 x H3 → BG X scope tg x σw H3 fun σ2 H4 => wipe σ2 vs = σw ∧ BE X scope elt σ2 H4 fun y H5 => Same H2 H5 ∧ ∃ d, F i = some d ∧ Rp X.K H5 y d) ∧
      (∀ p H2 ys, Same H1 H2 → H1 p = none → H2 p = some (.lst ys) → RpAll X.K H2 ys (bits n F) → Q (.ref p) H2)) : QL X elt tg iter [] scope vs σ H Q := by
  show QI X tg iter σ H _
  refine q.imp fun J H1 ⟨n, G, Y, w, hn, hG, F, him, hb, hq⟩ Dl hD => ?_
  refine lc_it w (LcAt X.K H1 Dl F) (LcAt.zero hD) (fun i H _ h => hG H h.s) (fun i x H2 H3 hi h y => ?_) (fun H2 h => ?_)
  · rw [hw]
    have hb' := hb i x H2 H3 hi h.s y
    intro s H0 C cl fp pins s1 u I r
    refine thn (hb' s H0 C cl fp pins s1 u I r) fun _ s2 ⟨σ2, H4, I4, e4, b4⟩ => ⟨σ2, H4, I4, e4, ?_⟩
    delta QT1 tYes
    dsimp only
    rw [if_pos rfl]
    intro s H0 C cl fp pins s1 I
    refine thn (b4 s H0 C cl fp pins s1 I) fun u s3 ⟨v, H5, I5, r5, s5, d, e5, rp⟩ => ⟨v, H5, I5, r5, ?_⟩
    obtain ⟨acc, h1, h2, h3⟩ := h.more hD s5 e5 him rp
    exact ⟨acc, h1, by rw [h2]; exact Nat.lt_of_le_of_lt (bits_len _ _) (by omega), h3⟩
  · obtain ⟨acc, h1, h2⟩ := h.l
    exact hq Dl H2 acc h.s hD h1 h2
/-- [elt for tg in iter if c] -/
theorem ql_lcT {elt c : Expr} {scope : Scope} {vs : List Nat} {Q : VK} {σw : Sl} (hw : wipe σ vs = σw)
    (q : QI X tg iter σ H fun J H1 => ∃ (n : Nat) (G : Hp → Prop) (Y : Nat → Hp → V → Hp → Prop), Walk J n G Y ∧ n < sizeLine ∧ (∀ H', Same H1 H' → G H') ∧ ∃ F : Nat → Option D, (∀ i d, F i = some d → d.im = true) ∧
      (∀ i x H2 H3, i < n → Same H1 H2 → Y i H2 x H3 → BG X scope tg x σw H3 fun σ2 H4 => wipe σ2 vs = σw ∧ BT X scope c σ2 H4 fun b H5 => (b = true → BE X scope elt σ2 H5 fun y H6 => Same H2 H6 ∧ ∃ d, F i = some d ∧ Rp X.K H6 y d) ∧ (b = false → Same H2 H5 ∧ F i = none)) ∧
      (∀ p H2 ys, Same H1 H2 → H1 p = none → H2 p = some (.lst ys) → RpAll X.K H2 ys (bits n F) → Q (.ref p) H2)) : QL X elt tg iter [c] scope vs σ H Q := by
  show QI X tg iter σ H _
  refine q.imp fun J H1 ⟨n, G, Y, w, hn, hG, F, him, hb, hq⟩ Dl hD => ?_
  refine lc_it w (LcAt X.K H1 Dl F) (LcAt.zero hD) (fun i H _ h => hG H h.s) (fun i x H2 H3 hi h y => ?_) (fun H2 h => ?_)
  · rw [hw]
    have hb' := hb i x H2 H3 hi h.s y
    intro s H0 C cl fp pins s1 u I r
    refine thn (hb' s H0 C cl fp pins s1 u I r) fun _ s2 ⟨σ2, H4, I4, e4, b4⟩ => ⟨σ2, H4, I4, e4, ?_⟩
    intro s H0 C cl fp pins s1 I
    refine thn (b4 s H0 C cl fp pins s1 I) fun b s3 ⟨H5, I5, t5, f5⟩ => ⟨H5, I5, ?_⟩
    cases b with
    | true =>
      rw [if_pos rfl]
      have t5 := t5 rfl
      intro s H0 C cl fp pins s1 I
      refine thn (t5 s H0 C cl fp pins s1 I) fun u s3 ⟨v, H5, I5, r5, s5, d, e5, rp⟩ => ⟨v, H5, I5, r5, ?_⟩
      obtain ⟨acc, h1, h2, h3⟩ := h.more hD s5 e5 him rp
      exact ⟨acc, h1, by rw [h2]; exact Nat.lt_of_le_of_lt (bits_len _ _) (by omega), h3⟩
    | false =>
      rw [if_neg Bool.false_ne_true]
      obtain ⟨s5, e5⟩ := f5 rfl
      exact h.skip s5 e5
  · obtain ⟨acc, h1, h2⟩ := h.l
    exact hq Dl H2 acc h.s hD h1 h2
/-! ### two clauses -/
def BI (X : Cx) (scope : Scope) (tg iter : Expr) (σ : Sl) (H : Hp) (R : It → Hp → Prop) : Prop := ∀ (s : Shared) (H0 : Hp) (C : Addr) (cl : List (Str × Addr)) (fp : List Addr), QI (X.blk s H0 scope (compEnvC scope cl C X.env) fp) tg iter σ H R
def QL2 (X : Cx) (elt tg iter tg1 iter1 : Expr) (ifs ifs1 : List Expr) (scope : Scope) (vs vs1 : List Nat) (σ : Sl) (H : Hp) (Q : VK) : Prop :=
  tLc2 (QI X tg iter) (BG X scope tg) (QT1 X scope ifs) (BI X scope tg1 iter1) (BG X scope tg1) (QT1 X scope ifs1) (BE X scope elt) vs vs1 σ H Q
theorem we_lc2 {elt tg1 iter1 : Expr} {ifs ifs1 : List Expr} {scope : Scope} {own : List (Str × Nat)} {vs vs1 : List Nat} {Q : VK} (hv : own.map (·.2) = vs) (hv1 : ∀ i ∈ vs1, i ∈ own.map (·.2)) (hc : X.calm = true) (nd : X.N.Nodup) (ok : BlkOk X.N X.env.scope scope own) (hs : ∀ x, foldedSetIterable iter X.env x = pure x) (hs1 : ∀ env x, foldedSetIterable iter1 env x = pure x)
    (q : QL2 X elt tg iter tg1 iter1 ifs ifs1 scope vs vs1 σ H Q) : QE X (.ListComp elt [⟨tg, iter, ifs, 0⟩, ⟨tg1, iter1, ifs1, 0⟩] scope pos) σ H Q := by
  subst hv
  exact we_of (pe_lc2 hc nd pi_sem ok hv1 (g := BG X scope tg) (tt := QT1 X scope ifs) (wi1 := BI X scope tg1 iter1) (g1 := BG X scope tg1) (tt1 := QT1 X scope ifs1) (te := BE X scope elt) (fun s H0 C cl fp => ⟨fun pins s1 σ1 H2 v u Q1 I r h => h s H0 C cl fp pins s1 u I r⟩) (pts_1 ifs)
    (fun s H0 C cl fp => ⟨fun pins s1 σ1 H2 R I h => h s H0 C cl fp pins s1 I⟩) (fun s H0 C cl fp => ⟨fun pins s1 σ1 H2 v u Q1 I r h => h s H0 C cl fp pins s1 u I r⟩) (pts_1 ifs1) (fun s H0 C cl fp => ⟨fun pins s1 σ1 H2 Q1 I h => h s H0 C cl fp pins s1 I⟩) hs hs1) q
theorem ws_setLc2 {elt tg1 iter1 : Expr} {ifs ifs1 : List Expr} {scope : Scope} {own : List (Str × Nat)} {vs vs1 : List Nat} {D : Ends} {y : Str} {j : Nat} {py spos : Pos} (hv : own.map (·.2) = vs) (hv1 : ∀ i ∈ vs1, i ∈ own.map (·.2)) (hc : X.calm = true) (nd : X.N.Nodup) (hy : X.N[j]? = some y) (hyl : X.env.scope.names.lookup y = some .local)
    (hsw : swapsWith (.ListComp elt [⟨tg, iter, ifs, 0⟩, ⟨tg1, iter1, ifs1, 0⟩] scope pos) (some (.Name y py)) spos.line X.env = pure true) (ok : BlkOk X.N X.env.scope scope own) (hs : ∀ x, foldedSetIterable iter X.env x = pure x) (hs1 : ∀ env x, foldedSetIterable iter1 env x = pure x)
    (q : QL2 X elt tg iter tg1 iter1 ifs ifs1 scope vs vs1 σ H fun v H1 => D.nx (σ.set j (some v)) H1) : QS X (.Assign [.Name y py] (.ListComp elt [⟨tg, iter, ifs, 0⟩, ⟨tg1, iter1, ifs1, 0⟩] scope pos) spos) D σ H := by
  subst hv
  exact ws_of (ps_setLc2 hc nd hy hyl hsw pi_sem ok hv1 (g := BG X scope tg) (tt := QT1 X scope ifs) (wi1 := BI X scope tg1 iter1) (g1 := BG X scope tg1) (tt1 := QT1 X scope ifs1) (te := BE X scope elt) (fun s H0 C cl fp => ⟨fun pins s1 σ1 H2 v u Q1 I r h => h s H0 C cl fp pins s1 u I r⟩) (pts_1 ifs)
    (fun s H0 C cl fp => ⟨fun pins s1 σ1 H2 R I h => h s H0 C cl fp pins s1 I⟩) (fun s H0 C cl fp => ⟨fun pins s1 σ1 H2 v u Q1 I r h => h s H0 C cl fp pins s1 u I r⟩) (pts_1 ifs1) (fun s H0 C cl fp => ⟨fun pins s1 σ1 H2 Q1 I h => h s H0 C cl fp pins s1 I⟩) hs hs1) q
/-- what the outer turns before i have made -/
def flat (m : Nat → Nat) (F : Nat → Nat → Option D) (i : Nat) : List D := (List.range i).flatMap fun i => bits (m i) (F i)
theorem flat_succ (m : Nat → Nat) (F : Nat → Nat → Option D) (i : Nat) : flat m F (i + 1) = flat m F i ++ bits (m i) (F i) := by
  unfold flat
  rw [List.range_succ, List.flatMap_append]
  simp
theorem flat_len (m : Nat → Nat) (F : Nat → Nat → Option D) (M : Nat) : ∀ i, (∀ k, k < i → m k ≤ M) → (flat m F i).length ≤ i * M
  | 0, _ => by simp [flat]
  | i + 1, h => by
    rw [flat_succ, List.length_append, Nat.succ_mul]
    have := flat_len m F M i fun k hk => h k (by omega)
    have := bits_len (m i) (F i)
    have := h i (by omega)
    omega
theorem flat_im {m : Nat → Nat} {F : Nat → Nat → Option D} (him : ∀ i j d, F i j = some d → d.im = true) (i j k : Nat) : imAll (flat m F i ++ bits j (F k)) = true := by
  rw [imAll_iff]
  intro d hd
  have aux : ∀ n i, d ∈ bits n (F i) → d.im = true := fun n i h => by
    unfold bits at h
    rw [List.mem_filterMap] at h
    obtain ⟨j, _, hj⟩ := h
    exact him i j d hj
  rw [List.mem_append] at hd
  rcases hd with hd | hd
  · unfold flat at hd
    rw [List.mem_flatMap] at hd
    obtain ⟨i, _, h⟩ := hd
    exact aux _ _ h
  · exact aux _ _ hd
structure LcL (K : PySem.W.Frag) (H1 : Hp) (Dl : Addr) (L : List D) (H : Hp) : Prop where
  s : Same H1 H
  l : ∃ acc, H Dl = some (.lst acc) ∧ RpAll K H acc L
theorem LcL.to {K : PySem.W.Frag} {H1 H H' : Hp} {Dl : Addr} {L : List D} (h : LcL K H1 Dl L H) (s : Same H H') : LcL K H1 Dl L H' := by
  obtain ⟨acc, h1, h2⟩ := h.l
  exact ⟨h.s.trans s, acc, s _ _ h1, h2.to s⟩
theorem LcL.more {K : PySem.W.Frag} {H1 H : Hp} {Dl : Addr} {L : List D} {y : V} {d : D} (h : LcL K H1 Dl L H) (h0 : H1 Dl = none) (him : imAll L = true) (hd : d.im = true) (r : Rp K H y d) :
    ∃ acc, H Dl = some (.lst acc) ∧ acc.length = L.length ∧ LcL K H1 Dl (L ++ [d]) (upd H Dl (.lst (acc ++ [y]))) := by
  obtain ⟨acc, h1, h2⟩ := h.l
  have hk : ∀ b o, b ≠ Dl → H b = some o → (upd H Dl (.lst (acc ++ [y]))) b = some o := fun b o n q => by rw [upd_ne n]; exact q
  refine ⟨acc, h1, h2.len, ⟨fun b o q => ?_, acc ++ [y], upd_same, ?_⟩⟩
  · rw [upd_ne (ne_of_none q h0)]
    exact h.s _ _ q
  · exact (RpAll.keep ⟨acc, h1⟩ hk _ _ him h2).snoc (Rp.keep ⟨acc, h1⟩ hk _ _ hd r)
/-- all but one list as it was -/
def Kp (H H' : Hp) : Prop := ∃ p, Lst H p ∧ ∀ b o, b ≠ p → H b = some o → H' b = some o
theorem Kp.rp {K : PySem.W.Frag} {H H' : Hp} {v : V} {d : D} (k : Kp H H') (h : Rp K H v d) (m : d.im = true) : Rp K H' v d := by
  obtain ⟨p, l, s⟩ := k
  exact Rp.keep l s d v m h
theorem Kp.rpA {K : PySem.W.Frag} {H H' : Hp} {v : List V} {d : List D} (k : Kp H H') (h : RpAll K H v d) (m : imAll d = true) : RpAll K H' v d := by
  obtain ⟨p, l, s⟩ := k
  exact RpAll.keep l s d v m h
/-- [elt for tg in iter for tg1 in iter1 (if c)]: F i j tells what the turn j in turn i brings -/
theorem ql_lc2 {elt tg1 iter1 : Expr} {ifs1 : List Expr} {scope : Scope} {vs vs1 : List Nat} {Q : VK} {σw : Sl} (hw : wipe σ vs = σw)
    (q : QI X tg iter σ H fun J H1 => ∃ (n : Nat) (G : Hp → Prop) (Y : Nat → Hp → V → Hp → Prop), Walk J n G Y ∧ (∀ H', Same H1 H' → G H') ∧ ∃ (m : Nat → Nat) (M : Nat) (F : Nat → Nat → Option D), n * M < sizeLine ∧ (∀ i, i < n → m i ≤ M) ∧ (∀ i j d, F i j = some d → d.im = true) ∧
      (∀ i x H2 H3, i < n → Same H1 H2 → Y i H2 x H3 → BG X scope tg x σw H3 fun σ2 H4 => wipe σ2 vs = σw ∧ BI X scope tg1 iter1 σ2 H4 fun J1 H5 => Same H2 H5 ∧ ∃ (G1 : Hp → Prop) (Y1 : Nat → Hp → V → Hp → Prop), Walk J1 (m i) G1 Y1 ∧ (∀ H', Same H1 H' → Kp H5 H' → G1 H') ∧
        ∀ j y H6 H7, j < m i → Same H1 H6 → Kp H5 H6 → Y1 j H6 y H7 → BG X scope tg1 y (wipe σ2 vs1) H7 fun σ3 H8 => wipe σ3 vs1 = wipe σ2 vs1 ∧
          QT1 X scope ifs1 σ3 H8 fun b H9 => (b = true → BE X scope elt σ3 H9 fun z H10 => Same H6 H10 ∧ ∃ d, F i j = some d ∧ Rp X.K H10 z d) ∧ (b = false → Same H6 H9 ∧ F i j = none)) ∧
      (∀ p H2 ys, Same H1 H2 → H1 p = none → H2 p = some (.lst ys) → RpAll X.K H2 ys (flat m F n) → Q (.ref p) H2)) : QL2 X elt tg iter tg1 iter1 [] ifs1 scope vs vs1 σ H Q := by
  show QI X tg iter σ H _
  refine q.imp fun J H1 ⟨n, G, Y, w, hG, m, M, F, hz, hm, him, hb, hq⟩ Dl hD => ?_
  refine ⟨fun i k H => k = n - i ∧ i ≤ n ∧ LcL X.K H1 Dl (flat m F i) H, ⟨n, by simp, Nat.zero_le _, ⟨same_new hD, [], upd_same, .nil⟩⟩, ?_⟩
  rintro i k H2 ⟨rfl, hi, p⟩
  by_cases hlt : i < n
  · refine .inr ⟨w.goes i H2 hlt (hG _ p.s), fun H' => LcL X.K H1 Dl (flat m F (i + 1)) H', fun H' p' => ⟨n - (i + 1), by omega, rfl, hlt, p'⟩, fun x H3 y => ?_⟩
    rw [hw]
    have hb' := hb i x H2 H3 hlt p.s (w.yields i H2 x H3 hlt (hG _ p.s) y)
    intro s H0 C cl fp pins s1 u I r
    refine thn (hb' s H0 C cl fp pins s1 u I r) fun _ s2 ⟨σ2, H4, I4, e4, b4⟩ => ⟨σ2, H4, I4, e4, ?_⟩
    delta QT1 tYes
    dsimp only
    rw [if_pos rfl]
    intro s H0 C cl fp pins s1 I
    refine thn (b4 s H0 C cl fp pins s1 I) fun v s3 h3 => ?_
    refine thn h3 fun itv s4 ⟨it, fp', tn, J1, H5, e, J2, T, t0, f, s5, G1, Y1, w1, hG1, hb1⟩ => ⟨it, fp', tn, J1, H5, e, J2, T, t0, f, ?_⟩
    obtain ⟨acc5, l5, _⟩ := (p.to s5).l
    refine ⟨fun j k H => k = m i - j ∧ j ≤ m i ∧ (∀ b o, b ≠ Dl → H5 b = some o → H b = some o) ∧ LcL X.K H1 Dl (flat m F i ++ bits j (F i)) H, ⟨m i, by simp, Nat.zero_le _, fun _ _ _ e => e, by simpa [bits] using p.to s5⟩, ?_⟩
    rintro j k H6 ⟨rfl, hj, s6, p6⟩
    by_cases hjlt : j < m i
    · refine .inr ⟨w1.goes j H6 hjlt (hG1 _ p6.s ⟨Dl, ⟨_, l5⟩, s6⟩), fun H' => (∀ b o, b ≠ Dl → H5 b = some o → H' b = some o) ∧ LcL X.K H1 Dl (flat m F i ++ bits (j + 1) (F i)) H', fun H' p' => ⟨m i - (j + 1), by omega, rfl, hjlt, p'.1, p'.2⟩, fun y H7 yy => ?_⟩
      have hb2 := hb1 j y H6 H7 hjlt p6.s ⟨Dl, ⟨_, l5⟩, s6⟩ (w1.yields j H6 y H7 hjlt (hG1 _ p6.s ⟨Dl, ⟨_, l5⟩, s6⟩) yy)
      intro s H0 C cl fp pins s1 u I r
      refine thn (hb2 s H0 C cl fp pins s1 u I r) fun _ s2 ⟨σ3, H8, I8, e8, b8⟩ => ⟨σ3, H8, I8, e8, ?_⟩
      have go : ∀ (b : Bool) (H9 : Hp), ((b = true → BE X scope elt σ3 H9 fun z H10 => Same H6 H10 ∧ ∃ d, F i j = some d ∧ Rp X.K H10 z d) ∧ (b = false → Same H6 H9 ∧ F i j = none)) →
          if b = true then BE X scope elt σ3 H9 fun y H7 => ∃ acc, H7 Dl = some (.lst acc) ∧ acc.length < sizeLine ∧ ((∀ b o, b ≠ Dl → H5 b = some o → (upd H7 Dl (.lst (acc ++ [y]))) b = some o) ∧ LcL X.K H1 Dl (flat m F i ++ bits (j + 1) (F i)) (upd H7 Dl (.lst (acc ++ [y])))) else ((∀ b o, b ≠ Dl → H5 b = some o → H9 b = some o) ∧ LcL X.K H1 Dl (flat m F i ++ bits (j + 1) (F i)) H9) := by
        intro b H9 ⟨t9, f9⟩
        cases b with
        | true =>
          rw [if_pos rfl]
          have t9 := t9 rfl
          intro s H0 C cl fp pins s1 I
          refine thn (t9 s H0 C cl fp pins s1 I) fun u s3 ⟨z, H10, I10, r10, s10, d, ed, rp⟩ => ⟨z, H10, I10, r10, ?_⟩
          obtain ⟨acc, g1, g2, g3⟩ := (p6.to s10).more hD (flat_im him i j i) (him _ _ _ ed) rp
          refine ⟨acc, g1, ?_, ?_, ?_⟩
          · rw [g2, List.length_append]
            have a1 := flat_len m F M i fun k hk => hm k (by omega)
            have a2 := bits_len j (F i)
            have a3 := hm i hlt
            have a4 : i * M + M ≤ n * M := by
              rw [← Nat.succ_mul]
              exact Nat.mul_le_mul_right _ hlt
            omega
          · intro b o hb e
            rw [upd_ne hb]
            exact s10 _ _ (s6 b o hb e)
          · rw [bits_succ, ed, ← List.append_assoc]
            exact g3
        | false =>
          rw [if_neg Bool.false_ne_true]
          obtain ⟨s9, e9⟩ := f9 rfl
          refine ⟨fun b o hb e => s9 _ _ (s6 b o hb e), ?_⟩
          rw [bits_succ, e9]
          simpa using p6.to s9
      cases ifs1 with
      | nil => exact go true H8 b8
      | cons c r =>
        cases r with
        | nil =>
          intro s H0 C cl fp pins s1 I
          refine thn (b8 s H0 C cl fp pins s1 I) fun b s3 ⟨H9, I9, b9⟩ => ⟨H9, I9, go b H9 b9⟩
        | cons _ _ => exact b8.elim
    · have e : j = m i := by omega
      subst e
      refine .inl ⟨w1.stops H6 (hG1 _ p6.s ⟨Dl, ⟨_, l5⟩, s6⟩), ?_⟩
      rw [flat_succ]
      exact p6
  · have e : i = n := by omega
    subst e
    obtain ⟨acc, h1, h2⟩ := p.l
    exact .inl ⟨w.stops H2 (hG _ p.s), hq Dl H2 acc p.s hD h1 h2⟩
end
end Sx

/-! St: try with several clauses, some of them with a name; raise. -/
namespace Sx
open PySem PySem.Spec PyProof.Rows L2

abbrev TSu := Addr → Value → Option Addr → TS
/-- the ends of a suite whose name (slot i) is struck behind it -/
def Ends.strike (E : Ends) (i : Nat) : Ends := { nx := fun σ H => E.nx (σ.set i none) H, rt := E.rt, bk := fun σ H => E.bk (σ.set i none) H, ct := fun σ H => E.ct (σ.set i none) H }
/-- what the clauses wish of an exception, one after another -/
def wMix (K : PySem.W.Frag) (W0 : WX) (E : Ends) : List (Value × Option Nat × TSu) → WX
  | [] => W0
  | (c, none, ts) :: r => fun k d σ H => ∃ b, PySem.W.exmOne K k c = some b ∧ (b = true → ∀ a, H a = none → ts a k d E σ H) ∧ (b = false → wMix K W0 E r k d σ H)
  | (c, some i, ts) :: r => fun k d σ H => ∃ b, PySem.W.exmOne K k c = some b ∧ (b = true → ∀ a, H a = none → ts a k d (Ends.strike E i) (σ.set i (some (.ref a))) H) ∧ (b = false → wMix K W0 E r k d σ H)
inductive Clauses (X : Cx) : List ExceptHandler → List (Value × Option Nat × TSu) → Prop
  | nil : Clauses X [] []
  | bare {x : Str} {c : Value} {ts : TSu} {b0 : Stmt} {su : List Stmt} {np ps : Pos} {hs : List ExceptHandler} {l : List (Value × Option Nat × TSu)} (hc : Names X x c)
      (hu : ∀ (a : Addr) (o : Obj) (k : Value) (d : Option Addr) (pn : List (Addr × Obj)), Zc k d o → (∃ vs, o.data = .fields vs) → PSs (X.suite a ((a, o) :: pn)) (b0 :: su) (ts a k d)) (r : Clauses X hs l) :
      Clauses X (.ExceptHandler (some (.Name x np)) none (b0 :: su) ps :: hs) ((c, none, ts) :: l)
  | as {x n : Str} {i : Nat} {c : Value} {ts : TSu} {b0 : Stmt} {su : List Stmt} {np ps : Pos} {hs : List ExceptHandler} {l : List (Value × Option Nat × TSu)} (hc : Names X x c) (nd : X.N.Nodup) (hi : X.N[i]? = some n) (hl : X.env.kindOf n = some .local)
      (hu : ∀ (a : Addr) (o : Obj) (k : Value) (d : Option Addr) (pn : List (Addr × Obj)), Zc k d o → (∃ vs, o.data = .fields vs) → PSs (X.suite a ((a, o) :: pn)) (b0 :: su) (ts a k d)) (r : Clauses X hs l) :
      Clauses X (.ExceptHandler (some (.Name x np)) (some n) (b0 :: su) ps :: hs) ((c, some i, ts) :: l)
section
variable {X : Cx} {body : List Stmt} {h1 : ExceptHandler} {hs : List ExceptHandler} {l : List (Value × Option Nat × TSu)} {pos : Pos} {tb : WX → TS} {W0 : WX}
theorem ps_mix (hst : X.stack = X.env :: X.outer) (hfr0 : X.env.frame = some X.env.locals) (tk : Takes X W0)
    (hb : ∀ (W : WX) (pn : List (Addr × Obj)) (xe : Value → Shared → Prop), Takes (X.tr pn xe) W → PassesOwn (model X.prog X.w) X.A X.env xe → PSs (X.tr pn xe) body (tb W))
    (hh : Clauses X (h1 :: hs) l) : PS X (.Try body (h1 :: hs) [] [] pos) (fun E σ H => tb (wMix X.K W0 E l) E σ H) := by
  refine ⟨fun pins s σ H E I hw => ?_⟩
  have ok := I.ok
  have fr : X.A.frames = some (X.env :: X.outer) := ok.frames.trans (by rw [hst])
  refine wpAny_Try_except (wpAny_mono ((hb (wMix X.K W0 E l) (X.pn ++ pins) (fun e z1 => wpAny (model X.prog X.w) X.A (noteFrame e X.env) (fun _ z2 => wpAny (model X.prog X.w) X.A (setFlight e none) (fun _ z3 =>
    wpAny (model X.prog X.w) X.A (handleBy e X.env (h1 :: hs)) (SP X pins E) X.xe z3) X.xe z2) X.xe z1) (fun u z xx => ?_) PassesOwn.looking).run [] s σ H E (I.toTry _) hw) (fun f z hz => ?_) fun _ _ he => he)
  · obtain ⟨a, B, sI, pi2, τ, H', k, d, rfl, J', nb, up, sky, na, os, ag, wi⟩ := xx
    have J : Inv X pins τ H' sI := J'.ofTry ok
    have sky2 : Sky B (X.env :: X.outer) a (Zc k d) X.env.locals z.heap := by rw [hst] at sky; exact sky
    show wpAny (model X.prog X.w) X.A (noteFrame (.ref a) X.env) _ _ _
    refine Sky.land Zc.steady fr hfr0 sky2 fun g fl upg => ?_
    have Jg : Inv X pins τ H' { z with heap := g } := J.landed nb fl.1 (up.trans upg) os ag
    obtain ⟨og, vg, hog, hzg, hdg⟩ := fl.there
    have noFrame : a ∉ frs (X.env :: X.outer) := fun hm => by
      obtain ⟨_, o', e', q⟩ := fl.2.2.1.mem hm
      rw [hog] at e'
      cases e'
      exact q _ hdg
    have nL : a ≠ X.env.locals := fun q => noFrame (List.mem_filterMap.mpr ⟨X.env, List.mem_cons_self, by rw [hfr0, q]⟩)
    have nF : a ∉ X.fs := fun hm => by
      obtain ⟨e, he, q⟩ := List.mem_filterMap.mp hm
      exact noFrame (List.mem_filterMap.mpr ⟨e, List.mem_cons_of_mem _ he, q⟩)
    have Sg := Jg.suite hog hdg na nL nF
    have LT : PySem.W.Looks (model X.prog X.w) g (typeOf (.ref a)) k := fun A Q E' s' kk q => wpAny_typeOf_ref (kk _ _ hog) (by rw [hzg.1]; exact q)
    have look : ∀ {x : Str} {c : Value} {np : Pos} {Q : Value → Shared → Prop} {E' : Value → Shared → Prop}, Names X x c → Q c { z with heap := g } → wpAny (model X.prog X.w) (X.A.mark (some (.ref a))) (eval (.Name x np) X.env) Q E' { z with heap := g } := fun {x c np Q E'} hc q => by
      obtain ⟨hg, hdb, hm | ⟨hm, hv, hnn⟩⟩ := hc
      · exact ld_glob (X := X.suite a ((a, og) :: (X.pn ++ pins))) Sg hg hm q hdb
      · exact ld_blt (X := X.suite a ((a, og) :: (X.pn ++ pins))) Sg hg hm hv q hnn hdb
    have go : ∀ {hs' : List ExceptHandler} {l' : List (Value × Option Nat × TSu)}, Clauses X hs' l' → wMix X.K W0 E l' k d τ H' → wpAny (model X.prog X.w) X.A (handleBy (.ref a) X.env hs') (SP X pins E) X.xe { z with heap := g } := by
      intro hs' l' hk
      induction hk with
      | nil =>
        intro wi
        refine wpAny_handleBy_nil ?_
        obtain ⟨_, _, _, oe, vs, T, _, _, he, _, hd, hT, _⟩ := id fl
        unfold PySem.passOn
        refine wpAny_bind (wpAny_field he hd hT ?_)
        rw [if_neg (show ¬ ((Value.ref T == Value.none) = true) from by simp)]
        have fin : wpAny (model X.prog X.w) X.A (setFlight (.ref a) X.env.frame) (fun _ z4 => wpAny (model X.prog X.w) X.A (throw (.ref a) : Sem Flow) (SP X pins E) X.xe z4) X.xe { z with heap := g } := by
          rw [hfr0]
          exact HandSPX.setFlight_upZ fl fun h4 hh4 up4 => wpAny_throw (tk _ _ ⟨a, B, sI, pins, τ, H', k, d, rfl, J, nb, (up.trans upg).trans up4, .inr (.inr (by rw [hst]; exact hh4)), na, os, ag, wi⟩)
        first | exact wpAny_bind (wpAny_pure (wpAny_bind fin)) | exact wpAny_bind fin
      | @bare x c ts b0 su np ps hs2 l2 hc hu r ih =>
        intro wi
        obtain ⟨b, e1, yes, no⟩ := wi
        refine wpAny_handleBy_cons (codeAny_handlers_test (look hc ((PySem.W.exm_one (M := model X.prog X.w) Jg.kIn LT e1).here ?_))) (fun q => by cases q)
        cases b with
        | false => exact ih (no rfl)
        | true =>
          refine codeAny_handlers_suite (HandSPX.lands_againZ fl fun h4 fl4 up4 => ?_)
          have J4 : Inv X pins τ H' { z with heap := h4 } := J.landed nb fl4.1 ((up.trans upg).trans up4) os ag
          obtain ⟨o4, v4, he4, hz4, hd4⟩ := fl4.there
          refine wpAny_mono ((hu a o4 k d (X.pn ++ pins) hz4 ⟨_, hd4⟩).run [] _ _ H' _ (J4.suite he4 hd4 na nL nF) (yes rfl a na)) (fun f z6 hz6 => ?_) fun _ _ q => q.elim
          cases f with
          | next => obtain ⟨σ6, H6, S6, q6⟩ := hz6; exact ⟨_, _, S6.unsuite ok, q6⟩
          | brk => obtain ⟨σ6, H6, S6, q6⟩ := hz6; exact ⟨_, _, S6.unsuite ok, q6⟩
          | cont => obtain ⟨σ6, H6, S6, q6⟩ := hz6; exact ⟨_, _, S6.unsuite ok, q6⟩
          | ret u => obtain ⟨v6, σ6, H6, S6, r6, q6⟩ := hz6; exact ⟨_, _, _, S6.unsuite ok, r6, q6⟩
      | @as x n i c ts b0 su np ps hs2 l2 hc nd hi hl hu r ih =>
        intro wi
        obtain ⟨b, e1, yes, no⟩ := wi
        refine wpAny_handleBy_cons (codeAny_handlers_test (look hc ((PySem.W.exm_one (M := model X.prog X.w) Jg.kIn LT e1).here ?_))) (fun q => by cases q)
        cases b with
        | false => exact ih (no rfl)
        | true =>
          refine codeAny_handlers_suite_as (HandSPX.lands_againZ fl fun h4 fl4 up4 => ?_)
          have J4 : Inv X pins τ H' { z with heap := h4 } := J.landed nb fl4.1 ((up.trans upg).trans up4) os ag
          obtain ⟨o4, v4, he4, hz4, hd4⟩ := fl4.there
          refine store_ok (X := X.suite a ((a, o4) :: (X.pn ++ pins))) (v := .ref a) (J4.suite he4 hd4 na nL nF) nd hi (.inl hl) rfl (fun s5 S5 => ?_) (.inr hl)
          refine wpAny_mono ((hu a o4 k d (X.pn ++ pins) hz4 ⟨_, hd4⟩).run [] s5 _ H' _ S5 (yes rfl a na)) (fun f z6 hz6 => ?_) fun _ _ q => q.elim
          have off : ∀ {σ6 : Sl} {H6 : Hp} {Q : Shared → Prop}, Inv (X.suite a ((a, o4) :: (X.pn ++ pins))) [] σ6 H6 z6 → (∀ z7, Inv X pins (σ6.set i none) H6 z7 → Q z7) →
              wpAny (model X.prog X.w) X.A (do bindName X.env n .none; unbindBehindTheSuite X.env n ps) (fun _ z7 => Q z7) X.xe z6 := fun {σ6 H6 Q} S6 q => gone_ok (S6.unsuite ok) nd hi hl q
          cases f with
          | next => obtain ⟨σ6, H6, S6, q6⟩ := hz6; exact off S6 fun z7 J7 => ⟨_, _, J7, q6⟩
          | brk => obtain ⟨σ6, H6, S6, q6⟩ := hz6; exact off S6 fun z7 J7 => ⟨_, _, J7, q6⟩
          | cont => obtain ⟨σ6, H6, S6, q6⟩ := hz6; exact off S6 fun z7 J7 => ⟨_, _, J7, q6⟩
          | ret u => obtain ⟨v6, σ6, H6, S6, r6, q6⟩ := hz6; exact off S6 fun z7 J7 => ⟨_, _, _, J7, r6, q6⟩
    exact go hh wi
  · cases f with
    | next => obtain ⟨τ, H', J', q⟩ := hz; exact wpAny_execs_nil ⟨τ, H', J'.ofTry ok, q⟩
    | brk => obtain ⟨τ, H', J', q⟩ := hz; exact ⟨τ, H', J'.ofTry ok, q⟩
    | cont => obtain ⟨τ, H', J', q⟩ := hz; exact ⟨τ, H', J'.ofTry ok, q⟩
    | ret u => obtain ⟨v, τ, H', J', r, q⟩ := hz; exact ⟨v, τ, H', J'.ofTry ok, r, q⟩
end
end Sx

/-! Sr: rules for containers, subscripts, calls that raise. -/
namespace Sx
open PySem PySem.Spec PyProof.Rows L2

section
variable {K : PySem.W.Frag} {H : Hp}
theorem RpAll.ats : ∀ {vs : List V} {ds : List D} {i : Int} {d : D}, RpAll K H vs ds → atI ds i = some d → ∃ v, atI vs i = some v ∧ Rp K H v d := by
  intro vs ds i d h e
  unfold atI at e ⊢
  rw [h.len]
  cases w : ixN ds.length i with
  | none => rw [w] at e; cases e
  | some j =>
    rw [w] at e
    exact h.getD' e
theorem Rp.tup_inv {v : V} {ds : List D} (h : Rp K H v (.tup ds)) : ∃ a xs, v = .ref a ∧ SqT K H a xs ∧ RpAll K H xs ds := by
  cases h with
  | tup h1 h2 => exact ⟨_, _, rfl, h1, h2⟩
theorem Rp.lst_inv {v : V} {ds : List D} (h : Rp K H v (.lst ds)) : ∃ a xs, v = .ref a ∧ SqL K H a xs ∧ RpAll K H xs ds := by
  cases h with
  | lst h1 h2 => exact ⟨_, _, rfl, h1, h2⟩
theorem Rp.int_inv {v : V} {i : Int} (h : Rp K H v (.int i)) : v = .int i := by cases h; rfl
theorem Rp.bl_inv {v : V} {i : Bool} (h : Rp K H v (.bl i)) : v = .bl i := by cases h; rfl
theorem Rp.str_inv {v : V} {i : Str} (h : Rp K H v (.str i)) : v = .str i := by cases h; rfl
theorem Rp.non_inv {v : V} (h : Rp K H v .non) : v = .non := by cases h; rfl
theorem Rp.tupOf {a : Addr} {xs : List V} {ds : List D} (h : H a = some (.tup xs)) (r : RpAll K H xs ds) : Rp K H (.ref a) (.tup ds) := .tup (.inl (.inl h)) r
theorem Rp.lstOf {a : Addr} {xs : List V} {ds : List D} (h : H a = some (.lst xs)) (r : RpAll K H xs ds) : Rp K H (.ref a) (.lst ds) := .lst (.inl (.inl h)) r
end

section
variable (X : Cx)
def IxW (x y : V) (H : Hp) (Q : VK) : Prop := ∀ (value slice : Expr) (pins : List (Addr × Obj)) (s : Shared) (σ : Sl) (v u : Value), Inv X pins σ H s → RelV x v → RelV y u →
  subscripted slice false v u = operate [v, u] (getItem v u) → wpAny (model X.prog X.w) X.A (subscriptTail value slice v u) (EP X pins σ Q) X.xe s
def SetW (o i v : V) (H : Hp) (Q : Hp → Prop) : Prop := ∀ (pins : List (Addr × Obj)) (s : Shared) (σ : Sl) (ov iv u : Value), Inv X pins σ H s → RelV o ov → RelV i iv → RelV v u → wpAny (model X.prog X.w) X.A (setItem ov iv u) (fun _ s' => ∃ H', Inv X pins σ H' s' ∧ Q H') X.xe s
end
section
variable {X : Cx} {a b : Expr} {σ : Sl} {H : Hp} {Q : VK} {x y v w : V} {pos p : Pos} {d d' : D} {ds es : List D}
theorem ix_sem : IxR X (IxW X) := fun value slice pins s σ _ _ _ v u _ I rx ry h hs => h value slice pins s σ v u I rx ry hs
theorem we_ix (hs : PlainIx b) (q : QE X a σ H fun x H1 => QE X b σ H1 fun y H2 => IxW X x y H2 Q) : QE X (.Subscript a b pos) σ H Q := we_of (pe_ix ix_sem pe_sem pe_sem hs) q
theorem ixw_of {r : R2} (h : IxR X r) (q : r x y H Q) : IxW X x y H Q := fun value slice pins s σ v u I rx ry hs => h value slice pins s σ H x y v u Q I rx ry q hs
theorem ixw_tup {i : Int} (h : Rp X.K H x (.tup ds)) (e : atI ds i = some d) (q : ∀ v, Rp X.K H v d → Q v H) : IxW X x (.int i) H Q := by
  obtain ⟨a, xs, rfl, h1, h2⟩ := h.tup_inv
  obtain ⟨v, h3, h4⟩ := h2.ats e
  exact ixw_of ix_tup ⟨a, xs, i, v, rfl, rfl, h1, h3, q v h4⟩
theorem ixw_lst {i : Int} (h : Rp X.K H x (.lst ds)) (e : atI ds i = some d) (q : ∀ v, Rp X.K H v d → Q v H) : IxW X x (.int i) H Q := by
  obtain ⟨a, xs, rfl, h1, h2⟩ := h.lst_inv
  obtain ⟨v, h3, h4⟩ := h2.ats e
  exact ixw_of ix_list ⟨a, xs, i, v, rfl, rfl, h1, h3, q v h4⟩
theorem ixw_sl {i : Int} {a : Addr} {xs : List V} {v : V} (h : SqL X.K H a xs) (e : atI xs i = some v) (q : Q v H) : IxW X (.ref a) (.int i) H Q := ixw_of ix_list ⟨a, xs, i, v, rfl, rfl, h, e, q⟩
theorem ixw_st {i : Int} {a : Addr} {xs : List V} {v : V} (h : SqT X.K H a xs) (e : atI xs i = some v) (q : Q v H) : IxW X (.ref a) (.int i) H Q := ixw_of ix_tup ⟨a, xs, i, v, rfl, rfl, h, e, q⟩
/-! xs[i] = v -/
theorem set_sem : PSet X (SetW X) := fun pins s σ H o i v ov iv u Q I ro ri rv h => h pins s σ ov iv u I ro ri rv
theorem wg_sub {o i : Expr} {Q : Sl → Hp → Prop} (ha : ∀ v, assign (.Subscript o i pos) X.env v = (do
      let ov ← holding [v] (eval o X.env)
      let iv ← holding [v, ov] (eval i X.env)
      standAt pos
      holding [v, ov, iv] (setItem ov iv v)
      release [v, ov, iv] [])) (q : QE X o σ H fun x H1 => QE X i σ H1 fun y H2 => SetW X x y v H2 (Q σ)) : QG X (.Subscript o i pos) v σ H Q :=
  wg_of (pg_sub pe_sem pe_sem set_sem ha) q
theorem setw_lst {o : Addr} {xs : List V} {k : Int} {j : Nat} {Q : Hp → Prop} (h : H o = some (.lst xs)) (e : ixN xs.length k = some j) (q : Q (upd H o (.lst (xs.set j v)))) : SetW X (.ref o) (.int k) v H Q :=
  fun pins s σ ov iv u I ro ri rv => set_list pins s σ H (.ref o) (.int k) v ov iv u Q I ro ri rv ⟨o, xs, k, j, rfl, rfl, h, e, q⟩
/-! ### len, concat, conversions, all, any, sum -/
theorem callw_len_t (h : Rp X.K H x (.tup ds)) (q : Q (.int ds.length) H) : CallW X (.builtin "len") [x] H Q := by
  obtain ⟨a, xs, rfl, h1, h2⟩ := h.tup_inv
  refine callw_of call_len ⟨.ref a, xs.length, rfl, ?_, by rw [h2.len]; exact q⟩
  exact .inr ⟨xs, h1, rfl⟩
theorem callw_len_l (h : Rp X.K H x (.lst ds)) (q : Q (.int ds.length) H) : CallW X (.builtin "len") [x] H Q := by
  obtain ⟨a, xs, rfl, h1, h2⟩ := h.lst_inv
  refine callw_of call_len ⟨.ref a, xs.length, rfl, ?_, by rw [h2.len]; exact q⟩
  exact .inl ⟨xs, h1, rfl⟩
theorem callw_all {a : Addr} {xs : List V} {bs : List Bool} (hc : X.calm = true) (h : H a = some (.lst xs)) (r : RpAll X.K H xs (bs.map D.bl)) (q : Q (.bl (bs.all id)) H) : CallW X (.builtin "all") [.ref a] H Q := by
  refine callw_of (cr_all hc) ⟨a, bs, rfl, ?_, q⟩
  rw [← r.bls_inv]
  exact .inl (.inl h)
theorem callw_any {a : Addr} {xs : List V} {bs : List Bool} (hc : X.calm = true) (h : H a = some (.lst xs)) (r : RpAll X.K H xs (bs.map D.bl)) (q : Q (.bl (bs.any id)) H) : CallW X (.builtin "any") [.ref a] H Q := by
  refine callw_of (cr_any hc) ⟨a, bs, rfl, ?_, q⟩
  rw [← r.bls_inv]
  exact .inl (.inl h)
theorem callw_sum {a : Addr} {xs : List V} {ns : List Int} (hc : X.calm = true) (h : H a = some (.lst xs)) (r : RpAll X.K H xs (ns.map D.int)) (q : Q (.int ns.sum) H) : CallW X (.builtin "sum") [.ref a] H Q := by
  refine callw_of (cr_sum hc) ⟨a, ns, rfl, ?_, q⟩
  rw [← r.ints_inv]
  exact .inl (.inl h)
theorem callw_tuple_t (h : Rp X.K H x (.tup ds)) (q : Q x H) : CallW X (.type "tuple") [x] H Q := by
  obtain ⟨a, xs, rfl, h1, h2⟩ := h.tup_inv
  exact callw_of call_tuple_of ⟨a, xs, rfl, .inr ⟨h1, q⟩⟩
theorem callw_tuple_l (h : Rp X.K H x (.lst ds)) (q : ∀ v H', Same H H' → Rp X.K H' v (.tup ds) → Q v H') : CallW X (.type "tuple") [x] H Q := by
  obtain ⟨a, xs, rfl, h1, h2⟩ := h.lst_inv
  exact callw_of call_tuple_of ⟨a, xs, rfl, .inl ⟨h1, fun l hl => q _ _ (same_new hl) (.tupOf upd_same (h2.to (same_new hl)))⟩⟩
theorem opw_catT (h1 : Rp X.K H x (.tup ds)) (h2 : Rp X.K H y (.tup es)) (hl : ds.length + es.length ≤ sizeLine) (q : ∀ v H', Same H H' → Rp X.K H' v (.tup (ds ++ es)) → Q v H') : OpW X (binaryOp .Add) x y H Q := by
  obtain ⟨a, xs, rfl, h3, h4⟩ := h1.tup_inv
  obtain ⟨b, ys, rfl, h5, h6⟩ := h2.tup_inv
  refine opw_of op_catA ⟨a, b, xs, ys, rfl, rfl, h3, h5, by rw [h4.len, h6.len]; exact hl, fun e => ?_, fun _ e => ?_, fun _ _ p hp => ?_⟩
  · subst e
    cases h4
    exact q _ _ (Same.refl _) h2
  · subst e
    cases h6
    rw [List.append_nil] at q
    exact q _ _ (Same.refl _) h1
  · exact q _ _ (same_new hp) (.tupOf upd_same ((h4.app h6).to (same_new hp)))
theorem opw_catL {a b : Addr} {xs ys : List V} (h1 : H a = some (.lst xs)) (h2 : H b = some (.lst ys)) (hl : xs.length + ys.length ≤ sizeLine) (q : ∀ p H', H p = none → Same H H' → H' p = some (.lst (xs ++ ys)) → Q (.ref p) H') : OpW X (binaryOp .Add) (.ref a) (.ref b) H Q :=
  opw_of op_cat ⟨a, b, xs, ys, rfl, rfl, h1, h2, hl, fun p hp => q _ _ hp (same_new hp) upd_same⟩
theorem callw_strI {i : Int} (hb : i.natAbs.log2 < 1920) (q : Q (.str (toString i)) H) : CallW X (.type "str") [.int i] H Q := callw_of call_str_int ⟨i, rfl, hb, q⟩
theorem we_join {o e : Expr} {apos : Pos} {z : Str} (q : QE X o σ H fun x H1 => x = .str z ∧ QE X e σ H1 fun y H2 => ∃ ys : List Str, (Rp X.K H2 y (.lst (ys.map D.str)) ∨ Rp X.K H2 y (.tup (ys.map D.str))) ∧ (ys.map (·.length)).sum + ys.length * z.length ≤ 16777216 ∧ Q (.str (Txt.join z ys)) H2)
    (hs : starEach [e] X.env = [(false, eval e X.env)]) (hbase : attributeBase o "join" X.env (eval o X.env) = eval o X.env) (hline : (apos.endLine == pos.line) = true) : QE X (.Call (.Attribute o "join" apos) [e] [] pos) σ H Q := by
  refine we_of (pe_join pe_sem pe_sem hs hbase hline) ?_
  intro pins s I
  refine thn (q pins s I) fun u s1 ⟨x, H1, I1, r1, ex, q1⟩ => ⟨x, H1, I1, r1, ⟨z, ex⟩, ?_⟩
  intro pins s I
  refine thn (q1 pins s I) fun u s1 ⟨y, H2, I2, r2, ys, h, hz, q2⟩ => ⟨y, H2, I2, r2, ?_⟩
  rcases h with h | h
  · obtain ⟨a, xs, rfl, h1, h2⟩ := h.lst_inv
    rw [h2.strs_inv] at h1
    exact ⟨z, a, ys, ex, rfl, .inl h1, hz, q2⟩
  · obtain ⟨a, xs, rfl, h1, h2⟩ := h.tup_inv
    rw [h2.strs_inv] at h1
    exact ⟨z, a, ys, ex, rfl, .inr h1, hz, q2⟩
end
/-! ### equality of data: ints, texts, tuples and lists of such -/
mutual
def D.pure : D → Bool
  | .non => true
  | .int _ => true
  | .str x => PyData.strOk x
  | .tup ds => pureAll ds
  | .lst ds => pureAll ds
  | _ => false
def pureAll : List D → Bool
  | [] => true
  | d :: r => d.pure && pureAll r
end
mutual
def D.dep : D → Nat
  | .tup ds => depAll ds + 1
  | .lst ds => depAll ds + 1
  | _ => 0
def depAll : List D → Nat
  | [] => 0
  | d :: r => max d.dep (depAll r)
end
mutual
theorem D.pure_py : ∀ d : D, d.pure = true → ∃ e, d.py = some e ∧ e.canLay0 = true ∧ e.depth = d.dep
  | .non, _ => ⟨_, rfl, rfl, rfl⟩
  | .int _, _ => ⟨_, rfl, rfl, rfl⟩
  | .str _, h => ⟨_, rfl, h, rfl⟩
  | .tup ds, h => by
    obtain ⟨es, h1, h2, h3⟩ := pureAll_py ds (by simpa [D.pure] using h)
    exact ⟨.tuple es, by simp [D.py, h1], by simpa [PyData.canLay0] using h2, by simp [PyData.depth, D.dep, h3]⟩
  | .lst ds, h => by
    obtain ⟨es, h1, h2, h3⟩ := pureAll_py ds (by simpa [D.pure] using h)
    exact ⟨.list es, by simp [D.py, h1], by simpa [PyData.canLay0] using h2, by simp [PyData.depth, D.dep, h3]⟩
  | .bl _, h => by simp [D.pure] at h
  | .obj _ _ _, h => by simp [D.pure] at h
theorem pureAll_py : ∀ ds : List D, pureAll ds = true → ∃ es, pyAll ds = some es ∧ PyData.canLayAll0 es = true ∧ PyData.depthAll es = depAll ds
  | [], _ => ⟨[], rfl, rfl, rfl⟩
  | d :: r, h => by
    have h' : d.pure = true ∧ pureAll r = true := by simpa [pureAll] using h
    obtain ⟨e, h1, h2, h3⟩ := D.pure_py d h'.1
    obtain ⟨es, g1, g2, g3⟩ := pureAll_py r h'.2
    exact ⟨e :: es, by simp [pyAll, h1, g1], by simp [PyData.canLayAll0, h2, g2], by simp [PyData.depthAll, depAll, h3, g3]⟩
end
mutual
theorem D.eqv_iff : ∀ (d1 d2 : D) (e1 e2 : PyData), d1.pure = true → d2.pure = true → d1.py = some e1 → d2.py = some e2 → (PyData.eqv e1 e2 = true ↔ d1 = d2)
  | .bl _, _, _, _, h, _, _, _ => by simp [D.pure] at h
  | .obj _ _ _, _, _, _, h, _, _, _ => by simp [D.pure] at h
  | .non, d2, e1, e2, _, p2, q1, q2 => by
    cases q1
    cases d2 <;> simp [D.py, D.pure] at q2 p2 <;> first | (subst q2; simp [PyData.eqv]) | (obtain ⟨_, _, rfl⟩ := q2; simp [PyData.eqv])
  | .int _, d2, e1, e2, _, p2, q1, q2 => by
    cases q1
    cases d2 <;> simp [D.py, D.pure] at q2 p2 <;> first | (subst q2; simp [PyData.eqv]) | (obtain ⟨_, _, rfl⟩ := q2; simp [PyData.eqv])
  | .str _, d2, e1, e2, _, p2, q1, q2 => by
    cases q1
    cases d2 <;> simp [D.py, D.pure] at q2 p2 <;> first | (subst q2; simp [PyData.eqv]) | (obtain ⟨_, _, rfl⟩ := q2; simp [PyData.eqv])
  | .tup ds, d2, e1, e2, p1, p2, q1, q2 => by
    simp only [D.py, Option.map_eq_some_iff] at q1
    obtain ⟨es, h1, rfl⟩ := q1
    cases d2 with
    | tup ds2 =>
      simp only [D.py, Option.map_eq_some_iff] at q2
      obtain ⟨es2, h2, rfl⟩ := q2
      have := pureAll_iff ds ds2 es es2 (by simpa [D.pure] using p1) (by simpa [D.pure] using p2) h1 h2
      simp [PyData.eqv, this]
    | lst ds2 =>
      simp only [D.py, Option.map_eq_some_iff] at q2
      obtain ⟨es2, h2, rfl⟩ := q2
      simp [PyData.eqv]
    | non => cases q2; simp [PyData.eqv]
    | int => cases q2; simp [PyData.eqv]
    | str => cases q2; simp [PyData.eqv]
    | bl => cases q2; simp [PyData.eqv]
    | obj => simp [D.pure] at p2
  | .lst ds, d2, e1, e2, p1, p2, q1, q2 => by
    simp only [D.py, Option.map_eq_some_iff] at q1
    obtain ⟨es, h1, rfl⟩ := q1
    cases d2 with
    | lst ds2 =>
      simp only [D.py, Option.map_eq_some_iff] at q2
      obtain ⟨es2, h2, rfl⟩ := q2
      have := pureAll_iff ds ds2 es es2 (by simpa [D.pure] using p1) (by simpa [D.pure] using p2) h1 h2
      simp [PyData.eqv, this]
    | tup ds2 =>
      simp only [D.py, Option.map_eq_some_iff] at q2
      obtain ⟨es2, h2, rfl⟩ := q2
      simp [PyData.eqv]
    | non => cases q2; simp [PyData.eqv]
    | int => cases q2; simp [PyData.eqv]
    | str => cases q2; simp [PyData.eqv]
    | bl => cases q2; simp [PyData.eqv]
    | obj => simp [D.pure] at p2
theorem pureAll_iff : ∀ (d1 d2 : List D) (e1 e2 : List PyData), pureAll d1 = true → pureAll d2 = true → pyAll d1 = some e1 → pyAll d2 = some e2 → (PyData.eqvAll e1 e2 = true ↔ d1 = d2)
  | [], d2, e1, e2, _, p2, q1, q2 => by
    cases q1
    cases d2 with
    | nil => cases q2; simp [PyData.eqvAll]
    | cons a r =>
      unfold pyAll at q2
      cases w1 : a.py <;> cases w2 : pyAll r <;> rw [w1, w2] at q2 <;> cases q2
      simp [PyData.eqvAll]
  | d :: ds, d2, e1, e2, p1, p2, q1, q2 => by
    have p1' : d.pure = true ∧ pureAll ds = true := by simpa [pureAll] using p1
    unfold pyAll at q1
    cases v1 : d.py <;> cases v2 : pyAll ds <;> rw [v1, v2] at q1 <;> cases q1
    cases d2 with
    | nil => cases q2; simp [PyData.eqvAll]
    | cons a r =>
      have p2' : a.pure = true ∧ pureAll r = true := by simpa [pureAll] using p2
      unfold pyAll at q2
      cases w1 : a.py <;> cases w2 : pyAll r <;> rw [w1, w2] at q2 <;> cases q2
      have g1 := D.eqv_iff d a _ _ p1'.1 p2'.1 v1 w1
      have g2 := pureAll_iff ds r _ _ p1'.2 p2'.2 v2 w2
      simp [PyData.eqvAll, g1, g2]
end
section
variable {X : Cx} {σ : Sl} {H : Hp} {Q : VK} {x y v w : V} {d d' : D}
theorem shaped_of {d : D} {e : PyData} (h : d.py = some e) (p : d.pure = true) (z : d.dep ≤ 64) : SeqAt.shaped e = true := by
  obtain ⟨e', h1, h2, h3⟩ := d.pure_py p
  rw [h] at h1
  cases h1
  unfold SeqAt.shaped
  rw [h2, h3]
  simpa using z
theorem opw_eqd {j : Nat} (hr : Room j X.A) (h1 : Rp X.K H x d) (h2 : Rp X.K H y d') (p1 : d.pure = true) (p2 : d'.pure = true) (z1 : d.dep ≤ 64) (z2 : d'.dep ≤ 64) (q : ∀ b : Bool, (b = true ↔ d = d') → Q (.bl b) H) : OpW X (compareOp .Eq) x y H Q := by
  obtain ⟨e1, a1, b1, c1⟩ := d.pure_py p1
  obtain ⟨e2, a2, b2, c2⟩ := d'.pure_py p2
  exact opw_of (op_eqD hr.units) ⟨e1, e2, Rp.py _ _ _ h1 a1, Rp.py _ _ _ h2 a2, shaped_of a1 p1 z1, shaped_of a2 p2 z2, q _ (D.eqv_iff _ _ _ _ p1 p2 a1 a2)⟩
theorem opw_ned {j : Nat} (hr : Room j X.A) (h1 : Rp X.K H x d) (h2 : Rp X.K H y d') (p1 : d.pure = true) (p2 : d'.pure = true) (z1 : d.dep ≤ 64) (z2 : d'.dep ≤ 64) (q : ∀ b : Bool, (b = true ↔ d = d') → Q (.bl (!b)) H) : OpW X (compareOp .NotEq) x y H Q := by
  obtain ⟨e1, a1, b1, c1⟩ := d.pure_py p1
  obtain ⟨e2, a2, b2, c2⟩ := d'.pure_py p2
  exact opw_of (op_neD hr.units) ⟨e1, e2, Rp.py _ _ _ h1 a1, Rp.py _ _ _ h2 a2, shaped_of a1 p1 z1, shaped_of a2 p2 z2, q _ (D.eqv_iff _ _ _ _ p1 p2 a1 a2)⟩
end
/-! ### calls that may raise, raise, try -/
section
variable {X : Cx} {e : Expr} {es : List Expr} {body : List Stmt} {st : Stmt} {σ : Sl} {H : Hp} {Q : VK} {E : Ends} {pos p : Pos} {x : Str} {W : WX}
theorem passX (tk : Takes X W) (σ : Sl) : Passes (L2.CX X.prog X.w) X fun c d H' => ∀ σ, W c d σ H' := fun pins σ H s u s' I c => tk u s' (XE.of_call I (fun _ _ _ h => h σ) c)
theorem we_callX {j k : Nat} {sp : Sp} {dvs : List V} (c : CalX X.prog X.w X.K X.mg X.base k x sp dvs) (tk : Takes X W) (hr : Room j X.A) (hk : k ≤ j) (hg : Gl X x)
    (q : QA X (e :: es) σ H fun vs H1 => sp (vs ++ dvs) H1 Q fun c d H' => ∀ σ, W c d σ H')
    (hdb : (x == ("__debug__" : Str)) = false := by decide) (he : starEach (e :: es) X.env = (false, eval e X.env) :: starEach es X.env := by rfl) (hpl : (backTo pos (starEach es X.env)).any (·.1) = false := by rfl) :
    QE X (.Call (.Name x p) (e :: es) [] pos) σ H Q := by
  obtain ⟨f, fd, ps, ds, F, hm, kp, b, d⟩ := c.ex
  exact we_of (pe_call F (hr.mono hk) hg hm kp b d (passX tk σ) pa_sem hdb he hpl) q
/-- a local name that holds a def -/
theorem we_callLX {N : List Str} {i j k : Nat} {f : Addr} {fd : FuncData} {ps : List Str} {sp : Sp} {dvs : List V} {ds : List Value} (F : FnOk X.prog X.w X.K X.mg X.base (L2.CX X.prog X.w) k f fd ps sp) (kp : PySem.W.keepIn X.K (.ref f) = true) (b : Binds X.K fd ps ds) (d : Vals dvs ds) (tk : Takes X W) (hr : Room j X.A) (hk : k ≤ j)
    (h : Var N σ x (.ref f) i) (hN : X.N = N) (hv : Vis X.env.scope x) (q : QA X (e :: es) σ H fun vs H1 => sp (vs ++ dvs) H1 Q fun c d H' => ∀ σ, W c d σ H')
    (hdb : (x == ("__debug__" : Str)) = false := by decide) (hcd : (x == ("__classdict__" : Str)) = false := by decide) (he : starEach (e :: es) X.env = (false, eval e X.env) :: starEach es X.env := by rfl) (hpl : (backTo pos (starEach es X.env)).any (·.1) = false := by rfl) :
    QE X (.Call (.Name x p) (e :: es) [] pos) σ H Q :=
  we_of (pe_callL (i := i) F (hr.mono hk) (hN ▸ h.n) hv kp b d (passX tk σ) pa_sem hdb hcd he hpl) ⟨h.v, q⟩
theorem ws_raise {C : Addr} {bmB : List Value} {B newId initId : String} {m : Str} {j : Nat} {p2 cpos : Pos} (hc : X.calm = true) (tk : Takes X W) (F : ExcBaseFacts B newId initId bmB) (c : PySem.W.excIn X.K C bmB newId = true) (gC : X.mg x = some (.ref C)) (kC : PySem.W.keepIn X.K (.ref C) = true) (r : Raises X (.ref C)) (hg : Gl X x)
    (q : W (.ref C) none σ H) (hdb : (x == ("__debug__" : Str)) = false := by decide) : QS X (.Raise (some (.Call (.Name x p) [.Constant (.str m) j p2] [] cpos)) none pos) E σ H :=
  ws_of (ps_raise hc tk (pmk_own F c gC kC r hg hdb)) q
/-- a tried body -/
def TB (X : Cx) (body : List Stmt) (W : WX) : TS := fun E σ H => ∀ (pn : List (Addr × Obj)) (xe : Value → Shared → Prop), Takes (X.tr pn xe) W → PassesOwn (model X.prog X.w) X.A X.env xe → QB (X.tr pn xe) body E σ H
theorem ws_try {h1 : ExceptHandler} {hs : List ExceptHandler} {l : List (Value × Option Nat × TSu)} (hst : X.stack = X.env :: X.outer) (hfr0 : X.env.frame = some X.env.locals) (tk : Takes X W)
    (hh : Clauses X (h1 :: hs) l) (q : TB X body (wMix X.K W E l) E σ H) : QS X (.Try body (h1 :: hs) [] [] pos) E σ H :=
  ws_of (ps_mix (tb := TB X body) hst hfr0 tk (fun W' pn xe tk' hp => ⟨fun pins s σ' H' E' I h => h pn xe tk' hp pins s I⟩) hh) q
end
end Sx

/-! Sq: comprehensions and loops over data, with one name as the target. -/
namespace Sx
open PySem PySem.Spec PyProof.Rows L2

/-- the slots when x is forgotten (σ'), and when it holds v (S v) -/
class inductive Tgt : List Str → Sl → Str → outParam Sl → outParam (V → Sl) → outParam Nat → Prop
  | z {N : List Str} {σ : Sl} {x : Str} {o : Option V} : Tgt (x :: N) (o :: σ) x (none :: σ) (fun v => some v :: σ) 0
  | s {N : List Str} {σ σ' : Sl} {S : V → Sl} {x y : Str} {o : Option V} {i : Nat} (h : Tgt N σ x σ' S i) : Tgt (y :: N) (o :: σ) x (o :: σ') (fun v => o :: S v) (i + 1)
instance (priority := high) Tgt.iz {N : List Str} {σ : Sl} {x : Str} {o : Option V} : Tgt (x :: N) (o :: σ) x (none :: σ) (fun v => some v :: σ) 0 := .z
instance (priority := low) Tgt.is {N : List Str} {σ σ' : Sl} {S : V → Sl} {x y : Str} {o : Option V} {i : Nat} [h : Tgt N σ x σ' S i] : Tgt (y :: N) (o :: σ) x (o :: σ') (fun v => o :: S v) (i + 1) := .s h
theorem Tgt.n {N : List Str} {σ σ' : Sl} {S : V → Sl} {x : Str} {i : Nat} (h : Tgt N σ x σ' S i) : N[i]? = some x := by
  induction h with
  | z => rfl
  | s _ ih => simpa using ih
theorem Tgt.w {N : List Str} {σ σ' : Sl} {S : V → Sl} {x : Str} {i : Nat} (h : Tgt N σ x σ' S i) : σ.set i none = σ' := by
  induction h with
  | z => rfl
  | s _ ih => simp [ih]
theorem Tgt.p {N : List Str} {σ σ' : Sl} {S : V → Sl} {x : Str} {i : Nat} (h : Tgt N σ x σ' S i) (v : V) : σ'.set i (some v) = S v := by
  induction h with
  | z => rfl
  | s _ ih => simp [ih]
theorem Tgt.b {N : List Str} {σ σ' : Sl} {S : V → Sl} {x : Str} {i : Nat} (h : Tgt N σ x σ' S i) (v : V) : (S v).set i none = σ' := by
  induction h with
  | z => rfl
  | s _ ih => simp [ih]
theorem bits_take (ds : List D) (g : D → Option D) : ∀ n, n ≤ ds.length → bits n (fun k => (ds[k]?).bind g) = (ds.take n).filterMap g
  | 0, _ => rfl
  | n + 1, h => by
    rw [bits_succ, bits_take ds g n (by omega), List.take_succ, List.filterMap_append]
    congr 1
    rw [List.getElem?_eq_getElem (by omega)]
    cases w : g ds[n] <;> simp [w]
theorem bits_map (ds : List D) (g : D → Option D) : bits ds.length (fun k => (ds[k]?).bind g) = ds.filterMap g := by
  rw [bits_take ds g _ (Nat.le_refl _), List.take_length]
theorem bits_rg (n : Nat) (f : Nat → D) : bits n (fun k => some (f k)) = (List.range n).map f := by
  unfold bits
  rw [List.filterMap_eq_map']
theorem fm_congr {α β : Type} {f g : α → Option β} : ∀ {l : List α}, (∀ x ∈ l, f x = g x) → l.filterMap f = l.filterMap g
  | [], _ => rfl
  | a :: r, h => by
    rw [List.filterMap_cons, List.filterMap_cons, h a (by simp), fm_congr fun x hx => h x (by simp [hx])]
theorem fm_map (ds : List D) (f : D → D) : ds.filterMap (fun d => some (f d)) = ds.map f := by
  rw [List.filterMap_eq_map']
section
variable (X : Cx)
def LCb (scope : Scope) (elt : Expr) (S : V → Sl) (H1 : Hp) (ds : List D) (f : D → D) : Prop :=
  (∀ d ∈ ds, (f d).im = true) ∧ ∀ d w H2, d ∈ ds → Same H1 H2 → Rp X.K H2 w d → BE X scope elt (S w) H2 fun y H3 => Same H2 H3 ∧ Rp X.K H3 y (f d)
def LCc (scope : Scope) (elt c : Expr) (S : V → Sl) (H1 : Hp) (ds : List D) (g : D → Option D) : Prop :=
  (∀ d ∈ ds, ∀ e, g d = some e → e.im = true) ∧ ∀ d w H2, d ∈ ds → Same H1 H2 → Rp X.K H2 w d → BT X scope c (S w) H2 fun b H3 => (b = true → BE X scope elt (S w) H3 fun y H4 => Same H2 H4 ∧ ∃ e, g d = some e ∧ Rp X.K H4 y e) ∧ (b = false → Same H2 H3 ∧ g d = none)
end
section
variable {X : Cx} {elt iter c : Expr} {scope : Scope} {N : List Str} {σ σw : Sl} {S : V → Sl} {H : Hp} {Q : VK} {x : Str} {i : Nat} {px pos rp rpos : Pos} {a b : Expr}
theorem ql_seq (h : Tgt N σ x σw S i) (hN : X.N = N) (nd : X.N.Nodup)
    (hl : ∀ s H0 C cl fp, Loc (X.blk s H0 scope (compEnvC scope cl C X.env) fp).env.scope x) (hf : ∀ s H0 C cl fp, (X.blk s H0 scope (compEnvC scope cl C X.env) fp).fn x = true ∨ (X.blk s H0 scope (compEnvC scope cl C X.env) fp).env.scope.names.lookup x = some .local)
    (q : QI X (.Name x px) iter σ H fun J H1 => ∃ (n : Nat) (G : Hp → Prop) (Y : Nat → Hp → V → Hp → Prop), Walk J n G Y ∧ n < sizeLine ∧ (∀ H', Same H1 H' → G H') ∧ ∃ F : Nat → Option D, (∀ i d, F i = some d → d.im = true) ∧
      (∀ i v H2 H3, i < n → Same H1 H2 → Y i H2 v H3 → BE X scope elt (S v) H3 fun y H5 => Same H2 H5 ∧ ∃ d, F i = some d ∧ Rp X.K H5 y d) ∧
      (∀ p H2 ys, Same H1 H2 → H1 p = none → H2 p = some (.lst ys) → RpAll X.K H2 ys (bits n F) → Q (.ref p) H2)) : QL X elt (.Name x px) iter [] scope [i] σ H Q := by
  refine ql_lc (σw := σw) (by show (wipe σ []).set i none = σw; exact h.w) (q.imp fun J H1 ⟨n, G, Y, w, hn, hG, F, him, hb, hq⟩ => ⟨n, G, Y, w, hn, hG, F, him, fun k v H2 H3 hk s2 y => ?_, hq⟩)
  intro s H0 C cl fp
  refine wg_of (pg_name (i := i) nd (by show X.N[i]? = some x; rw [hN]; exact h.n) (hl s H0 C cl fp) (hf s H0 C cl fp)) ?_
  show wipe (σw.set i (some v)) [i] = σw ∧ _
  rw [h.p]
  exact ⟨by show (S v).set i none = σw; exact h.b v, hb k v H2 H3 hk s2 y⟩
theorem ql_seqT (h : Tgt N σ x σw S i) (hN : X.N = N) (nd : X.N.Nodup)
    (hl : ∀ s H0 C cl fp, Loc (X.blk s H0 scope (compEnvC scope cl C X.env) fp).env.scope x) (hf : ∀ s H0 C cl fp, (X.blk s H0 scope (compEnvC scope cl C X.env) fp).fn x = true ∨ (X.blk s H0 scope (compEnvC scope cl C X.env) fp).env.scope.names.lookup x = some .local)
    (q : QI X (.Name x px) iter σ H fun J H1 => ∃ (n : Nat) (G : Hp → Prop) (Y : Nat → Hp → V → Hp → Prop), Walk J n G Y ∧ n < sizeLine ∧ (∀ H', Same H1 H' → G H') ∧ ∃ F : Nat → Option D, (∀ i d, F i = some d → d.im = true) ∧
      (∀ i v H2 H3, i < n → Same H1 H2 → Y i H2 v H3 → BT X scope c (S v) H3 fun b H5 => (b = true → BE X scope elt (S v) H5 fun y H6 => Same H2 H6 ∧ ∃ d, F i = some d ∧ Rp X.K H6 y d) ∧ (b = false → Same H2 H5 ∧ F i = none)) ∧
      (∀ p H2 ys, Same H1 H2 → H1 p = none → H2 p = some (.lst ys) → RpAll X.K H2 ys (bits n F) → Q (.ref p) H2)) : QL X elt (.Name x px) iter [c] scope [i] σ H Q := by
  refine ql_lcT (σw := σw) (by show (wipe σ []).set i none = σw; exact h.w) (q.imp fun J H1 ⟨n, G, Y, w, hn, hG, F, him, hb, hq⟩ => ⟨n, G, Y, w, hn, hG, F, him, fun k v H2 H3 hk s2 y => ?_, hq⟩)
  intro s H0 C cl fp
  refine wg_of (pg_name (i := i) nd (by show X.N[i]? = some x; rw [hN]; exact h.n) (hl s H0 C cl fp) (hf s H0 C cl fp)) ?_
  show wipe (σw.set i (some v)) [i] = σw ∧ _
  rw [h.p]
  exact ⟨by show (S v).set i none = σw; exact h.b v, hb k v H2 H3 hk s2 y⟩
/-- two clauses, a name each -/
theorem ql2_seq {y : Str} {py : Pos} {j : Nat} {σ1 : Sl} {S1 : V → Sl} {σi : V → Sl} {S2 : V → V → Sl} {iter1 : Expr} {ifs1 : List Expr} (h1 : Tgt N σ y σ1 S1 j) (h : Tgt N σ1 x σw S i) (h2 : ∀ v, Tgt N (S v) y (σi v) (S2 v) j) (hij : i ≠ j) (hN : X.N = N) (nd : X.N.Nodup)
    (hl : ∀ s H0 C cl fp, Loc (X.blk s H0 scope (compEnvC scope cl C X.env) fp).env.scope x) (hf : ∀ s H0 C cl fp, (X.blk s H0 scope (compEnvC scope cl C X.env) fp).fn x = true ∨ (X.blk s H0 scope (compEnvC scope cl C X.env) fp).env.scope.names.lookup x = some .local)
    (hl1 : ∀ s H0 C cl fp, Loc (X.blk s H0 scope (compEnvC scope cl C X.env) fp).env.scope y) (hf1 : ∀ s H0 C cl fp, (X.blk s H0 scope (compEnvC scope cl C X.env) fp).fn y = true ∨ (X.blk s H0 scope (compEnvC scope cl C X.env) fp).env.scope.names.lookup y = some .local)
    (q : QI X (.Name x px) iter σ H fun J H1 => ∃ (n : Nat) (G : Hp → Prop) (Y : Nat → Hp → V → Hp → Prop), Walk J n G Y ∧ (∀ H', Same H1 H' → G H') ∧ ∃ (m : Nat → Nat) (M : Nat) (F : Nat → Nat → Option D), n * M < sizeLine ∧ (∀ i, i < n → m i ≤ M) ∧ (∀ i j d, F i j = some d → d.im = true) ∧
      (∀ i v H2 H3, i < n → Same H1 H2 → Y i H2 v H3 → BI X scope (.Name y py) iter1 (S v) H3 fun J1 H5 => Same H2 H5 ∧ ∃ (G1 : Hp → Prop) (Y1 : Nat → Hp → V → Hp → Prop), Walk J1 (m i) G1 Y1 ∧ (∀ H', Same H1 H' → Kp H5 H' → G1 H') ∧
        ∀ j u H6 H7, j < m i → Same H1 H6 → Kp H5 H6 → Y1 j H6 u H7 → QT1 X scope ifs1 (S2 v u) H7 fun b H9 => (b = true → BE X scope elt (S2 v u) H9 fun z H10 => Same H6 H10 ∧ ∃ d, F i j = some d ∧ Rp X.K H10 z d) ∧ (b = false → Same H6 H9 ∧ F i j = none)) ∧
      (∀ p H2 ys, Same H1 H2 → H1 p = none → H2 p = some (.lst ys) → RpAll X.K H2 ys (flat m F n) → Q (.ref p) H2)) : QL2 X elt (.Name x px) iter (.Name y py) iter1 [] ifs1 scope [i, j] [j] σ H Q := by
  have e1 : σ1.set j none = σ1 := by rw [← h1.w, List.set_set]
  have e2 : σw.set j none = σw := by
    rw [← h.w, List.set_comm _ _ hij, e1]
  have e3 : ∀ v, (S v).set j none = S v := fun v => by rw [← h.p, List.set_comm _ _ hij, e2]
  refine ql_lc2 (σw := σw) (by show ((wipe σ []).set j none).set i none = σw; show (σ.set j none).set i none = σw; rw [h1.w, h.w]) (q.imp fun J H1 ⟨n, G, Y, w, hG, m, M, F, hz, hm, him, hb, hq⟩ => ⟨n, G, Y, w, hG, m, M, F, hz, hm, him, fun k v H2 H3 hk s2 yy => ?_, hq⟩)
  intro s H0 C cl fp
  refine wg_of (pg_name (i := i) nd (by show X.N[i]? = some x; rw [hN]; exact h.n) (hl s H0 C cl fp) (hf s H0 C cl fp)) ?_
  show wipe (σw.set i (some v)) [i, j] = σw ∧ _
  rw [h.p]
  refine ⟨by show ((S v).set j none).set i none = σw; rw [e3, h.b], ?_⟩
  intro s H0 C cl fp
  refine (hb k v H2 H3 hk s2 yy s H0 C cl fp).imp fun J1 H5 ⟨s5, G1, Y1, w1, hG1, hb1⟩ => ⟨s5, G1, Y1, w1, hG1, fun l u H6 H7 hl6 s6 k6 y6 => ?_⟩
  intro s H0 C cl fp
  refine wg_of (pg_name (i := j) nd (by show X.N[j]? = some y; rw [hN]; exact h1.n) (hl1 s H0 C cl fp) (hf1 s H0 C cl fp)) ?_
  have eS : List.set (wipe (S v) [j]) j (some u) = S2 v u := by
    show ((S v).set j none).set j (some u) = S2 v u
    rw [List.set_set, ← (h2 v).p, ← (h2 v).w, List.set_set]
  show wipe (List.set (wipe (S v) [j]) j (some u)) [j] = wipe (S v) [j] ∧ _
  rw [eS]
  exact ⟨by show (S2 v u).set j none = (S v).set j none; rw [(h2 v).b, (h2 v).w], hb1 l u H6 H7 hl6 s6 k6 y6⟩
end
section
variable {X : Cx} {elt iter c : Expr} {scope : Scope} {N : List Str} {σ σw : Sl} {S : V → Sl} {H : Hp} {Q : VK} {x : Str} {i : Nat} {px pos rp rpos : Pos} {a b : Expr}
/-- what a clause wants of its elements -/
theorem same_im {ds : List D} {f : D → D} (h : ∀ d ∈ ds, (f d).im = true) : ∀ i d, (fun k : Nat => (ds[k]?).bind fun d => some (f d)) i = some d → d.im = true := by
  intro i d e
  dsimp only at e
  cases w : ds[i]? with
  | none => rw [w] at e; cases e
  | some z => rw [w] at e; cases e; exact h z (List.mem_of_getElem? w)
theorem same_imT {ds : List D} {g : D → Option D} (h : ∀ d ∈ ds, ∀ e, g d = some e → e.im = true) : ∀ i d, (fun k : Nat => (ds[k]?).bind g) i = some d → d.im = true := by
  intro i d e
  dsimp only at e
  cases w : ds[i]? with
  | none => rw [w] at e; cases e
  | some z => rw [w] at e; exact h z (List.mem_of_getElem? w) d e
theorem ql_lct (h : Tgt N σ x σw S i) (hN : X.N = N) (nd : X.N.Nodup)
    (hl : ∀ s H0 C cl fp, Loc (X.blk s H0 scope (compEnvC scope cl C X.env) fp).env.scope x) (hf : ∀ s H0 C cl fp, (X.blk s H0 scope (compEnvC scope cl C X.env) fp).fn x = true ∨ (X.blk s H0 scope (compEnvC scope cl C X.env) fp).env.scope.names.lookup x = some .local)
    (q : QE X iter σ H fun v H1 => ∃ ds, Rp X.K H1 v (.tup ds) ∧ ds.length < sizeLine ∧ ∃ f : D → D, LCb X scope elt S H1 ds f ∧
      ∀ p H2 ys, Same H1 H2 → H1 p = none → H2 p = some (.lst ys) → RpAll X.K H2 ys (ds.map f) → Q (.ref p) H2) : QL X elt (.Name x px) iter [] scope [i] σ H Q := by
  refine ql_seq h hN nd hl hf (qi_tup (q.imp fun v H1 ⟨ds, r, hz, f, ⟨him, hb⟩, hq⟩ => ?_))
  obtain ⟨a, xs, rfl, h1, h2⟩ := r.tup_inv
  refine ⟨a, rfl, ⟨xs, h1⟩, xs.length, _, _, walk_tup (xs := xs), by rw [h2.len]; exact hz, fun H' s => Same.tupR s h1, fun k => (ds[k]?).bind fun d => some (f d), same_im him, ?_, ?_⟩
  · rintro k v H2 H3 hk s2 ⟨rfl, e⟩
    obtain ⟨d, e1, r1⟩ := (h2.to s2).get e
    intro s H0 C cl fp
    refine (hb d v H3 (List.mem_of_getElem? e1) s2 r1 s H0 C cl fp).imp fun y H5 ⟨s5, r5⟩ => ⟨s5, f d, by simp [e1], r5⟩
  · intro p H2 ys s2 hp hp2 r
    rw [h2.len, bits_map, fm_map] at r
    exact hq p H2 ys s2 hp hp2 r
theorem ql_lcl (h : Tgt N σ x σw S i) (hN : X.N = N) (nd : X.N.Nodup)
    (hl : ∀ s H0 C cl fp, Loc (X.blk s H0 scope (compEnvC scope cl C X.env) fp).env.scope x) (hf : ∀ s H0 C cl fp, (X.blk s H0 scope (compEnvC scope cl C X.env) fp).fn x = true ∨ (X.blk s H0 scope (compEnvC scope cl C X.env) fp).env.scope.names.lookup x = some .local)
    (q : QE X iter σ H fun v H1 => ∃ ds, Rp X.K H1 v (.lst ds) ∧ ds.length < sizeLine ∧ ∃ f : D → D, LCb X scope elt S H1 ds f ∧
      ∀ p H2 ys, Same H1 H2 → H1 p = none → H2 p = some (.lst ys) → RpAll X.K H2 ys (ds.map f) → Q (.ref p) H2) : QL X elt (.Name x px) iter [] scope [i] σ H Q := by
  refine ql_seq h hN nd hl hf (qi_list (q.imp fun v H1 ⟨ds, r, hz, f, ⟨him, hb⟩, hq⟩ => ?_))
  obtain ⟨a, xs, rfl, h1, h2⟩ := r.lst_inv
  refine ⟨a, rfl, ⟨xs, h1⟩, xs.length, _, _, walk_list (xs := xs), by rw [h2.len]; exact hz, fun H' s => s.seq h1, fun k => (ds[k]?).bind fun d => some (f d), same_im him, ?_, ?_⟩
  · rintro k v H2 H3 hk s2 ⟨rfl, e⟩
    obtain ⟨d, e1, r1⟩ := (h2.to s2).get e
    intro s H0 C cl fp
    refine (hb d v H3 (List.mem_of_getElem? e1) s2 r1 s H0 C cl fp).imp fun y H5 ⟨s5, r5⟩ => ⟨s5, f d, by simp [e1], r5⟩
  · intro p H2 ys s2 hp hp2 r
    rw [h2.len, bits_map, fm_map] at r
    exact hq p H2 ys s2 hp hp2 r
/-- over range(a) -/
def LRb (X : Cx) (scope : Scope) (elt : Expr) (S : V → Sl) (H1 : Hp) (lo : Int) (n : Nat) (f : Int → D) : Prop :=
  (∀ k : Nat, k < n → (f (lo + k)).im = true) ∧ ∀ (k : Nat) H2, k < n → Same H1 H2 → BE X scope elt (S (.int (lo + k))) H2 fun y H3 => Same H2 H3 ∧ Rp X.K H3 y (f (lo + k))
theorem rg_aux (h : Tgt N σ x σw S i) (hN : X.N = N) (nd : X.N.Nodup)
    (hl : ∀ s H0 C cl fp, Loc (X.blk s H0 scope (compEnvC scope cl C X.env) fp).env.scope x) (hf : ∀ s H0 C cl fp, (X.blk s H0 scope (compEnvC scope cl C X.env) fp).fn x = true ∨ (X.blk s H0 scope (compEnvC scope cl C X.env) fp).env.scope.names.lookup x = some .local)
    (q : QI X (.Name x px) iter σ H fun J H1 => ∃ (lo : Int) (n : Nat), J = Itr lo n ∧ n < sizeLine ∧ ∃ f : Int → D, LRb X scope elt S H1 lo n f ∧
      ∀ p H2 ys, Same H1 H2 → H1 p = none → H2 p = some (.lst ys) → RpAll X.K H2 ys ((List.range n).map fun k : Nat => f (lo + k)) → Q (.ref p) H2) : QL X elt (.Name x px) iter [] scope [i] σ H Q := by
  refine ql_seq h hN nd hl hf (q.imp fun J H1 ⟨lo, n, e, hz, f, ⟨him, hb⟩, hq⟩ => ?_)
  subst e
  refine ⟨n, _, _, walk_range, hz, fun _ _ => trivial, fun k => if k < n then some (f (lo + k)) else none, fun k d e => ?_, ?_, ?_⟩
  · dsimp only at e
    by_cases hk : k < n
    · rw [if_pos hk] at e; cases e; exact him k hk
    · rw [if_neg hk] at e; cases e
  · rintro k v H2 H3 hk s2 ⟨rfl, rfl⟩
    intro s H0 C cl fp
    exact (hb k H3 hk s2 s H0 C cl fp).imp fun y H5 ⟨s5, r5⟩ => ⟨s5, _, by dsimp only; rw [if_pos hk], r5⟩
  · intro p H2 ys s2 hp hp2 r
    refine hq p H2 ys s2 hp hp2 ?_
    rw [← bits_rg]
    have : bits n (fun k => some (f (lo + (k : Nat)))) = bits n (fun k => if k < n then some (f (lo + k)) else none) := by
      unfold bits
      refine fm_congr fun k hk => ?_
      rw [if_pos (List.mem_range.mp hk)]
    rw [this]
    exact r
def LRc (X : Cx) (scope : Scope) (elt c : Expr) (S : V → Sl) (H1 : Hp) (lo : Int) (n : Nat) (g : Int → Option D) : Prop :=
  (∀ k : Nat, k < n → ∀ e, g (lo + k) = some e → e.im = true) ∧ ∀ (k : Nat) H2, k < n → Same H1 H2 → BT X scope c (S (.int (lo + k))) H2 fun b H3 => (b = true → BE X scope elt (S (.int (lo + k))) H3 fun y H4 => Same H2 H4 ∧ ∃ e, g (lo + k) = some e ∧ Rp X.K H4 y e) ∧ (b = false → Same H2 H3 ∧ g (lo + k) = none)
theorem rg_auxT (h : Tgt N σ x σw S i) (hN : X.N = N) (nd : X.N.Nodup)
    (hl : ∀ s H0 C cl fp, Loc (X.blk s H0 scope (compEnvC scope cl C X.env) fp).env.scope x) (hf : ∀ s H0 C cl fp, (X.blk s H0 scope (compEnvC scope cl C X.env) fp).fn x = true ∨ (X.blk s H0 scope (compEnvC scope cl C X.env) fp).env.scope.names.lookup x = some .local)
    (q : QI X (.Name x px) iter σ H fun J H1 => ∃ (lo : Int) (n : Nat), J = Itr lo n ∧ n < sizeLine ∧ ∃ g : Int → Option D, LRc X scope elt c S H1 lo n g ∧
      ∀ p H2 ys, Same H1 H2 → H1 p = none → H2 p = some (.lst ys) → RpAll X.K H2 ys ((List.range n).filterMap fun k : Nat => g (lo + k)) → Q (.ref p) H2) : QL X elt (.Name x px) iter [c] scope [i] σ H Q := by
  refine ql_seqT h hN nd hl hf (q.imp fun J H1 ⟨lo, n, e, hz, g, ⟨him, hb⟩, hq⟩ => ?_)
  subst e
  refine ⟨n, _, _, walk_range, hz, fun _ _ => trivial, fun k => if k < n then g (lo + k) else none, fun k d e => ?_, ?_, ?_⟩
  · dsimp only at e
    by_cases hk : k < n
    · rw [if_pos hk] at e; exact him k hk d e
    · rw [if_neg hk] at e; cases e
  · rintro k v H2 H3 hk s2 ⟨rfl, rfl⟩
    intro s H0 C cl fp
    have z := hb k H3 hk s2 s H0 C cl fp
    intro pins s I
    refine thn (z pins s I) fun b s1 ⟨H5, I5, t5, f5⟩ => ⟨H5, I5, fun hb s H0 C cl fp => ?_, fun hb => ?_⟩
    · exact (t5 hb s H0 C cl fp).imp fun y H5 ⟨s5, d, e, r5⟩ => ⟨s5, d, by dsimp only; rw [if_pos hk, e], r5⟩
    · exact ⟨(f5 hb).1, by dsimp only; rw [if_pos hk]; exact (f5 hb).2⟩
  · intro p H2 ys s2 hp hp2 r
    refine hq p H2 ys s2 hp hp2 ?_
    have : (List.range n).filterMap (fun k : Nat => g (lo + k)) = bits n (fun k => if k < n then g (lo + k) else none) := by
      unfold bits
      refine fm_congr fun k hk => ?_
      rw [if_pos (List.mem_range.mp hk)]
    rw [this]
    exact r
theorem ql_lcr1 (hm : X.mg "range" = none) (hg : Gl X "range") (h : Tgt N σ x σw S i) (hN : X.N = N) (nd : X.N.Nodup)
    (hl : ∀ s H0 C cl fp, Loc (X.blk s H0 scope (compEnvC scope cl C X.env) fp).env.scope x) (hf : ∀ s H0 C cl fp, (X.blk s H0 scope (compEnvC scope cl C X.env) fp).fn x = true ∨ (X.blk s H0 scope (compEnvC scope cl C X.env) fp).env.scope.names.lookup x = some .local)
    (hs1 : starEach [a] X.env = [(false, eval a X.env)])
    (q : QE X a σ H fun v H1 => ∃ j : Int, v = .int j ∧ (-(2 ^ 62) ≤ j ∧ j < sizeLine) ∧ ∃ f : Int → D, LRb X scope elt S H1 0 j.toNat f ∧
      ∀ p H2 ys, Same H1 H2 → H1 p = none → H2 p = some (.lst ys) → RpAll X.K H2 ys ((List.range j.toNat).map fun k : Nat => f k) → Q (.ref p) H2) : QL X elt (.Name x px) (.Call (.Name "range" rp) [a] [] rpos) [] scope [i] σ H Q := by
  refine rg_aux h hN nd hl hf (qi_range1 hm hg hs1 (q.imp fun v H1 ⟨j, e, hj, f, hb, hq⟩ => ⟨j, e, ?_, 0, _, rfl, ?_, f, hb, fun p H2 ys s2 hp hp2 r => hq p H2 ys s2 hp hp2 ?_⟩))
  · have := sizeLine_eq
    omega
  · have := sizeLine_eq
    omega
  · simpa using r
theorem ql_lcr2 (hm : X.mg "range" = none) (hg : Gl X "range") (h : Tgt N σ x σw S i) (hN : X.N = N) (nd : X.N.Nodup)
    (hl : ∀ s H0 C cl fp, Loc (X.blk s H0 scope (compEnvC scope cl C X.env) fp).env.scope x) (hf : ∀ s H0 C cl fp, (X.blk s H0 scope (compEnvC scope cl C X.env) fp).fn x = true ∨ (X.blk s H0 scope (compEnvC scope cl C X.env) fp).env.scope.names.lookup x = some .local)
    (hs1 : starEach [a, b] X.env = [(false, eval a X.env), (false, eval b X.env)]) (hs2 : starEach [b] X.env = [(false, eval b X.env)])
    (q : QE X a σ H fun v H0 => QE X b σ H0 fun w H1 => ∃ i j : Int, v = .int i ∧ w = .int j ∧ (-(2 ^ 30) ≤ i ∧ i < 2 ^ 30 ∧ -(2 ^ 30) ≤ j ∧ j < 2 ^ 30 ∧ j - i < sizeLine) ∧ ∃ f : Int → D, LRb X scope elt S H1 i (j - i).toNat f ∧
      ∀ p H2 ys, Same H1 H2 → H1 p = none → H2 p = some (.lst ys) → RpAll X.K H2 ys ((List.range (j - i).toNat).map fun k : Nat => f (i + k)) → Q (.ref p) H2) : QL X elt (.Name x px) (.Call (.Name "range" rp) [a, b] [] rpos) [] scope [i] σ H Q := by
  refine rg_aux h hN nd hl hf (qi_range2 hm hg hs1 hs2 (q.imp fun v H0 q1 => q1.imp fun w H1 ⟨i, j, e1, e2, hj, f, hb, hq⟩ => ⟨i, j, e1, e2, ?_, i, _, rfl, ?_, f, hb, hq⟩))
  · omega
  · have := sizeLine_eq
    omega
theorem ql_lcr2T (hm : X.mg "range" = none) (hg : Gl X "range") (h : Tgt N σ x σw S i) (hN : X.N = N) (nd : X.N.Nodup)
    (hl : ∀ s H0 C cl fp, Loc (X.blk s H0 scope (compEnvC scope cl C X.env) fp).env.scope x) (hf : ∀ s H0 C cl fp, (X.blk s H0 scope (compEnvC scope cl C X.env) fp).fn x = true ∨ (X.blk s H0 scope (compEnvC scope cl C X.env) fp).env.scope.names.lookup x = some .local)
    (hs1 : starEach [a, b] X.env = [(false, eval a X.env), (false, eval b X.env)]) (hs2 : starEach [b] X.env = [(false, eval b X.env)])
    (q : QE X a σ H fun v H0 => QE X b σ H0 fun w H1 => ∃ i j : Int, v = .int i ∧ w = .int j ∧ (-(2 ^ 30) ≤ i ∧ i < 2 ^ 30 ∧ -(2 ^ 30) ≤ j ∧ j < 2 ^ 30 ∧ j - i < sizeLine) ∧ ∃ g : Int → Option D, LRc X scope elt c S H1 i (j - i).toNat g ∧
      ∀ p H2 ys, Same H1 H2 → H1 p = none → H2 p = some (.lst ys) → RpAll X.K H2 ys ((List.range (j - i).toNat).filterMap fun k : Nat => g (i + k)) → Q (.ref p) H2) : QL X elt (.Name x px) (.Call (.Name "range" rp) [a, b] [] rpos) [c] scope [i] σ H Q := by
  refine rg_auxT h hN nd hl hf (qi_range2 hm hg hs1 hs2 (q.imp fun v H0 q1 => q1.imp fun w H1 ⟨i, j, e1, e2, hj, f, hb, hq⟩ => ⟨i, j, e1, e2, ?_, i, _, rfl, ?_, f, hb, hq⟩))
  · omega
  · have := sizeLine_eq
    omega
theorem Tgt.q {N : List Str} {σ σ' : Sl} {S : V → Sl} {x : Str} {i : Nat} (h : Tgt N σ x σ' S i) (v : V) : σ.set i (some v) = S v := by
  rw [← h.p, ← h.w, List.set_set]
theorem ws_set1 {tg : Expr} {ifs : List Expr} {own : List (Str × Nat)} {vs : List Nat} {D : Ends} {y : Str} {j : Nat} {py spos : Pos} {σ' : Sl} (h : Tgt N σ y σ' S j) (hN : X.N = N) (hv : own.map (·.2) = vs) (hc : X.calm = true) (nd : X.N.Nodup) (hyl : X.env.scope.names.lookup y = some .local)
    (hsw : swapsWith (.ListComp elt [⟨tg, iter, ifs, 0⟩] scope pos) (some (.Name y py)) spos.line X.env = pure true) (ok : BlkOk X.N X.env.scope scope own) (hs : ∀ x, foldedSetIterable iter X.env x = pure x)
    (q : QL X elt tg iter ifs scope vs σ H fun v H1 => D.nx (S v) H1) : QS X (.Assign [.Name y py] (.ListComp elt [⟨tg, iter, ifs, 0⟩] scope pos) spos) D σ H := by
  refine ws_setLc hv hc nd (hN ▸ h.n) hyl hsw ok hs ?_
  rw [show (fun v H1 => D.nx (σ.set j (some v)) H1) = fun v H1 => D.nx (S v) H1 from by funext v H1; rw [h.q]]
  exact q
theorem ws_set2 {tg tg1 iter1 : Expr} {ifs ifs1 : List Expr} {own : List (Str × Nat)} {vs vs1 : List Nat} {D : Ends} {y : Str} {j : Nat} {py spos : Pos} {σ' : Sl} (h : Tgt N σ y σ' S j) (hN : X.N = N) (hv : own.map (·.2) = vs) (hv1 : ∀ i ∈ vs1, i ∈ own.map (·.2)) (hc : X.calm = true) (nd : X.N.Nodup) (hyl : X.env.scope.names.lookup y = some .local)
    (hsw : swapsWith (.ListComp elt [⟨tg, iter, ifs, 0⟩, ⟨tg1, iter1, ifs1, 0⟩] scope pos) (some (.Name y py)) spos.line X.env = pure true) (ok : BlkOk X.N X.env.scope scope own) (hs : ∀ x, foldedSetIterable iter X.env x = pure x) (hs1 : ∀ env x, foldedSetIterable iter1 env x = pure x)
    (q : QL2 X elt tg iter tg1 iter1 ifs ifs1 scope vs vs1 σ H fun v H1 => D.nx (S v) H1) : QS X (.Assign [.Name y py] (.ListComp elt [⟨tg, iter, ifs, 0⟩, ⟨tg1, iter1, ifs1, 0⟩] scope pos) spos) D σ H := by
  refine ws_setLc2 hv hv1 hc nd (hN ▸ h.n) hyl hsw ok hs hs1 ?_
  rw [show (fun v H1 => D.nx (σ.set j (some v)) H1) = fun v H1 => D.nx (S v) H1 from by funext v H1; rw [h.q]]
  exact q
theorem we_lc1 {ifs : List Expr} (hi : Ix N i x) (hN : X.N = N) (hc : X.calm = true) (nd : X.N.Nodup) (ok : BlkOk X.N X.env.scope scope [(x, i)]) (hs : ∀ x, foldedSetIterable iter X.env x = pure x)
    (q : QL X elt (.Name x px) iter ifs scope [i] σ H Q) : QE X (.ListComp elt [⟨.Name x px, iter, ifs, 0⟩] scope pos) σ H Q := we_lc rfl hc nd ok hs q
theorem we_lcn2 {ifs ifs1 : List Expr} {y : Str} {j : Nat} {py : Pos} {iter1 : Expr} (hi : Ix N i x) (hj : Ix N j y) (hN : X.N = N) (hc : X.calm = true) (nd : X.N.Nodup) (ok : BlkOk X.N X.env.scope scope [(x, i), (y, j)]) (hs : ∀ x, foldedSetIterable iter X.env x = pure x) (hs1 : ∀ env x, foldedSetIterable iter1 env x = pure x)
    (q : QL2 X elt (.Name x px) iter (.Name y py) iter1 ifs ifs1 scope [i, j] [j] σ H Q) : QE X (.ListComp elt [⟨.Name x px, iter, ifs, 0⟩, ⟨.Name y py, iter1, ifs1, 0⟩] scope pos) σ H Q := we_lc2 rfl (by simp) hc nd ok hs hs1 q
theorem ws_lc1 {ifs : List Expr} {D : Ends} {y : Str} {j : Nat} {py spos : Pos} {σ' : Sl} (h : Tgt N σ y σ' S j) (hi : Ix N i x) (hN : X.N = N) (hc : X.calm = true) (nd : X.N.Nodup) (hyl : X.env.scope.names.lookup y = some .local)
    (hsw : swapsWith (.ListComp elt [⟨.Name x px, iter, ifs, 0⟩] scope pos) (some (.Name y py)) spos.line X.env = pure true) (ok : BlkOk X.N X.env.scope scope [(x, i)]) (hs : ∀ x, foldedSetIterable iter X.env x = pure x)
    (q : QL X elt (.Name x px) iter ifs scope [i] σ H fun v H1 => D.nx (S v) H1) : QS X (.Assign [.Name y py] (.ListComp elt [⟨.Name x px, iter, ifs, 0⟩] scope pos) spos) D σ H := ws_set1 h hN rfl hc nd hyl hsw ok hs q
theorem ws_lcn2 {ifs ifs1 : List Expr} {z : Str} {l : Nat} {D : Ends} {y : Str} {j : Nat} {py pz spos : Pos} {σ' : Sl} {iter1 : Expr} (h : Tgt N σ z σ' S l) (hi : Ix N i x) (hj : Ix N j y) (hN : X.N = N) (hc : X.calm = true) (nd : X.N.Nodup) (hyl : X.env.scope.names.lookup z = some .local)
    (hsw : swapsWith (.ListComp elt [⟨.Name x px, iter, ifs, 0⟩, ⟨.Name y py, iter1, ifs1, 0⟩] scope pos) (some (.Name z pz)) spos.line X.env = pure true) (ok : BlkOk X.N X.env.scope scope [(x, i), (y, j)]) (hs : ∀ x, foldedSetIterable iter X.env x = pure x) (hs1 : ∀ env x, foldedSetIterable iter1 env x = pure x)
    (q : QL2 X elt (.Name x px) iter (.Name y py) iter1 ifs ifs1 scope [i, j] [j] σ H fun v H1 => D.nx (S v) H1) : QS X (.Assign [.Name z pz] (.ListComp elt [⟨.Name x px, iter, ifs, 0⟩, ⟨.Name y py, iter1, ifs1, 0⟩] scope pos) spos) D σ H := ws_set2 h hN rfl (by simp) hc nd hyl hsw ok hs hs1 q
theorem flat_take {α : Type} (L : List α) (g : α → Nat → D) (m : Nat) : ∀ n, n ≤ L.length → flat (fun _ => m) (fun i j => (L[i]?).map fun r => g r j) n = (L.take n).flatMap fun r => (List.range m).map (g r)
  | 0, _ => rfl
  | n + 1, h => by
    rw [flat_succ, flat_take L g m n (by omega), List.take_succ, List.flatMap_append, List.getElem?_eq_getElem (by omega)]
    congr 1
    show bits m (fun j => some (g L[n] j)) = _
    rw [bits_rg]
    simp
theorem flat_map {α : Type} (L : List α) (g : α → Nat → D) (m : Nat) : flat (fun _ => m) (fun i j => (L[i]?).map fun r => g r j) L.length = L.flatMap fun r => (List.range m).map (g r) := by
  rw [flat_take L g m _ (Nat.le_refl _), List.take_length]
/-! ### loops -/
variable {body : List Stmt} {E : Ends} {tg : Expr}
/-- a turn -/
def Turn (X : Cx) (tg : Expr) (body : List Stmt) (E : Ends) (Pv : Nat → Sl → Hp → Prop) (k : Nat) (v : V) (σ : Sl) (H : Hp) : Prop :=
  QG X tg v σ H fun σ2 H2 => QB X body { E with nx := Pv (k + 1), ct := Pv (k + 1), bk := E.nx } σ2 H2
theorem ws_fort (hp : PassesOwn (model X.prog X.w) X.A X.env X.xe) (hc : X.calm = true) (hfs : ∀ x, foldedSetIterable iter X.env x = pure x)
    (q : QE X iter σ H fun v H1 => ∃ ds, Rp X.K H1 v (.tup ds) ∧ ∃ Pv : Nat → Sl → Hp → Prop, Pv 0 σ H1 ∧ (∀ k σ H', Pv k σ H' → Same H1 H') ∧
      (∀ k d w σ1 H2, ds[k]? = some d → Pv k σ1 H2 → Rp X.K H2 w d → Turn X tg body E Pv k w σ1 H2) ∧ (∀ σ1 H2, Pv ds.length σ1 H2 → E.nx σ1 H2)) : QS X (.For tg iter body [] pos) E σ H := by
  refine qs_for hp hc hfs (qi_tup (q.imp fun v H1 ⟨ds, r, Pv, h0, hS, hb, hd⟩ => ?_))
  obtain ⟨a, xs, rfl, h1, h2⟩ := r.tup_inv
  refine ⟨a, rfl, ⟨xs, h1⟩, xs.length, _, _, walk_tup (xs := xs), Pv, h0, fun k σ1 H2 _ p => Same.tupR (hS _ _ _ p) h1, ?_, by rw [h2.len]; exact hd⟩
  rintro k w σ1 H2 H3 hk p ⟨rfl, e⟩
  obtain ⟨d, e1, r1⟩ := (h2.to (hS _ _ _ p)).get e
  exact hb k d w σ1 H3 e1 p r1
theorem ws_forl (hp : PassesOwn (model X.prog X.w) X.A X.env X.xe) (hc : X.calm = true) (hfs : ∀ x, foldedSetIterable iter X.env x = pure x)
    (q : QE X iter σ H fun v H1 => ∃ ds, Rp X.K H1 v (.lst ds) ∧ ∃ Pv : Nat → Sl → Hp → Prop, Pv 0 σ H1 ∧ (∀ k σ H', Pv k σ H' → Same H1 H') ∧
      (∀ k d w σ1 H2, ds[k]? = some d → Pv k σ1 H2 → Rp X.K H2 w d → Turn X tg body E Pv k w σ1 H2) ∧ (∀ σ1 H2, Pv ds.length σ1 H2 → E.nx σ1 H2)) : QS X (.For tg iter body [] pos) E σ H := by
  refine qs_for hp hc hfs (qi_list (q.imp fun v H1 ⟨ds, r, Pv, h0, hS, hb, hd⟩ => ?_))
  obtain ⟨a, xs, rfl, h1, h2⟩ := r.lst_inv
  refine ⟨a, rfl, ⟨xs, h1⟩, xs.length, _, _, walk_list (xs := xs), Pv, h0, fun k σ1 H2 _ p => (hS _ _ _ p).seq h1, ?_, by rw [h2.len]; exact hd⟩
  rintro k w σ1 H2 H3 hk p ⟨rfl, e⟩
  obtain ⟨d, e1, r1⟩ := (h2.to (hS _ _ _ p)).get e
  exact hb k d w σ1 H3 e1 p r1
theorem ws_forr1 (hm : X.mg "range" = none) (hg : Gl X "range") (hp : PassesOwn (model X.prog X.w) X.A X.env X.xe) (hc : X.calm = true) (hfs : ∀ x, foldedSetIterable (.Call (.Name "range" rp) [a] [] rpos) X.env x = pure x) (hs1 : starEach [a] X.env = [(false, eval a X.env)])
    (q : QE X a σ H fun v H1 => ∃ j : Int, v = .int j ∧ (-(2 ^ 62) ≤ j ∧ j < 2 ^ 62) ∧ ∃ Pv : Nat → Sl → Hp → Prop, Pv 0 σ H1 ∧
      (∀ (k : Nat) σ1 H2, (k : Int) < j → Pv k σ1 H2 → Turn X tg body E Pv k (.int k) σ1 H2) ∧ (∀ σ1 H2, Pv j.toNat σ1 H2 → E.nx σ1 H2)) : QS X (.For tg (.Call (.Name "range" rp) [a] [] rpos) body [] pos) E σ H := by
  refine qs_for hp hc hfs (qi_range1 hm hg hs1 (q.imp fun v H1 ⟨j, e, hj, Pv, h0, hb, hd⟩ => ⟨j, e, hj, _, _, _, walk_range, Pv, h0, fun _ _ _ _ _ => trivial, ?_, hd⟩))
  rintro k w σ1 H2 H3 hk p ⟨rfl, rfl⟩
  have := hb k σ1 H3 (by omega) p
  dsimp only
  rw [show (0 : Int) + (k : Nat) = (k : Int) by omega]
  exact this
theorem ws_forr2 (hm : X.mg "range" = none) (hg : Gl X "range") (hp : PassesOwn (model X.prog X.w) X.A X.env X.xe) (hc : X.calm = true) (hfs : ∀ x, foldedSetIterable (.Call (.Name "range" rp) [a, b] [] rpos) X.env x = pure x) (hs1 : starEach [a, b] X.env = [(false, eval a X.env), (false, eval b X.env)]) (hs2 : starEach [b] X.env = [(false, eval b X.env)])
    (q : QE X a σ H fun v H0 => QE X b σ H0 fun w H1 => ∃ i j : Int, v = .int i ∧ w = .int j ∧ (-(2 ^ 62) ≤ i ∧ i < 2 ^ 62 ∧ -(2 ^ 62) ≤ j ∧ j < 2 ^ 62) ∧ ∃ Pv : Nat → Sl → Hp → Prop, Pv 0 σ H1 ∧
      (∀ (k : Nat) σ1 H2, i + (k : Int) < j → Pv k σ1 H2 → Turn X tg body E Pv k (.int (i + k)) σ1 H2) ∧ (∀ σ1 H2, Pv (j - i).toNat σ1 H2 → E.nx σ1 H2)) : QS X (.For tg (.Call (.Name "range" rp) [a, b] [] rpos) body [] pos) E σ H := by
  refine qs_for hp hc hfs (qi_range2 hm hg hs1 hs2 (q.imp fun v H0 q1 => q1.imp fun w H1 ⟨i, j, e, e2, hj, Pv, h0, hb, hd⟩ => ⟨i, j, e, e2, hj, _, _, _, walk_range, Pv, h0, fun _ _ _ _ _ => trivial, ?_, hd⟩))
  rintro k w σ1 H2 H3 hk p ⟨rfl, rfl⟩
  exact hb k σ1 H3 (by omega) p
end
end Sx

/-! Sw: a def by what its body is to bring. -/
namespace Sx
open PySem PySem.Spec PyProof.Rows L2
section
variable {P : Program} {w : World} {K : PySem.W.Frag} {mg : Str → Option Value} {base : Heap}
theorem okS {x qual : Str} {st : Stmt} {f : Addr} {fd : FuncData} {N ps : List Str} {k : Nat} {sp : Sp} (F : Fun K x qual st f fd) (S : FnScope N ps (defScope st)) (len : ∀ vs H Q E, sp vs H Q E → vs.length = ps.length)
    (hbody : ∀ (cdv : Value) (A : Around) (outer : List Env) (s : Shared) (H : Hp) (vs : List V) (Q : VK) (E : XK), Room k (A.deeper (envOfC qual (defScope st) s.heap.objs.size f cdv)) → sp vs H Q E →
      (cxOf CX0 P w K mg base N qual (defScope st) f cdv A outer s H E).nox.N = N → (cxOf CX0 P w K mg base N qual (defScope st) f cdv A outer s H E).nox.N.Nodup →
      QB (cxOf CX0 P w K mg base N qual (defScope st) f cdv A outer s H E).nox (defBody st) { nx := fun _ H' => Q .non H', rt := Q } (start N vs) H) : FnOk P w K mg base CX0 (k + 1) f fd ps sp :=
  F.ok S len fun cdv A outer s H vs Q E hr h => ⟨_, pss_sem, hbody cdv A outer s H vs Q E hr h rfl S.nd⟩
theorem okXS {x qual : Str} {st : Stmt} {f : Addr} {fd : FuncData} {N ps : List Str} {k : Nat} {sp : Sp} (F : Fun K x qual st f fd) (S : FnScope N ps (defScope st)) (len : ∀ vs H Q E, sp vs H Q E → vs.length = ps.length)
    (hbody : ∀ (cdv : Value) (A : Around) (outer : List Env) (s : Shared) (H : Hp) (vs : List V) (Q : VK) (E : XK), Room k (A.deeper (envOfC qual (defScope st) s.heap.objs.size f cdv)) → sp vs H Q E →
      (cxOf (L2.CX P w) P w K mg base N qual (defScope st) f cdv A outer s H E).N = N → (cxOf (L2.CX P w) P w K mg base N qual (defScope st) f cdv A outer s H E).N.Nodup →
      Takes (cxOf (L2.CX P w) P w K mg base N qual (defScope st) f cdv A outer s H E) (fun c d _ H' => E c d H') →
      QB (cxOf (L2.CX P w) P w K mg base N qual (defScope st) f cdv A outer s H E) (defBody st) { nx := fun _ H' => Q .non H', rt := Q } (start N vs) H) : FnOk P w K mg base (L2.CX P w) (k + 1) f fd ps sp :=
  F.okX S len fun cdv A outer s H vs Q E hr h => ⟨_, pss_sem, hbody cdv A outer s H vs Q E hr h rfl S.nd (takes_of rfl rfl rfl rfl)⟩
end
end Sx

/-! Sv: a list that is written (a law's state), slices, comprehensions that write it. -/
namespace Sx
open PySem PySem.Spec PyProof.Rows L2

def D.isN : D → Bool
  | .non => true
  | _ => false
section
variable {X : Cx} {e hi : Expr} {σ : Sl} {H : Hp} {Q : VK} {x y v : V} {pos p2 : Pos} {d : D}
theorem we_gref {x : Str} {a : Addr} (hm : X.mg x = some (.ref a)) (hg : Gl X x) (q : Q (.ref a) H) (hdb : (x == ("__debug__" : Str)) = false := by decide) : QE X (.Name x pos) σ H Q := we_gval hm hg (v := .ref a) rfl q hdb
theorem we_sliceHi (q : QE X e σ H fun x H1 => QE X hi σ H1 fun u H2 => ∃ a xs i, x = .ref a ∧ u = .int i ∧ SqL X.K H2 a xs ∧ ∀ p H3, H2 p = none → Same H2 H3 → H3 p = some (.lst (cutV xs none (some i))) → Q (.ref p) H3) : QE X (.Subscript e (.Slice none (some hi) none p2) pos) σ H Q := by
  refine we_of (pe_slice sl_list pe_sem po_none (po_some pe_sem)) ?_
  intro pins s I
  refine thn (q pins s I) fun u s1 ⟨x, H1, I1, r1, q1⟩ => ⟨x, H1, I1, r1, ?_⟩
  show QE X hi σ H1 _
  exact q1.imp fun u H2 ⟨a, xs, i, e1, e2, hq, z⟩ => ⟨i, e2, a, xs, e1, hq, fun p hp => z p _ hp (same_new hp) upd_same⟩
theorem cut_all {xs : List V} {k : Nat} (h : xs.length ≤ k) : cutV xs none (some (k : Int)) = xs := by
  unfold cutV
  rw [HT.sIx_none, HT.sIx_nat, Nat.min_eq_right h]
  simp
theorem opw_isN (h : Rp X.K H x d) (q : Q (.bl d.isN) H) : OpW X (compareOp .Is) x .non H Q := by
  refine opw_of op_isN ⟨rfl, ?_⟩
  have : decide (x = V.non) = d.isN := by cases h <;> simp [D.isN]
  rw [this]
  exact q
end
/-! ### the state: a list of two ints -/
def St (a : Addr) (H : Hp) : Prop := ∃ s t : Int, H a = some (.lst [.int s, .int t])
/-- all but the state as it was -/
structure Ke (a : Addr) (H H' : Hp) : Prop where
  s : ∀ b o, b ≠ a → H b = some o → H' b = some o
  t : St a H'
section
variable {K : PySem.W.Frag} {a : Addr} {H H' H2 : Hp}
theorem St.lst (h : St a H) : Lst H a := ⟨_, h.choose_spec.choose_spec⟩
theorem Ke.refl (h : St a H) : Ke a H H := ⟨fun _ _ _ e => e, h⟩
theorem Ke.trans (h : Ke a H H') (g : Ke a H' H2) : Ke a H H2 := ⟨fun b o n e => g.s b o n (h.s b o n e), g.t⟩
theorem Ke.of_same (h : St a H) (s : Same H H') : Ke a H H' := ⟨fun b o _ e => s b o e, h.choose, h.choose_spec.choose, s _ _ h.choose_spec.choose_spec⟩
theorem St.same (h : St a H) (s : Same H H') : St a H' := (Ke.of_same h s).t
theorem Ke.rp {v : V} {d : D} (k : Ke a H H') (h0 : St a H) (h : Rp K H v d) (m : d.im = true) : Rp K H' v d := Rp.keep h0.lst k.s d v m h
theorem Ke.rpA {v : List V} {d : List D} (k : Ke a H H') (h0 : St a H) (h : RpAll K H v d) (m : imAll d = true) : RpAll K H' v d := RpAll.keep h0.lst k.s d v m h
end
/-- what _law_take promises -/
def spTake : Sp := fun vs H Q _ => ∃ (a : Addr) (m : Int), vs = [.ref a, .int m] ∧ (0 < m ∧ m < 1073741824) ∧ St a H ∧ ∀ (r : Int) H', 0 ≤ r → r < m → Ke a H H' → Q (.int r) H'
section
variable {X : Cx} {elt b : Expr} {scope : Scope} {N : List Str} {σ σw : Sl} {S : V → Sl} {H : Hp} {Q : VK} {x : Str} {i : Nat} {px pos rp rpos : Pos} {a : Expr}
/-- [elt for x in range(a)], elt writes the state at A -/
theorem ql_st (hm : X.mg "range" = none) (hg : Gl X "range") (h : Tgt N σ x σw S i) (hN : X.N = N) (nd : X.N.Nodup)
    (hl : ∀ s H0 C cl fp, Loc (X.blk s H0 scope (compEnvC scope cl C X.env) fp).env.scope x) (hf : ∀ s H0 C cl fp, (X.blk s H0 scope (compEnvC scope cl C X.env) fp).fn x = true ∨ (X.blk s H0 scope (compEnvC scope cl C X.env) fp).env.scope.names.lookup x = some .local)
    (hs1 : starEach [a] X.env = [(false, eval a X.env)])
    (q : QE X a σ H fun v H1 => ∃ j : Int, v = .int j ∧ (-(2 ^ 62) ≤ j ∧ j < sizeLine) ∧ ∃ (A : Addr) (p : D → Prop), St A H1 ∧ (∀ d, p d → d.im = true) ∧
      (∀ (k : Nat) H2, (k : Int) < j → Ke A H1 H2 → BE X scope elt (S (.int k)) H2 fun y H3 => Ke A H2 H3 ∧ ∃ d, p d ∧ Rp X.K H3 y d) ∧
      ∀ P H2 ys ds, Ke A H1 H2 → H1 P = none → H2 P = some (.lst ys) → RpAll X.K H2 ys ds → ds.length = j.toNat → (∀ d ∈ ds, p d) → Q (.ref P) H2) : QL X elt (.Name x px) (.Call (.Name "range" rp) [a] [] rpos) [] scope [i] σ H Q := by
  refine qi_range1 hm hg hs1 (q.imp fun v H1 ⟨j, e, hj, A, p, hA, him, hb, hq⟩ => ⟨j, e, by have := sizeLine_eq; omega, ?_⟩)
  intro Dl hD
  have nA : A ≠ Dl := by
    obtain ⟨s, t, z⟩ := hA
    exact ne_of_none z hD
  have hw : wipe σ [i] = σw := by show (wipe σ []).set i none = σw; exact h.w
  refine lc_it walk_range (fun k H => Ke A H1 H ∧ ∃ acc ds, H Dl = some (.lst acc) ∧ RpAll X.K H acc ds ∧ ds.length = k ∧ ∀ d ∈ ds, p d) ⟨Ke.of_same hA (same_new hD), [], [], upd_same, .nil, rfl, by simp⟩ (fun _ _ _ _ => trivial) ?_ ?_
  · rintro k v H2 H3 hk ⟨k2, acc, ds, e1, r1, l1, p1⟩ ⟨rfl, rfl⟩
    rw [hw]
    intro s H0 C cl fp
    refine wg_of (pg_name (i := i) nd (by show X.N[i]? = some x; rw [hN]; exact h.n) (hl s H0 C cl fp) (hf s H0 C cl fp)) ?_
    show wipe (σw.set i (some _)) [i] = σw ∧ _
    rw [h.p]
    refine ⟨by show (S _).set i none = σw; exact h.b _, ?_⟩
    delta QT1 tYes
    dsimp only
    rw [if_pos rfl, show (0 : Int) + (k : Nat) = (k : Int) by omega]
    intro s H0 C cl fp
    refine (hb k H3 (by omega) k2 s H0 C cl fp).imp fun y H4 ⟨k4, d, pd, rd⟩ => ?_
    have e4 : H4 Dl = some (.lst acc) := k4.s _ _ nA.symm e1
    have im : imAll ds = true := imAll_iff.mpr fun d hd => him d (p1 d hd)
    have r4 := k4.rpA k2.t r1 im
    have hk' : ∀ b o, b ≠ Dl → H4 b = some o → (upd H4 Dl (.lst (acc ++ [y]))) b = some o := fun b o n q => by rw [upd_ne n]; exact q
    refine ⟨acc, e4, by rw [r1.len, l1]; omega, ⟨fun b o n z => ?_, ?_⟩, acc ++ [y], ds ++ [d], upd_same, ?_, by simp [l1], ?_⟩
    · rw [upd_ne (ne_of_none z hD)]
      exact k4.s _ _ n (k2.s _ _ n z)
    · obtain ⟨s, t, z⟩ := k4.t
      exact ⟨s, t, by rw [upd_ne nA]; exact z⟩
    · exact (RpAll.keep ⟨acc, e4⟩ hk' _ _ im r4).snoc (Rp.keep ⟨acc, e4⟩ hk' _ _ (him d pd) rd)
    · intro z hz
      rw [List.mem_append] at hz
      rcases hz with hz | hz
      · exact p1 z hz
      · simp at hz
        rw [hz]
        exact pd
  · rintro H2 ⟨k2, acc, ds, e1, r1, l1, p1⟩
    exact hq Dl H2 acc ds k2 hD e1 r1 l1 p1
end
/-! ### the suites of a try -/
def SU (X : Cx) (su : List Stmt) : TSu := fun a k d E σ H => ∀ (o : Obj) (pn : List (Addr × Obj)), Zc k d o → (∃ vs, o.data = .fields vs) → QB (X.suite a ((a, o) :: pn)) su E σ H
theorem su_sem {X : Cx} {su : List Stmt} : ∀ (a : Addr) (o : Obj) (k : Value) (d : Option Addr) (pn : List (Addr × Obj)), Zc k d o → (∃ vs, o.data = .fields vs) → PSs (X.suite a ((a, o) :: pn)) su (SU X su a k d) :=
  fun a o k d pn hz hf => ⟨fun pins s σ H E I h => h o pn hz hf pins s I⟩
end Sx

set_option maxHeartbeats 4000000
namespace K00
open PySem PySem.Spec PyProof.Rows L2 Sx
def top (i : Nat) : Stmt := PySem.Challenge.pw_motionroads_k00_whole_integers_and_rows.main.body.getD i (.Pass ⟨0, 0, 0, 0⟩)
local macro_rules | `(tactic| kct_strs) => `(tactic| first
  | ((with_reducible show QE _ _ _ _ _); (first
    | ((with_reducible refine' we_name ?h ?hN ?hv ?q); (case hN => first | with_reducible assumption | assumption); (case h => infer_instance); (case hv => first | exact Or.inl rfl | exact Or.inr (Or.inl rfl) | exact Or.inr (Or.inr rfl)); (case' q => skip))
    | with_reducible refine we_int ?_
    | with_reducible refine we_bl ?_
    | with_reducible refine we_non ?_
    | with_reducible refine we_str ?_
    | with_reducible refine we_bin ?_
    | with_reducible refine we_not ?_
    | with_reducible refine we_un ?_
    | with_reducible refine we_cmp (nomark _) ?_
    | ((with_reducible refine' we_chain ?h ?q); (case h => with_unfolding_all rfl); (case' q => skip))
    | with_reducible refine we_and ?_
    | with_reducible refine we_or ?_
    | with_reducible refine we_one ?_
    | with_reducible refine we_ifx ?_
    | with_reducible refine we_tup ?_
    | with_reducible refine we_lst ?_
    | ((with_reducible refine' we_join ?q ?hs ?hb ?hl); (case hs => exact rfl); (case hb => exact rfl); (case hl => exact rfl); (case' q => skip))
    | ((with_reducible refine' we_ix ?hs ?q); (case hs => intro _ _; exact rfl); (case' q => skip))
    | ((with_reducible refine' we_bltn ?hm ?hg ?hv ?q ?h1 ?h2 ?h3 ?h4); (case hv => infer_instance); (case hm => first | with_reducible assumption | assumption); (case hg => exact rfl); (case h1 => decide); (case h2 => decide); (case h3 => exact rfl); (case h4 => exact rfl); (case' q => skip))
    | ((with_reducible refine' we_type ?hm ?hg ?hv ?q ?h1 ?h2 ?h3 ?h4); (case hv => infer_instance); (case hm => first | with_reducible assumption | assumption); (case hg => exact rfl); (case h1 => decide); (case h2 => decide); (case h3 => exact rfl); (case h4 => exact rfl); (case' q => skip))
    | ((with_reducible refine' we_tyval ?hm ?hg ?hv ?q ?h1 ?h2); (case hv => infer_instance); (case hm => first | with_reducible assumption | assumption); (case hg => exact rfl); (case h1 => decide); (case h2 => decide); (case' q => skip))
    | ((with_reducible refine' we_gref ?hm ?hg ?q ?h1); (case hm => first | with_reducible assumption | assumption); (case hg => exact rfl); (case h1 => decide); (case' q => skip))
    | ((with_reducible refine' we_call ?c ?hr ?hk ?hg ?q ?h1 ?h2 ?h3); (case c => first | with_reducible assumption | assumption); (case hr => assumption); (case hk => decide); (case hg => exact rfl); (case h1 => decide); (case h2 => exact rfl); (case h3 => exact rfl); (case' q => skip))
    | ((with_reducible refine' we_callX ?c ?tk ?hr ?hk ?hg ?q ?h1 ?h2 ?h3); (case c => first | with_reducible assumption | assumption); (case tk => assumption); (case hr => assumption); (case hk => decide); (case hg => exact rfl); (case h1 => decide); (case h2 => exact rfl); (case h3 => exact rfl); (case' q => skip))
    | ((with_reducible refine' we_lc1 ?hi ?hN ?hc ?nd ?ok ?hs ?q); (case hN => first | with_reducible assumption | assumption); (case hi => infer_instance); (case hc => exact rfl); (case nd => first | with_reducible assumption | assumption); (case ok => exact ⟨rfl, of_decide_eq_true (by kernel_rfl), of_decide_eq_true (by kernel_rfl), of_decide_eq_true (by kernel_rfl), of_decide_eq_true (by kernel_rfl)⟩); (case hs => intro _; exact rfl); (case' q => skip))
    | ((with_reducible refine' we_lcn2 ?hi ?hj ?hN ?hc ?nd ?ok ?hs ?hs1 ?q); (case hN => first | with_reducible assumption | assumption); (case hi => infer_instance); (case hj => infer_instance); (case hc => exact rfl); (case nd => first | with_reducible assumption | assumption); (case ok => exact ⟨rfl, of_decide_eq_true (by kernel_rfl), of_decide_eq_true (by kernel_rfl), of_decide_eq_true (by kernel_rfl), of_decide_eq_true (by kernel_rfl)⟩); (case hs => intro _; exact rfl); (case hs1 => intro _ _; exact rfl); (case' q => skip))); kct_strs)
  | ((with_reducible show QT _ _ _ _ _); (first
    | with_reducible refine wt_not ?_
    | with_reducible refine wt_boolop ?_
    | with_reducible refine wt_cmp (nomark _) ?_
    | ((with_reducible refine' wt_chain ?h ?q); (case h => with_unfolding_all rfl); (case' q => skip))
    | ((with_reducible refine' wt_val ?h ?q); (case h => intro _; rfl); (case' q => skip))); kct_strs)
  | ((with_reducible show QW _ _ _ _ _); (first
    | with_reducible refine ww_and ?_
    | with_reducible refine ww_or ?_
    | with_reducible refine ww_and1 ?_
    | with_reducible refine ww_or1 ?_); kct_strs)
  | ((with_reducible show QA _ _ _ _ _); (first
    | with_reducible refine wa_nil ?_
    | ((with_reducible refine' wa_cons ?h ?q); (case h => exact rfl); (case' q => skip))); kct_strs)
  | ((with_reducible show OpW _ _ _ _ _ _); (first
    | with_reducible first | refine opw_add ?_ | refine opw_sub ?_ | refine opw_lt ?_ | refine opw_le ?_ | refine opw_gt ?_ | refine opw_ge ?_ | refine opw_eq ?_ | refine opw_ne ?_ | refine opw_eqb ?_ | refine opw_neb ?_ | refine opw_eqs ?_ | refine opw_nes ?_
    | ((with_reducible refine' opw_isN ?h ?q); (case h => assumption); (case' q => skip))); kct_strs)
  | ((with_reducible show UnW _ _ _ _ _); (first
    | with_reducible refine unw_neg ?_); kct_strs)
  | ((with_reducible show CallW _ _ _ _ _); (first
    | (with_reducible first | refine callw_abs ?_ | refine callw_int ?_ | refine callw_intb ?_)
    | ((with_reducible refine' isi_int ?h ?o ?q); (case h => assumption); (case o => first | assumption | rfl); (case' q => skip))
    | ((with_reducible refine' isi_bool ?h ?o ?q); (case h => assumption); (case o => first | assumption | rfl); (case' q => skip))
    | ((with_reducible refine' isi_str ?h ?o ?q); (case h => assumption); (case o => first | assumption | rfl); (case' q => skip))
    | ((with_reducible refine' isi_tuple ?h ?o ?q); (case h => assumption); (case o => first | assumption | rfl); (case' q => skip))); kct_strs)
  | ((with_reducible show QB _ _ _ _ _); (first
    | with_reducible refine wss_one ?_
    | with_reducible refine wss_cons ?_
    | with_reducible refine wss_nil ?_); kct_strs)
  | ((with_reducible show QS _ _ _ _ _); (first
    | with_reducible refine ws_ret ?_
    | with_reducible refine ws_retN ?_
    | with_reducible refine ws_if ?_
    | ((with_reducible refine' ws_lc1 ?h ?hi ?hN ?hc ?nd ?hyl ?hsw ?ok ?hs ?q); (case hN => first | with_reducible assumption | assumption); (case h => infer_instance); (case hi => infer_instance); (case hc => exact rfl); (case nd => first | with_reducible assumption | assumption); (case hyl => exact rfl); (case hsw => exact rfl); (case ok => exact ⟨rfl, of_decide_eq_true (by kernel_rfl), of_decide_eq_true (by kernel_rfl), of_decide_eq_true (by kernel_rfl), of_decide_eq_true (by kernel_rfl)⟩); (case hs => intro _; exact rfl); (case' q => skip))
    | ((with_reducible refine' ws_lcn2 ?h ?hi ?hj ?hN ?hc ?nd ?hyl ?hsw ?ok ?hs ?hs1 ?q); (case hN => first | with_reducible assumption | assumption); (case h => infer_instance); (case hi => infer_instance); (case hj => infer_instance); (case hc => exact rfl); (case nd => first | with_reducible assumption | assumption); (case hyl => exact rfl); (case hsw => exact rfl); (case ok => exact ⟨rfl, of_decide_eq_true (by kernel_rfl), of_decide_eq_true (by kernel_rfl), of_decide_eq_true (by kernel_rfl), of_decide_eq_true (by kernel_rfl)⟩); (case hs => intro _; exact rfl); (case hs1 => intro _ _; exact rfl); (case' q => skip))
    | ((with_reducible refine' ws_par ?hN ?hi ?hj ?hij ?hc ?nd ?hx ?hy ?hw ?hs ?q); (case hN => first | with_reducible assumption | assumption); (case hi => infer_instance); (case hj => infer_instance); (case hij => decide); (case hc => exact rfl); (case nd => first | with_reducible assumption | assumption); (case hx => exact rfl); (case hy => exact rfl); (case hw => exact rfl); (case hs => exact rfl); (case' q => skip))
    | ((with_reducible refine' ws_par3 ?hN ?hi ?hj ?hl ?hij ?hil ?hjl ?hc ?nd ?hx ?hy ?hz ?hw ?hs ?q); (case hN => first | with_reducible assumption | assumption); (case hi => infer_instance); (case hj => infer_instance); (case hl => infer_instance); (case hij => decide); (case hil => decide); (case hjl => decide); (case hc => exact rfl); (case nd => first | with_reducible assumption | assumption); (case hx => exact rfl); (case hy => exact rfl); (case hz => exact rfl); (case hw => exact rfl); (case hs => exact rfl); (case' q => skip))
    | ((with_reducible refine' ws_asg ?h1 ?h2 ?h3 ?q); (case h1 => exact rfl); (case h2 => exact rfl); (case h3 => exact rfl); (case' q => skip))
    | ((with_reducible refine' ws_expr ?h ?q); (case h => exact rfl); (case' q => skip))
    | ((with_reducible refine' ws_forr1 ?hm ?hg ?hp ?hc ?hfs ?hs1 ?q); (case hm => first | with_reducible assumption | assumption); (case hg => exact rfl); (case hp => first | exact PassesOwn.never | assumption); (case hc => exact rfl); (case hfs => intro _; exact rfl); (case hs1 => exact rfl); (case' q => skip))
    | ((with_reducible refine' ws_forr2 ?hm ?hg ?hp ?hc ?hfs ?hs1 ?hs2 ?q); (case hm => first | with_reducible assumption | assumption); (case hg => exact rfl); (case hp => first | exact PassesOwn.never | assumption); (case hc => exact rfl); (case hfs => intro _; exact rfl); (case hs1 => exact rfl); (case hs2 => exact rfl); (case' q => skip))); kct_strs)
  | ((with_reducible show QG _ _ _ _ _ _); (first
    | ((with_reducible refine' wg_name ?h ?hN ?nd ?hx ?hf ?q); (case hN => first | with_reducible assumption | assumption); (case h => infer_instance); (case nd => first | with_reducible assumption | assumption); (case hx => first | exact Or.inl rfl | exact Or.inr rfl); (case hf => first | exact Or.inl rfl | exact Or.inr rfl); (case' q => skip))
    | ((with_reducible refine' wg_tup ?hc ?ht ?hl ?hst ?q); (case hc => exact rfl); (case ht => exact Or.inl (Or.inl (by assumption))); (case hl => exact rfl); (case hst => exact rfl); (case' q => skip))
    | ((with_reducible refine' wg_sub ?ha ?q); (case ha => intro _; exact rfl); (case' q => skip))); kct_strs)
  | ((with_reducible show QGs _ _ _ _ _ _); (first
    | with_reducible refine wgs_nil ?_
    | ((with_reducible refine' wgs_cons ?h ?q); (case h => exact rfl); (case' q => skip))); kct_strs)
  | ((with_reducible show Exists _); (first
    | with_reducible refine ⟨_, rfl, ?_⟩
    | ((with_reducible refine' ⟨_, _, rfl, _, _, ?p1, ?p2, ?q⟩); (case p1 => infer_instance); (case p2 => infer_instance); (case' q => skip))
    | ((with_reducible refine' ⟨_, _, _, rfl, _, _, _, ?p1, ?p2, ?p3, ?q⟩); (case p1 => infer_instance); (case p2 => infer_instance); (case p3 => infer_instance); (case' q => skip))); kct_strs)
  | skip)
local macro_rules | `(tactic| l_ints) => `(tactic| first
  | ((with_reducible refine' ql_lcr1 ?hm ?hg ?h ?hN ?nd ?hl ?hf ?hs1 ?q); (case hm => first | with_reducible assumption | assumption); (case hg => exact rfl); (case hN => first | with_reducible assumption | assumption); (case h => infer_instance); (case nd => first | with_reducible assumption | assumption); (case hl => intro _ _ _ _ _; first | exact Or.inl rfl | exact Or.inr rfl); (case hf => intro _ _ _ _ _; first | exact Or.inl rfl | exact Or.inr rfl); (case hs1 => exact rfl); (case' q => skip))
  | ((with_reducible refine' ql_lcr2 ?hm ?hg ?h ?hN ?nd ?hl ?hf ?hs1 ?hs2 ?q); (case hm => first | with_reducible assumption | assumption); (case hg => exact rfl); (case hN => first | with_reducible assumption | assumption); (case h => infer_instance); (case nd => first | with_reducible assumption | assumption); (case hl => intro _ _ _ _ _; first | exact Or.inl rfl | exact Or.inr rfl); (case hf => intro _ _ _ _ _; first | exact Or.inl rfl | exact Or.inr rfl); (case hs1 => exact rfl); (case hs2 => exact rfl); (case' q => skip))
  | ((with_reducible refine' ql_lcr2T ?hm ?hg ?h ?hN ?nd ?hl ?hf ?hs1 ?hs2 ?q); (case hm => first | with_reducible assumption | assumption); (case hg => exact rfl); (case hN => first | with_reducible assumption | assumption); (case h => infer_instance); (case nd => first | with_reducible assumption | assumption); (case hl => intro _ _ _ _ _; first | exact Or.inl rfl | exact Or.inr rfl); (case hf => intro _ _ _ _ _; first | exact Or.inl rfl | exact Or.inr rfl); (case hs1 => exact rfl); (case hs2 => exact rfl); (case' q => skip)))
local macro_rules | `(tactic| mem_news) => `(tactic| ((with_reducible refine' ql_lct ?h ?hN ?nd ?hl ?hf ?q); (case hN => first | with_reducible assumption | assumption); (case h => infer_instance); (case nd => first | with_reducible assumption | assumption); (case hl => intro _ _ _ _ _; first | exact Or.inl rfl | exact Or.inr rfl); (case hf => intro _ _ _ _ _; first | exact Or.inl rfl | exact Or.inr rfl); (case' q => skip)))
local macro_rules | `(tactic| mod_arm) => `(tactic| ((with_reducible refine' ql_lcl ?h ?hN ?nd ?hl ?hf ?q); (case hN => first | with_reducible assumption | assumption); (case h => infer_instance); (case nd => first | with_reducible assumption | assumption); (case hl => intro _ _ _ _ _; first | exact Or.inl rfl | exact Or.inr rfl); (case hf => intro _ _ _ _ _; first | exact Or.inl rfl | exact Or.inr rfl); (case' q => skip)))
local macro_rules | `(tactic| one_item) => `(tactic| ((with_reducible refine' ws_fort ?hp ?hc ?hfs ?q); (case hp => first | exact PassesOwn.never | assumption); (case hc => exact rfl); (case hfs => intro _; exact rfl); (case' q => skip)))
local macro_rules | `(tactic| one_place) => `(tactic| ((with_reducible refine' ws_forl ?hp ?hc ?hfs ?q); (case hp => first | exact PassesOwn.never | assumption); (case hc => exact rfl); (case hfs => intro _; exact rfl); (case' q => skip)))
local macro_rules | `(tactic| one_sign) => `(tactic| ((with_reducible refine' ql2_seq ?h1 ?h ?h2 ?hij ?hN ?nd ?hl ?hf ?hl1 ?hf1 ?q); (case hN => first | with_reducible assumption | assumption); (case h1 => infer_instance); (case h => infer_instance); (case h2 => intro _; infer_instance); (case hij => decide); (case nd => first | with_reducible assumption | assumption); (case hl => intro _ _ _ _ _; first | exact Or.inl rfl | exact Or.inr rfl); (case hf => intro _ _ _ _ _; first | exact Or.inl rfl | exact Or.inr rfl); (case hl1 => intro _ _ _ _ _; first | exact Or.inl rfl | exact Or.inr rfl); (case hf1 => intro _ _ _ _ _; first | exact Or.inl rfl | exact Or.inr rfl); (case' q => skip)))
local macro_rules | `(tactic| pv_eval) => `(tactic| ((with_reducible refine' ql_st ?hm ?hg ?h ?hN ?nd ?hl ?hf ?hs1 ?q); (case hm => first | with_reducible assumption | assumption); (case hg => exact rfl); (case hN => first | with_reducible assumption | assumption); (case h => infer_instance); (case nd => first | with_reducible assumption | assumption); (case hl => intro _ _ _ _ _; first | exact Or.inl rfl | exact Or.inr rfl); (case hf => intro _ _ _ _ _; first | exact Or.inl rfl | exact Or.inr rfl); (case hs1 => exact rfl); (case' q => skip)))
section
variable {P : Program} {w : World} {K : PySem.W.Frag} {mg : Str → Option Value} {base : Heap}
theorem sc5 : FnScope ["value"] ["value"] (defScope (top 5)) := ⟨rfl, rfl, rfl, by decide +kernel, rfl, by decide +kernel, by decide +kernel⟩
theorem sc6 : FnScope ["value", "low", "high"] ["value", "low", "high"] (defScope (top 6)) := ⟨rfl, rfl, rfl, by decide +kernel, rfl, by decide +kernel, by decide +kernel⟩
theorem sc7 : FnScope ["value", "low", "high"] ["value", "low", "high"] (defScope (top 7)) := ⟨rfl, rfl, rfl, by decide +kernel, rfl, by decide +kernel, by decide +kernel⟩
theorem sc8 : FnScope ["value", "x"] ["value"] (defScope (top 8)) := ⟨rfl, rfl, rfl, by decide +kernel, rfl, by decide +kernel, by decide +kernel⟩
def spWhole (K : PySem.W.Frag) : Sp := fun vs H Q _ => ∃ v d, vs = [v] ∧ Rp K H v d ∧ d.ty.isSome = true ∧ Q (.bl d.whole) H
theorem ok_is_integer {f : Addr} {fd : FuncData} (F : Fun K "is_integer" "is_integer" (top 5) f fd) (m1 : mg "isinstance" = none) (m2 : mg "int" = none) (m3 : mg "bool" = none) : FnOk P w K mg base CX0 1 f fd ["value"] (spWhole K) := by
  refine okS F sc5 (fun vs H Q E ⟨_, _, e, _⟩ => by rw [e]; rfl) ?_
  rintro cdv A outer s H _ Q E hr ⟨v, d, rfl, rp, hd, q⟩ hN nd
  change QB _ (_ :: _) _ [some _] _
  kct_strs
  refine ifb (fun e1 => ?_) (fun e1 => ?_)
  · kct_strs
    rw [D.whole_eq, e1] at q
    exact q
  · rw [D.whole_eq, e1] at q
    exact q
/-- an int between low and high -/
def wi (d : D) (lo hi : Int) : Bool := match d with
  | .int i => decide (lo ≤ i) && decide (i ≤ hi)
  | _ => false
def spCount (K : PySem.W.Frag) : Sp := fun vs H Q _ => ∃ v d lo hi, vs = [v, .int lo, .int hi] ∧ Rp K H v d ∧ d.ty.isSome = true ∧ Q (.bl (wi d lo hi)) H
theorem ok_is_count {f : Addr} {fd : FuncData} (F : Fun K "is_count" "is_count" (top 6) f fd) (c1 : Cal P w K mg base 1 "is_integer" (spWhole K) []) : FnOk P w K mg base CX0 2 f fd ["value", "low", "high"] (spCount K) := by
  refine okS F sc6 (fun vs H Q E ⟨_, _, _, _, e, _⟩ => by rw [e]; rfl) ?_
  rintro cdv A outer s H _ Q E hr ⟨v, d, lo, hi, rfl, rp, hd, q⟩ hN nd
  change QB _ (_ :: _) _ [some _, some _, some _] _
  kct_strs
  refine ⟨_, _, rfl, rp, hd, ?_⟩
  kct_strs
  refine ifb (fun e1 => ?_) (fun e1 => ?_)
  · cases d <;> cases e1
    cases rp
    kct_strs
    refine ifd (fun e2 => ?_) (fun e2 => ?_)
    · kct_strs
      simpa [wi, e2] using q
    · simpa [wi, e2] using q
  · cases d <;> first | exact q | cases e1
def spCheck (K : PySem.W.Frag) (C : Addr) : Sp := fun vs H Q E => ∃ v d lo hi, vs = [v, .int lo, .int hi] ∧ Rp K H v d ∧ d.ty.isSome = true ∧ (wi d lo hi = true → Q .non H) ∧ (wi d lo hi = false → E (.ref C) none H)
theorem ok_check_count {f C : Addr} {fd : FuncData} (F : Fun K "check_count" "check_count" (top 7) f fd) (c1 : Cal P w K mg base 2 "is_count" (spCount K) []) (xF : PySem.W.excIn K C [.type "ValueError", .type "Exception", .type "BaseException", .type "object"] "ValueError.__new__" = true) (gC : mg "Malformed" = some (.ref C))
    (kF : PySem.W.keepIn K (.ref C) = true) (bF : PySem.W.subIn K (.ref C) (.type "BaseException") = some true) (tF : PySem.W.typeIn K (.ref C) = some (.type "type")) : FnOk P w K mg base (L2.CX P w) 3 f fd ["value", "low", "high"] (spCheck K C) := by
  refine okXS F sc7 (fun vs H Q E ⟨_, _, _, _, e, _⟩ => by rw [e]; rfl) ?_
  rintro cdv A outer s H _ Q E hr ⟨v, d, lo, hi, rfl, rp, hd, q1, q2⟩ hN nd tk
  change QB _ (_ :: _) _ [some _, some _, some _] _
  kct_strs
  refine ⟨_, _, _, _, rfl, rp, hd, ?_⟩
  kct_strs
  refine ifnb (fun e1 => ?_) (fun e1 => ?_)
  · kct_strs
    exact ws_raise rfl tk PySem.F.excBase_ValueError xF gC kF (raises_own bF tF) rfl (q2 e1)
  · kct_strs
    exact q1 e1
/-- a tuple of ints -/
def wr (d : D) : Bool := match d with
  | .tup ds => ds.all D.whole
  | _ => false
def tysAll (d : D) : Prop := match d with
  | .tup ds => (∀ e ∈ ds, e.ty.isSome = true) ∧ ds.length < 1000
  | _ => True
def spRow (K : PySem.W.Frag) : Sp := fun vs H Q _ => ∃ v d, vs = [v] ∧ Rp K H v d ∧ d.ty.isSome = true ∧ tysAll d ∧ ∀ H', Same H H' → Q (.bl (wr d)) H'
theorem ok_is_whole_row {f : Addr} {fd : FuncData} (F : Fun K "is_whole_row" "is_whole_row" (top 8) f fd) (c1 : Cal P w K mg base 1 "is_integer" (spWhole K) []) (m1 : mg "isinstance" = none) (m2 : mg "tuple" = none) (m3 : mg "all" = none) : FnOk P w K mg base CX0 2 f fd ["value"] (spRow K) := by
  refine okS F sc8 (fun vs H Q E ⟨_, _, e, _⟩ => by rw [e]; rfl) ?_
  rintro cdv A outer s H _ Q E hr ⟨v, d, rfl, rp, hd, ht, q⟩ hN nd
  change QB _ (_ :: _) _ [some _, none] _
  kct_strs
  refine ifb (fun e1 => ?_) (fun e1 => ?_)
  · cases d <;> cases e1
    rename_i ds
    kct_strs
    mem_news
    kct_strs
    have hlen := ht.2
    have hz : (1000 : Nat) < sizeLine := by decide
    refine ⟨ds, rp, by omega, fun e => .bl e.whole, ⟨fun _ _ => rfl, fun d u H2 hd s2 r => ?_⟩, fun p H2 ys s2 hp hp2 r => ?_⟩
    · intro s H0 C cl fp
      kct_strs
      refine ⟨_, _, rfl, r, ht.1 d hd, Same.refl _, .bl _⟩
    · kct_strs
      rw [show ds.map (fun e => D.bl e.whole) = (ds.map D.whole).map D.bl by simp] at r
      refine callw_all rfl hp2 r ?_
      have e2 : ((ds.map D.whole).all id) = wr (.tup ds) := by simp [wr, List.all_map]
      rw [e2]
      exact q _ s2
  · cases d <;> first | exact q _ (Same.refl _) | cases e1
end
section
variable {P : Program} {w : World} {K : PySem.W.Frag} {mg : Str → Option Value} {base : Heap}
theorem sc9 : FnScope ["a", "b"] ["a", "b"] (defScope (top 9)) := ⟨rfl, rfl, rfl, by decide +kernel, rfl, by decide +kernel, by decide +kernel⟩
theorem sc10 : FnScope ["a", "b", "x", "y", "u", "v", "q"] ["a", "b"] (defScope (top 10)) := ⟨rfl, rfl, rfl, by decide +kernel, rfl, by decide +kernel, by decide +kernel⟩
theorem gcd_mod (a b : Int) : Int.gcd b (a % b) = Int.gcd a b := by
  rw [Int.emod_def, Int.gcd_sub_mul_left_right, Int.gcd_comm]
def spCommon : Sp := fun vs H Q _ => ∃ a b : Int, vs = [.int a, .int b] ∧ Q (.int (Int.gcd a b)) H
theorem ok_common {f : Addr} {fd : FuncData} (F : Fun K "common" "common" (top 9) f fd) (m1 : mg "abs" = none) : FnOk P w K mg base CX0 1 f fd ["a", "b"] spCommon := by
  refine okS F sc9 (fun vs H Q E ⟨_, _, e, _⟩ => by rw [e]; rfl) ?_
  rintro cdv A outer s H _ Q E hr ⟨a, b, rfl, q⟩ hN nd
  change QB _ (_ :: _) _ [some _, some _] _
  kct_strs
  refine ws_while (fun σ1 H1 => ∃ a1 b1 : Int, σ1 = [some (.int a1), some (.int b1)] ∧ H = H1 ∧ 0 ≤ a1 ∧ 0 ≤ b1 ∧ Int.gcd a1 b1 = Int.gcd a b) (fun σ1 _ => match σ1 with | [_, some (.int b)] => b.toNat | _ => 0) PassesOwn.never ?_ ?_
  · refine ⟨_, _, rfl, rfl, by split <;> omega, by split <;> omega, ?_⟩
    split <;> split <;> simp [Int.gcd]
  · rintro _ H1 ⟨a1, b1, rfl, rfl, ha1, hb1, hg⟩
    kct_strs
    refine ifd (fun hb => ?_) (fun hb => ?_)
    · kct_strs
      refine opw_mod hb ?_
      kct_strs
      refine ⟨⟨_, _, rfl, rfl, hb1, Int.emod_nonneg _ (by omega), ?_⟩, ?_⟩
      · rw [← hg, gcd_mod]
      · have := Int.emod_lt_of_pos a1 hb
        show (a1 % b1).toNat < b1.toNat
        omega
    · have e : b1 = 0 := by omega
      subst e
      kct_strs
      rw [Int.gcd_zero_right] at hg
      have e : a1 = (Int.gcd a b : Int) := by omega
      rw [e]
      exact q
theorem fmod_lt (a b : Int) (h : b ≠ 0) : (a.fmod b).natAbs < b.natAbs := by
  rw [Int.fmod_eq_emod]
  have h1 := Int.emod_nonneg a h
  have h2 := Int.emod_lt a h

  by_cases hc : 0 ≤ b ∨ b ∣ a
  · rw [if_pos hc]
    omega
  · rw [if_neg hc]
    have h3 : a % b ≠ 0 := fun e => hc (.inr (Int.dvd_of_emod_eq_zero e))
    have : b < 0 := by
      apply Int.not_le.mp
      intro e
      exact hc (.inl e)
    omega
theorem fdiv_le (a b : Int) (h : b ≠ 0) : (a.fdiv b).natAbs ≤ a.natAbs := by
  have h1 := Int.fmod_def a b
  have h2 := fmod_lt a b h
  have h3 : (b * a.fdiv b).natAbs < a.natAbs + b.natAbs := by omega
  rw [Int.natAbs_mul] at h3
  have hb : 1 ≤ b.natAbs := by omega
  apply Nat.not_lt.mp
  intro h4
  have h5 : b.natAbs * (a.natAbs + 1) ≤ b.natAbs * (a.fdiv b).natAbs := Nat.mul_le_mul_left _ h4
  have h6 : 1 * a.natAbs ≤ b.natAbs * a.natAbs := Nat.mul_le_mul_right _ hb
  rw [Nat.mul_add] at h5
  omega
def spBez : Sp := fun vs H Q _ => ∃ a b : Int, vs = [.int a, .int b] ∧ (a.natAbs < 1000 ∧ b.natAbs < 1000) ∧ ∀ (g x y : Int) p H', Same H H' → H' p = some (.tup [.int g, .int x, .int y]) → g = Int.gcd a b → a * x + b * y = g → Q (.ref p) H'
theorem ok_bezout {f : Addr} {fd : FuncData} (F : Fun K "bezout" "bezout" (top 10) f fd) : FnOk P w K mg base CX0 1 f fd ["a", "b"] spBez := by
  refine okS F sc10 (fun vs H Q E ⟨_, _, e, _⟩ => by rw [e]; rfl) ?_
  rintro cdv A outer s H _ Q E hr ⟨a, b, rfl, ⟨ha, hb⟩, q⟩ hN nd
  change QB _ (_ :: _) _ [some _, some _, none, none, none, none, none] _
  kct_strs
  refine ⟨Nat.le_of_ble_eq_true rfl, fun p H1 hp s1 h1 => ?_⟩
  kct_strs
  refine ws_while (fun σ1 H1 => ∃ (a1 b1 x y u v : Int) (q : Option V), σ1 = [some (.int a1), some (.int b1), some (.int x), some (.int y), some (.int u), some (.int v), q] ∧ Same H H1 ∧ a1.natAbs < 1000 ∧ b1.natAbs < 1000 ∧ Int.gcd a1 b1 = Int.gcd a b ∧ a * x + b * y = a1 ∧ a * u + b * v = b1)
    (fun σ1 _ => match σ1 with | [_, some (.int b), _, _, _, _, _] => b.natAbs | _ => 0) PassesOwn.never ?_ ?_
  · exact ⟨_, _, _, _, _, _, _, rfl, s1, ha, hb, rfl, by omega, by omega⟩
  · rintro _ H2 ⟨a1, b1, x, y, u, v, q', rfl, s2, ha1, hb1, hg, hx, hu⟩
    kct_strs
    refine ifn (fun h0 => ?_) (fun h0 => ?_)
    · kct_strs
      refine opw_divN ⟨h0, by omega⟩ ?_
      kct_strs
      have hq := fdiv_le a1 b1 h0
      refine opw_mul (.inr (by omega)) ?_
      kct_strs
      refine opw_mul (.inl (by omega)) ?_
      kct_strs
      refine opw_mul (.inl (by omega)) ?_
      kct_strs
      refine ⟨Nat.le_of_ble_eq_true rfl, fun p H3 hp s3 h3 => ?_⟩
      kct_strs
      have e1 : a1 - a1.fdiv b1 * b1 = a1.fmod b1 := by rw [Int.fmod_def, Int.mul_comm]
      have e2 := fmod_lt a1 b1 h0
      refine ⟨⟨_, _, _, _, _, _, _, rfl, s2.trans s3, by omega, by omega, ?_, hu, ?_⟩, ?_⟩
      · rw [← hg, Int.mul_comm, Int.gcd_sub_mul_left_right, Int.gcd_comm]
      · rw [← hx, ← hu]
        simp only [Int.mul_sub, Int.sub_mul, Int.mul_add, Int.add_mul, Int.mul_left_comm, Int.mul_comm, Int.mul_assoc]
        omega
      · show (a1 - a1.fdiv b1 * b1).natAbs < b1.natAbs
        rw [e1]
        exact e2
    · subst h0
      rw [Int.gcd_zero_right] at hg
      kct_strs
      refine ifd (fun h0 => ?_) (fun h0 => ?_)
      · kct_strs
        refine ⟨Nat.le_of_ble_eq_true rfl, fun p H3 hp s3 h3 => q _ _ _ p H3 (s2.trans s3) h3 (by omega) hx⟩
      · kct_strs
        refine ⟨Nat.le_of_ble_eq_true rfl, fun p H3 hp s3 h3 => q _ _ _ p H3 (s2.trans s3) h3 (by omega) ?_⟩
        rw [Int.mul_neg, Int.mul_neg]
        omega
end
section
variable {P : Program} {w : World} {K : PySem.W.Frag} {mg : Str → Option Value} {base : Heap}
theorem sc11 : FnScope ["row", "found", "x"] ["row"] (defScope (top 11)) := ⟨rfl, rfl, rfl, by decide +kernel, rfl, by decide +kernel, by decide +kernel⟩
theorem sc12 : FnScope ["n", "d"] ["n"] (defScope (top 12)) := ⟨rfl, rfl, rfl, by decide +kernel, rfl, by decide +kernel, by decide +kernel⟩
theorem sc13 : FnScope ["value", "d"] ["value"] (defScope (top 13)) := ⟨rfl, rfl, rfl, by decide +kernel, rfl, by decide +kernel, by decide +kernel⟩
theorem sc14 : FnScope ["a", "k", "found", "_"] ["a", "k"] (defScope (top 14)) := ⟨rfl, rfl, rfl, by decide +kernel, rfl, by decide +kernel, by decide +kernel⟩
theorem sc15 : FnScope ["x"] ["x"] (defScope (top 15)) := ⟨rfl, rfl, rfl, by decide +kernel, rfl, by decide +kernel, by decide +kernel⟩
theorem sc16 : FnScope ["wide", "low", "high", "found", "_", "own", "x"] ["wide", "low", "high"] (defScope (top 16)) := ⟨rfl, rfl, rfl, by decide +kernel, rfl, by decide +kernel, by decide +kernel⟩
theorem sc17 : FnScope ["row", "x"] ["row"] (defScope (top 17)) := ⟨rfl, rfl, rfl, by decide +kernel, rfl, by decide +kernel, by decide +kernel⟩
def lcms (ns : List Nat) : Nat := ns.foldl Nat.lcm 1
theorem div_lcm (m n : Nat) (h : 0 < n) : ((m : Int) / (Int.gcd m n : Int)) * (n : Int) = (Nat.lcm m n : Nat) := by
  show ((m : Int) / (Nat.gcd m n : Nat)) * (n : Int) = _
  rw [← Int.natCast_ediv, ← Int.natCast_mul]
  congr 1
  rw [Nat.lcm, Nat.div_mul_right_comm (Nat.gcd_dvd_left m n)]
def spLeast (K : PySem.W.Frag) : Sp := fun vs H Q _ => ∃ (v : V) (ns : List Nat), vs = [v] ∧ Rp K H v (.lst (ns.map fun n : Nat => D.int n)) ∧ (∀ n ∈ ns, 0 < n ∧ n < 1000) ∧ Q (.int (lcms ns)) H
theorem ok_least_multiple {f : Addr} {fd : FuncData} (F : Fun K "least_multiple" "least_multiple" (top 11) f fd) (c1 : Cal P w K mg base 1 "common" spCommon []) : FnOk P w K mg base CX0 2 f fd ["row"] (spLeast K) := by
  refine okS F sc11 (fun vs H Q E ⟨_, _, e, _⟩ => by rw [e]; rfl) ?_
  rintro cdv A outer s H _ Q E hr ⟨v, ns, rfl, rp, hns, q⟩ hN nd
  change QB _ (_ :: _) _ [some _, none, none] _
  kct_strs
  one_place
  kct_strs
  refine ⟨_, rp, fun k σ H' => ∃ x, H = H' ∧ σ = [some v, some (.int (lcms (ns.take k))), x], ⟨none, rfl, rfl⟩, fun k σ H' ⟨_, e, _⟩ => e ▸ Same.refl _, ?_, ?_⟩
  · rintro k d u σ1 H2 hd ⟨x, rfl, rfl⟩ r
    rw [List.getElem?_map] at hd
    cases hk : ns[k]? with
    | none => rw [hk] at hd; cases hd
    | some n =>
      rw [hk] at hd
      cases hd
      cases r
      have hn := hns n (List.mem_of_getElem? hk)
      show QG _ _ _ _ _ _
      kct_strs
      refine ⟨_, _, rfl, ?_⟩
      kct_strs
      have hg : 0 < Int.gcd (lcms (ns.take k) : Nat) (n : Nat) := Nat.gcd_pos_of_pos_right _ hn.1
      have hg2 : Int.gcd (lcms (ns.take k) : Nat) (n : Nat) ≤ n := Nat.le_of_dvd hn.1 (Nat.gcd_dvd_right _ _)
      refine opw_div ⟨by omega, by omega⟩ ?_
      kct_strs
      refine opw_mul (.inr (by omega)) ?_
      kct_strs
      refine ⟨some (.int n), rfl, ?_⟩
      rw [div_lcm _ _ hn.1, List.take_succ, hk]
      simp [lcms]
  · rintro σ1 H2 ⟨x, rfl, rfl⟩
    kct_strs
    rw [List.length_map, List.take_length]
    exact q
def divs (n : Int) : List D := (List.range n.toNat).filterMap fun k : Nat => if n % (1 + k) = 0 then some (.int (1 + k)) else none
def spDivs (K : PySem.W.Frag) : Sp := fun vs H Q _ => ∃ n : Int, vs = [.int n] ∧ (0 ≤ n ∧ n < 1000) ∧ ∀ v H', Same H H' → Rp K H' v (.lst (divs n)) → Q v H'
theorem ok_divisors {f : Addr} {fd : FuncData} (F : Fun K "divisors" "divisors" (top 12) f fd) (m1 : mg "range" = none) : FnOk P w K mg base CX0 1 f fd ["n"] (spDivs K) := by
  refine okS F sc12 (fun vs H Q E ⟨_, e, _⟩ => by rw [e]; rfl) ?_
  rintro cdv A outer s H _ Q E hr ⟨n, rfl, hn, q⟩ hN nd
  change QB _ (_ :: _) _ [some _, none] _
  kct_strs
  l_ints
  kct_strs
  have hz : (1000 : Int) < sizeLine := by decide
  refine ⟨_, _, rfl, rfl, by omega, fun d => if n % d = 0 then some (.int d) else none, ⟨fun k _ e h => ?_, fun k H2 hk s2 => ?_⟩, fun p H2 ys s2 hp hp2 r => ?_⟩
  · dsimp only at h
    split at h <;> cases h
    rfl
  · intro s H0 C cl fp
    kct_strs
    refine opw_mod (by omega) ?_
    kct_strs
    refine ⟨fun e => ?_, fun e => ?_⟩
    · intro s H0 C cl fp
      kct_strs
      exact ⟨Same.refl _, _, by dsimp only; rw [if_pos (of_decide_eq_true e)], .int _⟩
    · exact ⟨Same.refl _, by dsimp only; rw [if_neg (of_decide_eq_false e)]⟩
  · refine q _ _ s2 (.lstOf hp2 ?_)
    rw [show (n + 1 - 1).toNat = n.toNat by omega] at r
    exact r
def prime (d : D) : Bool := match d with
  | .int i => decide (2 ≤ i) && decide (i ≤ 1000) && ((List.range (i - 2).toNat).map fun k : Nat => !decide (i % (2 + k) = 0)).all id
  | _ => false
def spPrime (K : PySem.W.Frag) : Sp := fun vs H Q _ => ∃ v d, vs = [v] ∧ Rp K H v d ∧ d.ty.isSome = true ∧ ∀ H', Same H H' → Q (.bl (prime d)) H'
theorem ok_is_prime {f : Addr} {fd : FuncData} (F : Fun K "is_prime" "is_prime" (top 13) f fd) (c1 : Cal P w K mg base 2 "is_count" (spCount K) []) (m1 : mg "range" = none) (m2 : mg "all" = none) : FnOk P w K mg base CX0 3 f fd ["value"] (spPrime K) := by
  refine okS F sc13 (fun vs H Q E ⟨_, _, e, _⟩ => by rw [e]; rfl) ?_
  rintro cdv A outer s H _ Q E hr ⟨v, d, rfl, rp, hd, q⟩ hN nd
  change QB _ (_ :: _) _ [some _, none] _
  kct_strs
  refine ⟨_, _, _, _, rfl, rp, hd, ?_⟩
  kct_strs
  refine ifb (fun e1 => ?_) (fun e1 => ?_)
  · obtain ⟨i, rfl⟩ : ∃ i, d = .int i := by
      cases d <;> first | exact ⟨_, rfl⟩ | (simp [wi] at e1)
    have e2 : 2 ≤ i ∧ i ≤ 1000 := by simpa [wi] using e1
    cases rp
    kct_strs
    l_ints
    kct_strs
    have hz : (1000 : Int) < sizeLine := by decide
    refine ⟨_, _, rfl, rfl, by omega, fun d => .bl (!decide (i % d = 0)), ⟨fun k _ => rfl, fun k H2 hk s2 => ?_⟩, fun p H2 ys s2 hp hp2 r => ?_⟩
    · intro s H0 C cl fp
      kct_strs
      refine opw_mod (by omega) ?_
      kct_strs
      exact ⟨Same.refl _, .bl _⟩
    · kct_strs
      rw [show ((List.range (i - 2).toNat).map fun k : Nat => D.bl (!decide (i % (2 + k) = 0))) = ((List.range (i - 2).toNat).map fun k : Nat => !decide (i % (2 + k) = 0)).map D.bl by rw [List.map_map]; rfl] at r
      refine callw_all rfl hp2 r ?_
      have e3 : (((List.range (i - 2).toNat).map fun k : Nat => !decide (i % (2 + k) = 0)).all id) = prime (.int i) := by simp [prime, e2]
      rw [e3]
      exact q _ s2
  · have : prime d = false := by
      cases d <;> first | rfl | skip
      simp only [wi] at e1
      simp [prime, e1]
    rw [← this]
    exact q _ (Same.refl _)
def spPower : Sp := fun vs H Q _ => ∃ (a : Int) (k : Nat), vs = [.int a, .int k] ∧ (a.natAbs < 1000 ∧ k < 1000) ∧ Q (.int (a ^ k)) H
theorem ok_power {f : Addr} {fd : FuncData} (F : Fun K "power" "power" (top 14) f fd) (m1 : mg "range" = none) : FnOk P w K mg base CX0 1 f fd ["a", "k"] spPower := by
  refine okS F sc14 (fun vs H Q E ⟨_, _, e, _⟩ => by rw [e]; rfl) ?_
  rintro cdv A outer s H _ Q E hr ⟨a, n, rfl, ⟨ha, hn⟩, q⟩ hN nd
  change QB _ (_ :: _) _ [some _, some _, none, none] _
  kct_strs
  refine ⟨by omega, fun k σ H' => ∃ x, H = H' ∧ σ = [some (.int a), some (.int n), some (.int (a ^ k)), x], ⟨none, rfl, by rw [Int.pow_zero]⟩, ?_, ?_⟩
  · rintro k σ1 H2 hk ⟨x, rfl, rfl⟩
    show QG _ _ _ _ _ _
    kct_strs
    refine opw_mul (.inr (by omega)) ?_
    kct_strs
    exact ⟨_, rfl, by rw [Int.pow_succ]⟩
  · rintro σ1 H2 ⟨x, rfl, rfl⟩
    kct_strs
    simpa using q
def spSign : Sp := fun vs H Q _ => ∃ a : Int, vs = [.int a] ∧ Q (.int ((if 0 < a then 1 else 0) - (if a < 0 then 1 else 0))) H
theorem ok_sign_of {f : Addr} {fd : FuncData} (F : Fun K "sign_of" "sign_of" (top 15) f fd) (m1 : mg "int" = none) : FnOk P w K mg base CX0 1 f fd ["x"] spSign := by
  refine okS F sc15 (fun vs H Q E ⟨_, e, _⟩ => by rw [e]; rfl) ?_
  rintro cdv A outer s H _ Q E hr ⟨a, rfl, q⟩ hN nd
  change QB _ (_ :: _) _ [some _] _
  kct_strs
  simpa using q
end
section
variable {P : Program} {w : World} {K : PySem.W.Frag} {mg : Str → Option Value} {base : Heap}
def rws (lo hi : Int) : Nat → List (List Int)
  | 0 => [[]]
  | n + 1 => (rws lo hi n).flatMap fun own => (List.range (hi + 1 - lo).toNat).map fun k : Nat => own ++ [lo + (k : Int)]
def dRow (r : List Int) : D := .tup (r.map .int)
theorem rws_len (lo hi : Int) : ∀ n, (rws lo hi n).length = (hi + 1 - lo).toNat ^ n
  | 0 => rfl
  | n + 1 => by
    show ((rws lo hi n).flatMap _).length = _
    rw [List.length_flatMap]
    have : (List.map (fun a => (List.map (fun k : Nat => a ++ [lo + (k : Int)]) (List.range (hi + 1 - lo).toNat)).length) (rws lo hi n)) = List.replicate (rws lo hi n).length (hi + 1 - lo).toNat := by
      rw [List.eq_replicate_iff]
      refine ⟨by simp, fun b hb => ?_⟩
      simp at hb
      obtain ⟨_, h⟩ := hb
      omega
    rw [this, List.sum_replicate_nat, rws_len lo hi n, Nat.pow_succ]
theorem rws_wide (lo hi : Int) : ∀ n, ∀ r ∈ rws lo hi n, r.length = n
  | 0, r, h => by simp [rws] at h; simp [h]
  | n + 1, r, h => by
    simp only [rws, List.mem_flatMap, List.mem_map] at h
    obtain ⟨own, h1, k, h2, rfl⟩ := h
    have := rws_wide lo hi n own h1
    simp [this]
theorem dRow_im (r : List Int) : (dRow r).im = true := by
  show imAll _ = true
  rw [imAll_iff]
  intro d hd
  simp at hd
  obtain ⟨i, _, rfl⟩ := hd
  rfl
def spRows (K : PySem.W.Frag) : Sp := fun vs H Q _ => ∃ (n : Nat) (lo hi : Int), vs = [.int n, .int lo, .int hi] ∧ (n ≤ 3 ∧ lo.natAbs < 1000 ∧ hi.natAbs < 1000 ∧ hi - lo ≤ 3) ∧ ∀ v H', Same H H' → Rp K H' v (.lst ((rws lo hi n).map dRow)) → Q v H'
theorem ok_rows_to {f : Addr} {fd : FuncData} (F : Fun K "rows_to" "rows_to" (top 16) f fd) (m1 : mg "range" = none) : FnOk P w K mg base CX0 1 f fd ["wide", "low", "high"] (spRows K) := by
  refine okS F sc16 (fun vs H Q E ⟨_, _, _, e, _⟩ => by rw [e]; rfl) ?_
  rintro cdv A outer s H _ Q E hr ⟨n, lo, hi, rfl, ⟨hn, hlo, hhi, hw⟩, q⟩ hN nd
  change QB _ (_ :: _) _ [some _, some _, some _, none, none, none, none] _
  kct_strs
  refine ⟨Nat.le_of_ble_eq_true rfl, fun p0 H1 hp0 s1 e0 => ?_⟩
  kct_strs
  refine ⟨Nat.le_of_ble_eq_true rfl, fun p1 H2 hp1 s2 e1 => ?_⟩
  kct_strs
  refine ⟨by omega, fun k σ H' => ∃ v x, Same H H' ∧ k ≤ n ∧ σ = [some (.int n), some (.int lo), some (.int hi), some v, x, none, none] ∧ Rp K H' v (.lst ((rws lo hi k).map dRow)), ?_, ?_, ?_⟩
  · exact ⟨_, _, s1.trans s2, by omega, rfl, .lstOf e1 (.cons (.tupOf (s2 _ _ e0) .nil) .nil)⟩
  · rintro k σ1 H3 hk ⟨v, x, s3, hkn, rfl, rp⟩
    show QG _ _ _ _ _ _
    kct_strs
    one_sign
    refine qi_list ?_
    kct_strs
    obtain ⟨a, xs, rfl, h1, h2⟩ := rp.lst_inv
    refine ⟨a, rfl, ⟨xs, h1⟩, xs.length, _, _, walk_list (xs := xs), fun H' s => s.seq h1, fun _ => (hi + 1 - lo).toNat, (hi + 1 - lo).toNat, fun i j => ((rws lo hi k)[i]?).map fun r => dRow (r ++ [lo + (j : Int)]), ?_, fun _ _ => Nat.le_refl _, ?_, ?_, ?_⟩
    · rw [h2.len, List.length_map, rws_len, ← Nat.pow_succ]
      have h4 : (hi + 1 - lo).toNat ^ (k + 1) ≤ 4 ^ (k + 1) := Nat.pow_le_pow_left (by omega) _
      have h5 : 4 ^ (k + 1) ≤ 4 ^ 4 := Nat.pow_le_pow_right (by omega) (by omega)
      have hz : (4 ^ 4 : Nat) < sizeLine := by decide
      exact Nat.lt_of_le_of_lt (Nat.le_trans h4 h5) hz
    · intro i j d e
      dsimp only at e
      cases hk : (rws lo hi k)[i]? with
      | none => rw [hk] at e; cases e
      | some r => rw [hk] at e; cases e; exact dRow_im _
    · rintro i v H4 H5 hi' s4 ⟨rfl, e⟩
      intro s0 H0 C cl fp
      refine qi_range2 m1 rfl rfl rfl ?_
      kct_strs
      refine ⟨_, _, rfl, rfl, by omega, Same.refl _, _, _, walk_range, fun _ _ _ => trivial, ?_⟩
      rintro j u H6 H7 hj s6 k6 ⟨rfl, rfl⟩
      refine ⟨fun _ => ?_, fun e => by cases e⟩
      obtain ⟨d, e1, r1⟩ := (h2.to s4).get e
      rw [List.getElem?_map] at e1
      cases hk2 : (rws lo hi k)[i]? with
      | none => rw [hk2] at e1; cases e1
      | some r =>
        rw [hk2] at e1
        cases e1
        intro s0 H0 C cl fp
        kct_strs
        refine ⟨Nat.le_of_ble_eq_true rfl, fun p8 H8 hp8 s8 e8 => ?_⟩
        kct_strs
        have r2 := (k6.rp r1 (dRow_im r)).to s8
        have hz : (4 : Nat) < sizeLine := by decide
        have hl := rws_wide lo hi k r (List.mem_of_getElem? hk2)
        refine opw_catT r2 (.tupOf e8 (.cons (.int _) .nil)) ?_ fun v9 H9 s9 r9 => ?_
        · rw [List.length_map, List.length_singleton]
          omega
        · refine ⟨s8.trans s9, dRow (r ++ [lo + (j : Int)]), by dsimp only; rw [hk2]; rfl, ?_⟩
          show Rp _ _ _ (.tup _)
          rw [List.map_append]
          exact r9
    · intro p H4 ys s4 hp e4 r4
      refine ⟨_, _, s3.trans s4, by omega, rfl, .lstOf e4 ?_⟩
      have e5 : flat (fun _ => (hi + 1 - lo).toNat) (fun i j => ((rws lo hi k)[i]?).map fun r => dRow (r ++ [lo + (j : Int)])) xs.length = (rws lo hi (k + 1)).map dRow := by
        rw [h2.len, List.length_map]
        rw [flat_map (rws lo hi k) (fun r j => dRow (r ++ [lo + (j : Int)])), show (rws lo hi (k + 1)) = (rws lo hi k).flatMap fun own => (List.range (hi + 1 - lo).toNat).map fun k : Nat => own ++ [lo + (k : Int)] from rfl, List.map_flatMap]
        simp only [List.map_map]
        rfl
      rw [e5] at r4
      exact r4
  · rintro σ1 H3 ⟨v, x, s3, hkn, rfl, rp⟩
    kct_strs
    exact q _ _ s3 rp
/-- the text of a row -/
def rowT (r : List Int) : Str := if r = [] then "-" else Txt.join "," (r.map fun i => (toString i : Str))
def spText (K : PySem.W.Frag) : Sp := fun vs H Q _ => ∃ (v : V) (r : List Int), vs = [v] ∧ Rp K H v (dRow r) ∧ (r.length < 1000 ∧ ∀ i ∈ r, i.natAbs ≤ 4) ∧ ∀ H', Same H H' → Q (.str (rowT r)) H'
theorem strLen (i : Int) (h : i.natAbs ≤ 4) : (toString i : Str).length ≤ 4 := by
  obtain h | h | h | h | h | h | h | h | h : i = -4 ∨ i = -3 ∨ i = -2 ∨ i = -1 ∨ i = 0 ∨ i = 1 ∨ i = 2 ∨ i = 3 ∨ i = 4 := by omega
  all_goals subst h; decide +kernel
theorem sum_le4 : ∀ ys : List Str, (∀ y ∈ ys, y.length ≤ 4) → (ys.map (·.length)).sum ≤ 4 * ys.length
  | [], _ => by simp
  | y :: r, h => by
    have h1 := h y (by simp)
    have h2 := sum_le4 r fun z hz => h z (by simp [hz])
    simp only [List.map_cons, List.sum_cons, List.length_cons]
    omega
theorem ok_row_text {f : Addr} {fd : FuncData} (F : Fun K "row_text" "row_text" (top 17) f fd) (m1 : mg "len" = none) (m2 : mg "str" = none) : FnOk P w K mg base CX0 1 f fd ["row"] (spText K) := by
  refine okS F sc17 (fun vs H Q E ⟨_, _, e, _⟩ => by rw [e]; rfl) ?_
  rintro cdv A outer s H _ Q E hr ⟨v, r, rfl, rp, ⟨hl, hb⟩, q⟩ hN nd
  change QB _ (_ :: _) _ [some _, none] _
  kct_strs
  refine callw_len_t rp ?_
  kct_strs
  rw [List.length_map]
  refine ifd (fun h0 => ?_) (fun h0 => ?_)
  · kct_strs
    refine ⟨rfl, ?_⟩
    kct_strs
    mem_news
    kct_strs
    have hz : (1000 : Nat) < sizeLine := by decide
    refine ⟨r.map .int, rp, by rw [List.length_map]; omega, fun d => match d with | .int i => .str (toString i) | d => d, ⟨fun d hd => ?_, fun d u H2 hd s2 r2 => ?_⟩, fun p H2 ys s2 hp e2 r2 => ?_⟩
    · rw [List.mem_map] at hd
      obtain ⟨i, _, rfl⟩ := hd
      rfl
    · rw [List.mem_map] at hd
      obtain ⟨i, hi, rfl⟩ := hd
      cases r2
      intro s0 H0 C cl fp
      kct_strs
      refine callw_strI ?_ ⟨Same.refl _, .str _⟩
      have := hb i hi
      have h2 : i.natAbs.log2 ≤ i.natAbs := Nat.log2_le_self _
      omega
    · have e3 : (r.map D.int).map (fun d => match d with | .int i => .str (toString i) | d => d) = (r.map fun i => (toString i : Str)).map D.str := by
        rw [List.map_map, List.map_map]
        rfl
      rw [e3] at r2
      refine ⟨_, .inl (.lstOf e2 r2), ?_, ?_⟩
      · have h4 := sum_le4 (r.map fun i => (toString i : Str)) (by
          intro y hy
          rw [List.mem_map] at hy
          obtain ⟨i, hi, rfl⟩ := hy
          exact strLen i (hb i hi))
        rw [List.length_map] at h4 ⊢
        rw [show ((",": Str)).length = 1 from rfl]
        omega
      · have e4 : rowT r = Txt.join "," (r.map fun i => (toString i : Str)) := by
          unfold rowT
          rw [if_neg]
          rintro rfl
          simp at h0
        rw [e4] at q
        exact q _ s2
  · kct_strs
    have e4 : rowT r = "-" := by
      unfold rowT
      rw [if_pos]
      cases r with
      | nil => rfl
      | cons _ _ => simp at h0
    rw [e4] at q
    exact q _ (Same.refl _)
end
section
variable {P : Program} {w : World} {K : PySem.W.Frag} {mg : Str → Option Value} {base : Heap}
theorem sc19 : FnScope ["script", "seed", "total", "cell"] ["script"] (defScope (top 19)) := ⟨rfl, rfl, rfl, by decide +kernel, rfl, by decide +kernel, by decide +kernel⟩
theorem sc20 : FnScope ["state", "m", "value"] ["state", "m"] (defScope (top 20)) := ⟨rfl, rfl, rfl, by decide +kernel, rfl, by decide +kernel, by decide +kernel⟩
theorem sc21 : FnScope ["value", "due"] ["value", "due"] (defScope (top 21)) := ⟨rfl, rfl, rfl, by decide +kernel, rfl, by decide +kernel, by decide +kernel⟩
theorem sc22 : FnScope ["value"] ["value"] (defScope (top 22)) := ⟨rfl, rfl, rfl, by decide +kernel, rfl, by decide +kernel, by decide +kernel⟩
theorem sc23 : FnScope ["one", "two", "k"] ["one", "two"] (defScope (top 23)) := ⟨rfl, rfl, rfl, by decide +kernel, rfl, by decide +kernel, by decide +kernel⟩
theorem sc24 : FnScope ["a", "b"] ["a", "b"] (defScope (top 24)) := ⟨rfl, rfl, rfl, by decide +kernel, rfl, by decide +kernel, by decide +kernel⟩
theorem sc25 : FnScope ["act", "given", "refused"] ["act", "given"] (defScope (top 25)) := ⟨rfl, rfl, rfl, by decide +kernel, rfl, by decide +kernel, by decide +kernel⟩
def spState (K : PySem.W.Frag) : Sp := fun vs H Q _ => ∃ (v : V) (ns : List Int), vs = [v] ∧ Rp K H v (.lst (ns.map .int)) ∧ ns.length ≤ 63 ∧ ∀ (s t : Int) (p : Addr) (H' : Hp), Same H H' → H' p = some (.lst [.int s, .int t]) → Q (.ref p) H'
theorem ok_law_state {f : Addr} {fd : FuncData} (F : Fun K "_law_state" "_law_state" (top 19) f fd) (m1 : mg "abs" = none) (m2 : mg "int" = none) : FnOk P w K mg base CX0 1 f fd ["script"] (spState K) := by
  refine okS F sc19 (fun vs H Q E ⟨_, _, e, _⟩ => by rw [e]; rfl) ?_
  rintro cdv A outer s H _ Q E hr ⟨v, ns, rfl, rp, hl, q⟩ hN nd
  change QB _ (_ :: _) _ [some _, none, none, none] _
  kct_strs
  one_place
  refine we_sliceHi ?_
  kct_strs
  obtain ⟨a, xs, rfl, h1, h2⟩ := rp.lst_inv
  have hx : xs.length ≤ 63 := by rw [h2.len, List.length_map]; exact hl
  refine ⟨_, _, _, rfl, rfl, h1, fun p H1 hp s1 e1 => ?_⟩
  rw [show (63 : Int) = ((63 : Nat) : Int) from rfl, cut_all hx] at e1
  refine ⟨ns.map .int, .lstOf e1 (h2.to s1), fun k σ H' => ∃ (x y : Int) (z : Option V), Same H1 H' ∧ σ = [some (.ref a), some (.int x), some (.int y), z], ⟨_, _, _, Same.refl _, rfl⟩, fun k σ H' ⟨_, _, _, s, _⟩ => s, ?_, ?_⟩
  · rintro k d u σ1 H2 hd ⟨x, y, z, s2, rfl⟩ r
    rw [List.getElem?_map] at hd
    cases hk : ns[k]? with
    | none => rw [hk] at hd; cases hd
    | some n =>
      rw [hk] at hd
      cases hd
      cases r
      show QG _ _ _ _ _ _
      kct_strs
      refine opw_mul (.inr (by omega)) ?_
      kct_strs
      refine opw_mul (.inr (by omega)) ?_
      kct_strs
      refine opw_mod (by omega) ?_
      kct_strs
      exact ⟨_, _, _, s2, rfl⟩
  · rintro σ1 H2 ⟨x, y, z, s2, rfl⟩
    kct_strs
    refine ifn (fun _ => ?_) (fun _ => ?_)
    · kct_strs
      refine ⟨Nat.le_of_ble_eq_true rfl, fun p3 H3 hp3 s3 e3 => ?_⟩
      exact q _ _ p3 H3 ((s1.trans s2).trans s3) e3
    · kct_strs
      refine ⟨Nat.le_of_ble_eq_true rfl, fun p3 H3 hp3 s3 e3 => ?_⟩
      exact q _ _ p3 H3 ((s1.trans s2).trans s3) e3
theorem ok_law_take {f : Addr} {fd : FuncData} (F : Fun K "_law_take" "_law_take" (top 20) f fd) (m2 : mg "int" = none) : FnOk P w K mg base CX0 1 f fd ["state", "m"] spTake := by
  refine okS F sc20 (fun vs H Q E ⟨_, _, e, _⟩ => by rw [e]; rfl) ?_
  rintro cdv A outer s H _ Q E hr ⟨a, m, rfl, hm, ⟨s0, t0, e0⟩, q⟩ hN nd
  change QB _ (_ :: _) _ [some _, some _, none] _
  have u1 : ∀ x : Int, (upd H a (.lst [.int x, .int t0])) a = some (.lst [.int x, .int t0]) := fun x => upd_same
  kct_strs
  refine ixw_sl (.inl (.inl e0)) rfl ?_
  kct_strs
  refine ifd (fun h0 => ?_) (fun h0 => ?_)
  · kct_strs
    refine ixw_sl (.inl (.inl e0)) rfl ?_
    kct_strs
    refine opw_mod (by omega) ?_
    kct_strs
    refine ixw_sl (.inl (.inl e0)) rfl ?_
    kct_strs
    refine opw_div (by exact hm) ?_
    kct_strs
    refine setw_lst e0 rfl ?_
    kct_strs
    refine q _ _ (Int.emod_nonneg _ (by omega)) (Int.emod_lt_of_pos _ (by omega)) ⟨fun b o n e => by rw [upd_ne n]; exact e, _, _, upd_same⟩
  · kct_strs
    refine ixw_sl (.inl (.inl e0)) rfl ?_
    kct_strs
    refine opw_mul (.inr (by omega)) ?_
    kct_strs
    refine opw_mod (by omega) ?_
    kct_strs
    refine setw_lst e0 rfl ?_
    kct_strs
    refine ixw_sl (.inl (.inl upd_same)) rfl ?_
    kct_strs
    refine opw_div ⟨by omega, by omega⟩ ?_
    kct_strs
    refine opw_mod (by omega) ?_
    kct_strs
    refine q _ _ (Int.emod_nonneg _ (by omega)) (Int.emod_lt_of_pos _ (by omega)) ⟨fun b o n e => by rw [upd_ne n]; exact e, _, _, upd_same⟩
def spSays : Sp := fun vs H Q _ => ∃ b c : Bool, vs = [.bl b, .bl c] ∧ Q (.bl (decide (b = c))) H
theorem ok_law_says {f : Addr} {fd : FuncData} (F : Fun K "_law_says" "_law_says" (top 21) f fd) (m1 : mg "isinstance" = none) (m2 : mg "bool" = none) : FnOk P w K mg base CX0 1 f fd ["value", "due"] spSays := by
  refine okS F sc21 (fun vs H Q E ⟨_, _, e, _⟩ => by rw [e]; rfl) ?_
  rintro cdv A outer s H _ Q E hr ⟨b, c, rfl, q⟩ hN nd
  change QB _ (_ :: _) _ [some _, some _] _
  have rp : Rp K H (.bl b) (.bl b) := .bl b
  kct_strs
  refine ifb (fun _ => ?_) (fun e => by cases e)
  kct_strs
  exact q
theorem ok_law_is_whole {f : Addr} {fd : FuncData} (F : Fun K "_law_is_whole" "_law_is_whole" (top 22) f fd) (m1 : mg "isinstance" = none) (m2 : mg "int" = none) (m3 : mg "bool" = none) : FnOk P w K mg base CX0 1 f fd ["value"] (spWhole K) := by
  refine okS F sc22 (fun vs H Q E ⟨_, _, e, _⟩ => by rw [e]; rfl) ?_
  rintro cdv A outer s H _ Q E hr ⟨v, d, rfl, rp, hd, q⟩ hN nd
  change QB _ (_ :: _) _ [some _] _
  kct_strs
  refine ifb (fun e1 => ?_) (fun e1 => ?_)
  · kct_strs
    rw [D.whole_eq, e1] at q
    exact q
  · rw [D.whole_eq, e1] at q
    exact q
def spSameI : Sp := fun vs H Q _ => ∃ i j : Int, vs = [.int i, .int j] ∧ Q (.bl (decide (i = j))) H
theorem ok_law_same {f : Addr} {fd : FuncData} (F : Fun K "_law_same" "_law_same" (top 23) f fd) (m1 : mg "isinstance" = none) (m2 : mg "tuple" = none) (m3 : mg "str" = none) (c1 : Cal P w K mg base 1 "_law_is_whole" (spWhole K) []) : FnOk P w K mg base CX0 2 f fd ["one", "two"] spSameI := by
  refine okS F sc23 (fun vs H Q E ⟨_, _, e, _⟩ => by rw [e]; rfl) ?_
  rintro cdv A outer s H _ Q E hr ⟨i, j, rfl, q⟩ hN nd
  change QB _ (_ :: _) _ [some _, some _, none] _
  have r1 : Rp K H (.int i) (.int i) := .int i
  have r2 : Rp K H (.int j) (.int j) := .int j
  kct_strs
  refine ifb (fun e => by cases e) (fun _ => ?_)
  kct_strs
  refine ifb (fun e => by cases e) (fun _ => ?_)
  kct_strs
  refine ifb (fun e => by cases e) (fun _ => ?_)
  kct_strs
  refine ⟨_, _, rfl, r1, rfl, ?_⟩
  kct_strs
  refine ifb (fun _ => ?_) (fun e => by cases e)
  kct_strs
  exact q
theorem ok_law_common {f : Addr} {fd : FuncData} (F : Fun K "_law_common" "_law_common" (top 24) f fd) (m1 : mg "abs" = none) (m2 : mg "int" = none) : FnOk P w K mg base CX0 1 f fd ["a", "b"] spCommon := by
  refine okS F sc24 (fun vs H Q E ⟨_, _, e, _⟩ => by rw [e]; rfl) ?_
  rintro cdv A outer s H _ Q E hr ⟨a, b, rfl, q⟩ hN nd
  change QB _ (_ :: _) _ [some _, some _] _
  kct_strs
  refine ws_while (fun σ1 H1 => ∃ a1 b1 : Int, σ1 = [some (.int a1), some (.int b1)] ∧ H = H1 ∧ Int.gcd a1 b1 = Int.gcd a b) (fun σ1 _ => match σ1 with | [_, some (.int b)] => b.natAbs | _ => 0) PassesOwn.never ?_ ?_
  · exact ⟨_, _, rfl, rfl, rfl⟩
  · rintro _ H1 ⟨a1, b1, rfl, rfl, hg⟩
    kct_strs
    refine ifn (fun hb => ?_) (fun hb => ?_)
    · kct_strs
      refine opw_modN hb ?_
      kct_strs
      refine ⟨⟨_, _, rfl, rfl, ?_⟩, ?_⟩
      · rw [← hg, Int.fmod_def, Int.gcd_sub_mul_left_right, Int.gcd_comm]
      · exact fmod_lt a1 b1 hb
    · subst hb
      kct_strs
      rw [Int.gcd_zero_right] at hg
      rw [← hg] at q
      rw [show (if a1 < 0 then -a1 else a1) = (a1.natAbs : Int) by split <;> omega]
      exact q
def spResult (K : PySem.W.Frag) (fC : Addr) : Sp := fun vs H Q _ => ∃ (v : V) (d : D) (lo hi : Int), vs = [.ref fC, v] ∧ Rp K H v (.tup [d, .int lo, .int hi]) ∧ d.ty.isSome = true ∧ ∀ (p : Addr) (H' : Hp), Same H H' → H' p = some (.tup [.str (if wi d lo hi = true then "told" else "malformed"), .non]) → Q (.ref p) H'
theorem ok_law_result {f C fC : Addr} {fd fdC : FuncData} (F : Fun K "_law_result" "_law_result" (top 25) f fd) (FC : FnOk P w K mg base (L2.CX P w) 3 fC fdC ["value", "low", "high"] (spCheck K C)) (kC : PySem.W.keepIn K (.ref fC) = true) (bC : Binds K fdC ["value", "low", "high"] [])
    (eF : PySem.W.exmOne K (.ref C) (.ref C) = some true) (gC : mg "Malformed" = some (.ref C)) (R : Addr) (gR : mg "Refused" = some (.ref R)) (m1 : mg "len" = none) : FnOk P w K mg base CX0 4 f fd ["act", "given"] (spResult K fC) := by
  refine okS F sc25 (fun vs H Q E ⟨_, _, _, _, e, _⟩ => by rw [e]; rfl) ?_
  rintro cdv A outer s H _ Q E hr ⟨v, d, lo, hi, rfl, rp, hd, q⟩ hN nd
  change QB _ (_ :: _) _ [some _, some _, none] _
  kct_strs
  refine ws_try (W := fun _ _ _ _ => False) rfl rfl takes0 (.bare ⟨rfl, by decide, .inl gC⟩ su_sem (.as (ts := fun _ _ _ _ _ _ => False) (i := 2) ⟨rfl, by decide, .inl gR⟩ nd rfl rfl (fun _ _ _ _ _ _ _ => ⟨fun _ _ _ _ _ _ h => h.elim⟩) .nil)) ?_
  intro pn xe tk hp
  kct_strs
  refine callw_len_t rp ?_
  kct_strs
  refine ifd (fun e => by simp at e) (fun _ => ?_)
  kct_strs
  refine callw_len_t rp ?_
  kct_strs
  refine ifd (fun e => by simp at e) (fun _ => ?_)
  kct_strs
  refine callw_len_t rp ?_
  kct_strs
  refine ifd (fun _ => ?_) (fun e => absurd rfl e)
  kct_strs
  refine we_callLX (i := 0) FC kC bC .nil tk hr (by decide) (by infer_instance) hN (.inl rfl) ?_ (by decide) (by decide) rfl rfl
  kct_strs
  refine ixw_tup rp (d := d) rfl (fun v1 r1 => ?_)
  kct_strs
  refine ixw_tup rp (d := .int lo) rfl (fun v2 r2 => ?_)
  cases r2
  kct_strs
  refine ixw_tup rp (d := .int hi) rfl (fun v3 r3 => ?_)
  cases r3
  kct_strs
  refine ⟨_, _, _, _, rfl, r1, hd, fun e => ?_, fun e σ => ?_⟩
  · kct_strs
    refine ⟨Nat.le_of_ble_eq_true rfl, fun p H2 hp s2 e2 => q p H2 s2 ?_⟩
    rw [if_pos e]
    exact e2
  · refine ⟨true, eF, fun _ a ha => ?_, fun e => by cases e⟩
    intro o pn hz hf
    kct_strs
    refine ⟨Nat.le_of_ble_eq_true rfl, fun p H2 hp s2 e2 => q p H2 s2 ?_⟩
    rw [if_neg (by rw [e]; decide)]
    exact e2
end
theorem sc26 : FnScope ["script", "state", "low", "high", "value", "whole", "x", "good", "inside", "d", "prime", "a", "b", "k", "n", "raised", "turn", "g", "y", "row", "least", "m", "wide", "first", "last", "rows", "longer", "own"] ["script"] (defScope (top 26)) := ⟨rfl, rfl, rfl, by decide +kernel, rfl, by decide +kernel, by decide +kernel⟩
def LX (P : Program) (w : World) (K : PySem.W.Frag) (mg : Str → Option Value) (base : Heap) (f : Addr) (cdv : Value) (A : Around) (outer : List Env) (s : Shared) (H : Hp) (E : XK) : Cx := (cxOf CX0 P w K mg base ["script", "state", "low", "high", "value", "whole", "x", "good", "inside", "d", "prime", "a", "b", "k", "n", "raised", "turn", "g", "y", "row", "least", "m", "wide", "first", "last", "rows", "longer", "own"] "law" (defScope (top 26)) f cdv A outer s H E).nox
/-- what the law's text finds -/
structure Fx (X : Cx) (fC : Addr) : Prop where
  hN : X.N = (["script", "state", "low", "high", "value", "whole", "x", "good", "inside", "d", "prime", "a", "b", "k", "n", "raised", "turn", "g", "y", "row", "least", "m", "wide", "first", "last", "rows", "longer", "own"] : List Str)
  nd : X.N.Nodup
  hr : Room 4 X.A
  n_isinstance : X.mg "isinstance" = none
  n_tuple : X.mg "tuple" = none
  n_all : X.mg "all" = none
  n_any : X.mg "any" = none
  n_range : X.mg "range" = none
  n_int : X.mg "int" = none
  n_str : X.mg "str" = none
  n_len : X.mg "len" = none
  g_check : X.mg "check_count" = some (.ref fC)
  c_law_state : Cal X.prog X.w X.K X.mg X.base 1 "_law_state" (spState X.K) []
  c_law_take : Cal X.prog X.w X.K X.mg X.base 1 "_law_take" (spTake) []
  c_law_is_whole : Cal X.prog X.w X.K X.mg X.base 1 "_law_is_whole" (spWhole X.K) []
  c_law_says : Cal X.prog X.w X.K X.mg X.base 1 "_law_says" (spSays) []
  c_is_integer : Cal X.prog X.w X.K X.mg X.base 1 "is_integer" (spWhole X.K) []
  c_is_count : Cal X.prog X.w X.K X.mg X.base 2 "is_count" (spCount X.K) []
  c_is_whole_row : Cal X.prog X.w X.K X.mg X.base 2 "is_whole_row" (spRow X.K) []
  c_is_prime : Cal X.prog X.w X.K X.mg X.base 3 "is_prime" (spPrime X.K) []
  c_law_result : Cal X.prog X.w X.K X.mg X.base 4 "_law_result" (spResult X.K fC) []
  c_bezout : Cal X.prog X.w X.K X.mg X.base 1 "bezout" (spBez) []
  c_law_same : Cal X.prog X.w X.K X.mg X.base 2 "_law_same" (spSameI) []
  c_common : Cal X.prog X.w X.K X.mg X.base 1 "common" (spCommon) []
  c_law_common : Cal X.prog X.w X.K X.mg X.base 1 "_law_common" (spCommon) []
  c_power : Cal X.prog X.w X.K X.mg X.base 1 "power" (spPower) []
  c_sign_of : Cal X.prog X.w X.K X.mg X.base 1 "sign_of" (spSign) []
  c_least_multiple : Cal X.prog X.w X.K X.mg X.base 2 "least_multiple" (spLeast X.K) []
  c_divisors : Cal X.prog X.w X.K X.mg X.base 1 "divisors" (spDivs X.K) []
  c_rows_to : Cal X.prog X.w X.K X.mg X.base 1 "rows_to" (spRows X.K) []
  c_row_text : Cal X.prog X.w X.K X.mg X.base 1 "row_text" (spText X.K) []
def lbody : List Stmt := match (defBody (top 26)).getD 2 (.Pass ⟨0, 0, 0, 0⟩) with
  | .For _ _ b _ _ => b
  | _ => []
section
variable {P : Program} {w : World} {K : PySem.W.Frag} {mg : Str → Option Value} {base : Heap} {f fC : Addr} {cdv : Value} {A : Around} {outer : List Env} {s : Shared} {H0 : Hp} {E0 : XK}
theorem law_turn {D0 : Ends} {u v vs : V} {lo hi : Int} {d : D} {H : Hp} {o0 o1 o2 o3 o4 : Option V} (T : Fx (LX P w K mg base f cdv A outer s H0 E0) fC) (hd : d.ty.isSome = true) (ht : tysAll d) (rp : Rp K H v d)
    (q : ∀ (o1 o2 o3 o4 : Option V) H', Same H H' → D0.nx [some u, some vs, some (.int lo), some (.int hi), some v, o1, none, o2, o3, none, o4, none, none, none, none, none, none, none, none, none, none, none, none, none, none, none, none, none] H') :
    QG (LX P w K mg base f cdv A outer s H0 E0) (.Name "value" ⟨104, 8, 104, 13⟩) v [some u, some vs, some (.int lo), some (.int hi), o0, o1, none, o2, o3, none, o4, none, none, none, none, none, none, none, none, none, none, none, none, none, none, none, none, none] H fun σ2 H2 => QB (LX P w K mg base f cdv A outer s H0 E0) lbody D0 σ2 H2 := by
  obtain ⟨hN, nd, hr, n_isinstance, n_tuple, n_all, n_any, n_range, n_int, n_str, n_len, g_check, c_law_state, c_law_take, c_law_is_whole, c_law_says, c_is_integer, c_is_count, c_is_whole_row, c_is_prime, c_law_result, c_bezout, c_law_same, c_common, c_law_common, c_power, c_sign_of, c_least_multiple, c_divisors, c_rows_to, c_row_text⟩ := T
  kct_strs
  change QB _ (_ :: _ :: lbody.drop 2) _ _ _
  kct_strs
  refine ⟨_, _, rfl, rp, hd, ?_⟩
  kct_strs
  -- whole, good
  have hg : ∀ (b : Bool) H1, Same H H1 → b = wr d → QB (LX P w K mg base f cdv A outer s H0 E0) (lbody.drop 2) D0 [some u, some vs, some (.int lo), some (.int hi), some v, some (.bl d.whole), none, some (.bl b), o3, none, o4, none, none, none, none, none, none, none, none, none, none, none, none, none, none, none, none, none] H1 := by
    rintro b H1 s1 rfl
    change QB _ (_ :: lbody.drop 3) _ _ _
    have rp1 := rp.to s1
    have hi2 : QB (LX P w K mg base f cdv A outer s H0 E0) (lbody.drop 3) D0 [some u, some vs, some (.int lo), some (.int hi), some v, some (.bl d.whole), none, some (.bl (wr d)), some (.bl (wi d lo hi)), none, o4, none, none, none, none, none, none, none, none, none, none, none, none, none, none, none, none, none] H1 := by
      change QB _ (_ :: lbody.drop 4) _ _ _
      have hp2 : ∀ H2, Same H1 H2 → QB (LX P w K mg base f cdv A outer s H0 E0) (lbody.drop 4) D0 [some u, some vs, some (.int lo), some (.int hi), some v, some (.bl d.whole), none, some (.bl (wr d)), some (.bl (wi d lo hi)), none, some (.bl (prime d)), none, none, none, none, none, none, none, none, none, none, none, none, none, none, none, none, none] H2 := by
        intro H2 s2
        have rp2 := rp1.to s2
        change QB _ (_ :: _ :: []) _ _ _
        kct_strs
        refine ⟨_, _, rfl, rp2, hd, ?_⟩
        kct_strs
        refine ⟨_, _, rfl, ?_⟩
        kct_strs
        refine ifnb (fun e => absurd e (by simp)) (fun _ => ?_)
        kct_strs
        refine ⟨_, _, _, _, rfl, rp2, hd, ?_⟩
        kct_strs
        refine ⟨_, _, rfl, ?_⟩
        kct_strs
        refine ifnb (fun e => absurd e (by simp)) (fun _ => ?_)
        kct_strs
        refine ⟨_, _, rfl, rp2, hd, ht, fun H3 s3 => ?_⟩
        kct_strs
        refine ⟨_, _, rfl, ?_⟩
        kct_strs
        refine ifnb (fun e => absurd e (by simp)) (fun _ => ?_)
        kct_strs
        refine ⟨_, _, rfl, rp2.to s3, hd, fun H4 s4 => ?_⟩
        kct_strs
        refine ⟨_, _, rfl, ?_⟩
        kct_strs
        refine ifnb (fun e => absurd e (by simp)) (fun _ => ?_)
        kct_strs
        refine ⟨Nat.le_of_ble_eq_true rfl, fun p5 H5 hp5 s5 e5 => ?_⟩
        kct_strs
        refine ⟨_, _, _, _, rfl, .tupOf e5 (.cons (rp2.to ((s3.trans s4).trans s5)) (.cons (.int _) (.cons (.int _) .nil))), hd, fun p6 H6 s6 e6 => ?_⟩
        kct_strs
        refine ixw_tup (ds := [.str (if wi d lo hi = true then "told" else "malformed"), .non]) (d := .str (if wi d lo hi = true then "told" else "malformed")) (.tupOf e6 (.cons (.str _) (.cons .non .nil))) rfl fun v7 r7 => ?_
        cases r7
        kct_strs
        have sAll : Same H H6 := s1.trans (s2.trans (s3.trans (s4.trans (s5.trans s6))))
        refine ifb (fun e => absurd e ?_) (fun _ => ?_)
        · cases wi d lo hi <;> decide
        · kct_strs
          exact q _ _ _ _ _ sAll
      kct_strs
      refine ifb (fun e1 => ?_) (fun e1 => ?_)
      · obtain ⟨i, rfl⟩ : ∃ i, d = .int i := by
          cases d <;> first | exact ⟨_, rfl⟩ | cases e1
        cases rp
        kct_strs
        refine ifd (fun e2 => ?_) (fun e2 => ?_)
        · kct_strs
          refine ifd (fun e3 => ?_) (fun e3 => ?_)
          · kct_strs
            l_ints
            kct_strs
            have hz : (1000 : Int) < sizeLine := by decide
            refine ⟨_, _, rfl, rfl, by omega, fun d => .bl (!decide (i % d = 0)), ⟨fun k _ => rfl, fun k H2 hk s2 => ?_⟩, fun p H2 ys s2 hp hp2' r => ?_⟩
            · intro s H0 C cl fp
              kct_strs
              refine opw_mod (by omega) ?_
              kct_strs
              exact ⟨Same.refl _, .bl _⟩
            · kct_strs
              rw [show ((List.range (i - 2).toNat).map fun k : Nat => D.bl (!decide (i % (2 + k) = 0))) = ((List.range (i - 2).toNat).map fun k : Nat => !decide (i % (2 + k) = 0)).map D.bl by rw [List.map_map]; rfl] at r
              refine callw_all rfl hp2' r ?_
              have e4 : (((List.range (i - 2).toNat).map fun k : Nat => !decide (i % (2 + k) = 0)).all id) = prime (.int i) := by simp [prime, e2, e3]
              rw [e4]
              kct_strs
              exact hp2 _ s2
          · have e4 : prime (.int i) = false := by simp [prime, e3]
            rw [e4] at hp2
            kct_strs
            exact hp2 _ (Same.refl _)
        · have e4 : prime (.int i) = false := by simp [prime, e2]
          rw [e4] at hp2
          kct_strs
          rw [if_neg Bool.false_ne_true]
          kct_strs
          exact hp2 _ (Same.refl _)
      · have e4 : prime d = false := by
          cases d <;> first | rfl | cases e1
        rw [e4] at hp2
        kct_strs
        exact hp2 _ (Same.refl _)
    kct_strs
    refine ifb (fun e1 => ?_) (fun e1 => ?_)
    · obtain ⟨i, rfl⟩ : ∃ i, d = .int i := by
        cases d <;> first | exact ⟨_, rfl⟩ | cases e1
      cases rp
      kct_strs
      refine ifd (fun e2 => ?_) (fun e2 => ?_)
      · kct_strs
        simp only [wi, e2, decide_true, Bool.true_and] at hi2
        exact hi2
      · kct_strs
        simp only [wi, e2, decide_false, Bool.false_and] at hi2
        exact hi2
    · have e2 : wi d lo hi = false := by
        cases d <;> first | rfl | cases e1
      kct_strs
      rw [e2] at hi2
      exact hi2
  refine ifb (fun e1 => ?_) (fun e1 => ?_)
  · obtain ⟨ds, rfl⟩ : ∃ ds, d = .tup ds := by
      cases d <;> first | exact ⟨_, rfl⟩ | cases e1
    kct_strs
    mem_news
    kct_strs
    have hlen := ht.2
    have hz : (1000 : Nat) < sizeLine := by decide
    refine ⟨ds, rp, by omega, fun e => .bl e.whole, ⟨fun _ _ => rfl, fun d u H2 hd s2 r => ?_⟩, fun p H2 ys s2 hp hp2 r => ?_⟩
    · intro s H0 C cl fp
      kct_strs
      refine ⟨_, _, rfl, r, ht.1 d hd, Same.refl _, .bl _⟩
    · kct_strs
      rw [show ds.map (fun e => D.bl e.whole) = (ds.map D.whole).map D.bl by simp] at r
      refine callw_all rfl hp2 r ?_
      kct_strs
      exact hg _ _ s2 (by simp [wr, List.all_map])
  · have : wr d = false := by
      cases d <;> first | rfl | cases e1
    kct_strs
    exact hg _ _ (Same.refl _) this.symm
theorem law_1 {v : V} {ns : List Int} {H : Hp} (T : Fx (LX P w K mg base f cdv A outer s H0 E0) fC) (rp : Rp K H v (.lst (ns.map .int))) (hl : ns.length ≤ 63) {D0 : Ends}
    (q : ∀ (vs : Addr) (lo hi : Int) (o0 o1 o2 o3 o4 : Option V) H', St vs H' → (-4 ≤ lo ∧ lo ≤ 4) → QB (LX P w K mg base f cdv A outer s H0 E0) ((defBody (top 26)).drop 3) D0 [some v, some (.ref vs), some (.int lo), some (.int hi), o0, o1, none, o2, o3, none, o4, none, none, none, none, none, none, none, none, none, none, none, none, none, none, none, none, none] H') :
    QB (LX P w K mg base f cdv A outer s H0 E0) (defBody (top 26)) D0 [some v, none, none, none, none, none, none, none, none, none, none, none, none, none, none, none, none, none, none, none, none, none, none, none, none, none, none, none] H := by
  have T' := T
  obtain ⟨hN, nd, hr, n_isinstance, n_tuple, n_all, n_any, n_range, n_int, n_str, n_len, g_check, c_law_state, c_law_take, c_law_is_whole, c_law_says, c_is_integer, c_is_count, c_is_whole_row, c_is_prime, c_law_result, c_bezout, c_law_same, c_common, c_law_common, c_power, c_sign_of, c_least_multiple, c_divisors, c_rows_to, c_row_text⟩ := T
  change QB _ (_ :: _ :: (Stmt.For _ _ lbody [] _) :: (defBody (top 26)).drop 3) _ _ _
  kct_strs
  refine ⟨_, _, rfl, rp, hl, fun s0 t0 ps H1 s1 e1 => ?_⟩
  have st1 : St ps H1 := ⟨_, _, e1⟩
  kct_strs
  refine ⟨_, _, rfl, by decide, st1, fun r1 H2 h1 h2 k2 => ?_⟩
  kct_strs
  refine ⟨_, _, rfl, by decide, k2.t, fun r3 H3 h3 h4 k3 => ?_⟩
  kct_strs
  one_place
  kct_strs
  refine ⟨Nat.le_of_ble_eq_true rfl, fun p4 H4 hp4 s4 e4 => ?_⟩
  kct_strs
  refine ⟨Nat.le_of_ble_eq_true rfl, fun p5 H5 hp5 s5 e5 => ?_⟩
  kct_strs
  refine ⟨Nat.le_of_ble_eq_true rfl, fun p6 H6 hp6 s6 e6 => ?_⟩
  kct_strs
  refine ⟨Nat.le_of_ble_eq_true rfl, fun p7 H7 hp7 s7 e7 => ?_⟩
  kct_strs
  refine ⟨Nat.le_of_ble_eq_true rfl, fun p8 H8 hp8 s8 e8 => ?_⟩
  kct_strs
  refine ⟨Nat.le_of_ble_eq_true rfl, fun p9 H9 hp9 s9 e9 => ?_⟩
  have c6 := s6.trans (s7.trans (s8.trans s9))
  have c7 := s7.trans (s8.trans s9)
  have c8 := s8.trans s9
  have c5 := s5.trans c6
  have d4 : Rp K H9 (.ref p4) (.tup []) := .tupOf (c5 _ _ e4) .nil
  have d5 : Rp K H9 (.ref p5) (.tup [.int 1, .int 2]) := .tupOf (c6 _ _ e5) (.cons (.int _) (.cons (.int _) .nil))
  have d6 : Rp K H9 (.ref p6) (.tup [.int 2, .bl true]) := .tupOf (c7 _ _ e6) (.cons (.int _) (.cons (.bl _) .nil))
  have d7 : Rp K H9 (.ref p7) (.lst [.int 1]) := .lstOf (c8 _ _ e7) (.cons (.int _) .nil)
  have d8 : Rp K H9 (.ref p8) (.tup [.int 1, .str "0"]) := .tupOf (s9 _ _ e8) (.cons (.int _) (.cons (.str _) .nil))
  have st9 : St ps H9 := k3.t.same (s4.trans c5)
  refine ⟨[.int 0, .int 3, .int (-2), .bl true, .non, .str "1", .tup [], .tup [.int 1, .int 2], .tup [.int 2, .bl true], .lst [.int 1], .tup [.int 1, .str "0"], .int (r1 - 4), .int (r3 - 2 + 1), .int 997, .int 1000, .int 1009],
    .lstOf e9 (.cons (.int _) (.cons (.int _) (.cons (.int _) (.cons (.bl _) (.cons .non (.cons (.str _) (.cons d4 (.cons d5 (.cons d6 (.cons d7 (.cons d8 (.cons (.int _) (.cons (.int _) (.cons (.int _) (.cons (.int _) (.cons (.int _) .nil)))))))))))))))),
    fun k σ H' => Same H9 H' ∧ ∃ o0 o1 o2 o3 o4 : Option V, σ = [some v, some (.ref ps), some (.int (r1 - 4)), some (.int (r3 - 2)), o0, o1, none, o2, o3, none, o4, none, none, none, none, none, none, none, none, none, none, none, none, none, none, none, none, none], ⟨Same.refl _, _, _, _, _, _, rfl⟩, fun k σ H' h => h.1, ?_, ?_⟩
  · rintro k d u σ1 HA hdk ⟨sA, o0, o1, o2, o3, o4, rfl⟩ r
    have hx : d.ty.isSome = true ∧ tysAll d := by
      have hm := List.mem_of_getElem? hdk
      simp only [List.mem_cons, List.not_mem_nil, or_false] at hm
      rcases hm with rfl | rfl | rfl | rfl | rfl | rfl | rfl | rfl | rfl | rfl | rfl | rfl | rfl | rfl | rfl | rfl <;> refine ⟨rfl, ?_⟩ <;> simp [tysAll, D.ty]
    exact law_turn T' hx.1 hx.2 r fun p1 p2 p3 p4 H' s' => ⟨sA.trans s', _, _, _, _, _, rfl⟩
  · rintro σ1 HA ⟨sA, o0, o1, o2, o3, o4, rfl⟩
    exact q _ _ _ _ _ _ _ _ _ (st9.same sA) ⟨by omega, by omega⟩
end
section
variable {P : Program} {w : World} {K : PySem.W.Frag} {mg : Str → Option Value} {base : Heap} {f fC : Addr} {cdv : Value} {A : Around} {outer : List Env} {s : Shared} {H0 : Hp} {E0 : XK}
theorem law_2 {D0 : Ends} {v : V} {vs : Addr} {lo hi : Int} {o0 o1 o2 o3 o4 : Option V} {H : Hp} (T : Fx (LX P w K mg base f cdv A outer s H0 E0) fC) (st : St vs H)
    (q : ∀ (n : Int) (w11 w12 w13 w15 w16 w17 w18 w6 : Option V) H', St vs H' → (1 ≤ n ∧ n ≤ 60) → QB (LX P w K mg base f cdv A outer s H0 E0) ((defBody (top 26)).drop 9) D0 [some v, some (.ref vs), some (.int lo), some (.int hi), o0, o1, w6, o2, o3, none, o4, w11, w12, w13, some (.int n), w15, w16, w17, w18, none, none, none, none, none, none, none, none, none] H') :
    QB (LX P w K mg base f cdv A outer s H0 E0) ((defBody (top 26)).drop 3) D0 [some v, some (.ref vs), some (.int lo), some (.int hi), o0, o1, none, o2, o3, none, o4, none, none, none, none, none, none, none, none, none, none, none, none, none, none, none, none, none] H := by
  obtain ⟨hN, nd, hr, n_isinstance, n_tuple, n_all, n_any, n_range, n_int, n_str, n_len, g_check, c_law_state, c_law_take, c_law_is_whole, c_law_says, c_is_integer, c_is_count, c_is_whole_row, c_is_prime, c_law_result, c_bezout, c_law_same, c_common, c_law_common, c_power, c_sign_of, c_least_multiple, c_divisors, c_rows_to, c_row_text⟩ := T
  change QB _ (_ :: _ :: _ :: _ :: (defBody (top 26)).drop 7) _ _ _
  kct_strs
  refine ⟨_, _, rfl, by decide, st, fun r1 H1 h1 h2 k1 => ?_⟩
  kct_strs
  refine ⟨_, _, rfl, by decide, k1.t, fun r2 H2 h3 h4 k2 => ?_⟩
  kct_strs
  refine ⟨_, _, rfl, by decide, k2.t, fun r3 H3 h5 h6 k3 => ?_⟩
  kct_strs
  refine ⟨_, _, rfl, by decide, k3.t, fun r4 H4 h7 h8 k4 => ?_⟩
  kct_strs
  refine ⟨Nat.le_of_ble_eq_true rfl, fun p5 H5 hp5 s5 e5 => ?_⟩
  kct_strs
  obtain ⟨k, rfl⟩ : ∃ k : Nat, r3 = k := ⟨r3.toNat, by omega⟩
  generalize ha : r1 - 120 = a
  generalize hb : r2 - 120 = b
  refine ⟨by omega, fun i σ H' => ∃ x : Option V, H5 = H' ∧ σ = [some v, some (.ref vs), some (.int lo), some (.int hi), o0, o1, none, o2, o3, none, o4, some (.int a), some (.int b), some (.int k), some (.int (1 + r4)), some (.int (a ^ i)), x, none, none, none, none, none, none, none, none, none, none, none], ⟨none, rfl, by rw [Int.pow_zero]⟩, ?_, ?_⟩
  · rintro i σ1 H6 hi ⟨x, rfl, rfl⟩
    show QG _ _ _ _ _ _
    kct_strs
    refine opw_mul (.inr (by omega)) ?_
    kct_strs
    exact ⟨_, rfl, by rw [Int.pow_succ]⟩
  · rintro σ1 H6 ⟨x, rfl, rfl⟩
    kct_strs
    refine ⟨_, _, rfl, by omega, fun g x1 y1 p7 H7 s7 e7 hg hxy => ?_⟩
    kct_strs
    change QB _ (_ :: _ :: (defBody (top 26)).drop 9) _ _ _
    kct_strs
    refine ⟨_, _, rfl, ?_⟩
    kct_strs
    refine ⟨_, _, rfl, ?_⟩
    kct_strs
    refine ⟨_, _, rfl, ?_⟩
    kct_strs
    refine ifnb (fun e => absurd e (by simp)) (fun _ => ?_)
    kct_strs
    refine ⟨_, _, rfl, ?_⟩
    kct_strs
    refine ifn (fun e => absurd hg e) (fun _ => ?_)
    kct_strs
    refine opw_mul (.inl (by omega)) ?_
    kct_strs
    refine opw_mul (.inl (by omega)) ?_
    kct_strs
    refine ifn (fun e => absurd hxy e) (fun _ => ?_)
    kct_strs
    refine ⟨_, _, rfl, by omega, ?_⟩
    kct_strs
    refine ⟨_, _, rfl, ?_⟩
    kct_strs
    refine ifnb (fun e => absurd e (by simp)) (fun _ => ?_)
    kct_strs
    refine ⟨_, rfl, ?_⟩
    have fin : QB (LX P w K mg base f cdv A outer s H0 E0) ((defBody (top 26)).drop 9) D0 [some v, some (.ref vs), some (.int lo), some (.int hi), o0, o1, some (.int x1), o2, o3, none, o4, some (.int a), some (.int b), some (.int k), some (.int (1 + r4)), some (.int (a ^ ((k : Int)).toNat)), x, some (.int g), some (.int y1), none, none, none, none, none, none, none, none, none] H7 :=
      q _ _ _ _ _ _ _ _ _ _ (k4.t.same (s5.trans s7)) ⟨by omega, by omega⟩
    kct_strs
    refine ifd (fun e1 => ?_) (fun e1 => ?_)
    · kct_strs
      refine ⟨_, _, rfl, ?_⟩
      kct_strs
      refine ifnb (fun e => absurd e ?_) (fun _ => ?_)
      · rw [if_pos e1, if_neg (by omega)]; decide
      · kct_strs
        exact fin
    · kct_strs
      refine ifd (fun e2 => ?_) (fun e2 => ?_)
      · kct_strs
        refine ⟨_, _, rfl, ?_⟩
        kct_strs
        refine ifnb (fun e => absurd e ?_) (fun _ => ?_)
        · rw [if_neg e1, if_pos e2]; decide
        · kct_strs
          exact fin
      · kct_strs
        refine ⟨_, _, rfl, ?_⟩
        kct_strs
        refine ifnb (fun e => absurd e ?_) (fun _ => ?_)
        · rw [if_neg e1, if_neg e2]; decide
        · kct_strs
          exact fin
end
theorem pureAll_iff' {ds : List D} : pureAll ds = true ↔ ∀ d ∈ ds, d.pure = true := by
  induction ds with
  | nil => simp [pureAll]
  | cons d r ih => simp [pureAll, ih]
theorem depAll_le {ds : List D} {n : Nat} (h : ∀ d ∈ ds, d.dep ≤ n) : depAll ds ≤ n := by
  induction ds with
  | nil => simp [depAll]
  | cons d r ih =>
    have h1 := h d (by simp)
    have h2 := ih fun x hx => h x (by simp [hx])
    simp only [depAll]
    omega
theorem divs_int (n : Int) : ∀ d ∈ divs n, ∃ i, d = .int i := by
  intro d hd
  unfold divs at hd
  rw [List.mem_filterMap] at hd
  obtain ⟨k, _, h⟩ := hd
  split at h <;> cases h
  exact ⟨_, rfl⟩
theorem lcm_fold_dvd : ∀ (ns : List Nat) (a : Nat), a ∣ ns.foldl Nat.lcm a ∧ ∀ n ∈ ns, n ∣ ns.foldl Nat.lcm a
  | [], a => ⟨Nat.dvd_refl _, by simp⟩
  | n :: r, a => by
    have ih := lcm_fold_dvd r (Nat.lcm a n)
    refine ⟨Nat.dvd_trans (Nat.dvd_lcm_left a n) ih.1, fun m hm => ?_⟩
    rw [List.mem_cons] at hm
    rcases hm with rfl | hm
    · exact Nat.dvd_trans (Nat.dvd_lcm_right a m) ih.1
    · exact ih.2 m hm
theorem lcm_fold_min : ∀ (ns : List Nat) (a m : Nat), a ∣ m → (∀ n ∈ ns, n ∣ m) → ns.foldl Nat.lcm a ∣ m
  | [], _, _, h, _ => h
  | n :: r, a, m, h, g => lcm_fold_min r (Nat.lcm a n) m (Nat.lcm_dvd h (g n (by simp))) fun x hx => g x (by simp [hx])
theorem lcm_fold_le : ∀ (ns : List Nat) (a : Nat), (∀ n ∈ ns, 1 ≤ n ∧ n ≤ 12) → ns.foldl Nat.lcm a ≤ a * 12 ^ ns.length
  | [], a, _ => by simp
  | n :: r, a, h => by
    have ih := lcm_fold_le r (Nat.lcm a n) fun x hx => h x (by simp [hx])
    have h1 := h n (by simp)
    have h2 : Nat.lcm a n ≤ a * n := by
      unfold Nat.lcm
      exact Nat.div_le_self _ _
    have h3 : a * n ≤ a * 12 := Nat.mul_le_mul_left _ h1.2
    show r.foldl Nat.lcm (Nat.lcm a n) ≤ a * 12 ^ (r.length + 1)
    have h4 : Nat.lcm a n * 12 ^ r.length ≤ (a * 12) * 12 ^ r.length := Nat.mul_le_mul_right _ (Nat.le_trans h2 h3)
    rw [Nat.pow_succ, Nat.mul_comm (12 ^ r.length) 12, ← Nat.mul_assoc]
    omega
theorem lcms_le (ns : List Nat) (h : ∀ n ∈ ns, 1 ≤ n ∧ n ≤ 12) (hl : ns.length ≤ 3) : lcms ns ≤ 1728 := by
  have h1 := lcm_fold_le ns 1 h
  have h2 : 12 ^ ns.length ≤ 12 ^ 3 := Nat.pow_le_pow_right (by omega) hl
  unfold lcms
  omega
theorem nats_of {ds : List D} {p : Nat → Prop} (h : ∀ d ∈ ds, ∃ n : Nat, d = .int n ∧ p n) : ∃ ns : List Nat, ds = ns.map (fun n : Nat => D.int n) ∧ ∀ n ∈ ns, p n := by
  induction ds with
  | nil => exact ⟨[], rfl, by simp⟩
  | cons d r ih =>
    obtain ⟨n, rfl, hn⟩ := h d (by simp)
    obtain ⟨ns, rfl, hns⟩ := ih fun x hx => h x (by simp [hx])
    refine ⟨n :: ns, rfl, fun m hm => ?_⟩
    rw [List.mem_cons] at hm
    rcases hm with rfl | hm
    · exact hn
    · exact hns m hm
section
variable {P : Program} {w : World} {K : PySem.W.Frag} {mg : Str → Option Value} {base : Heap} {f fC : Addr} {cdv : Value} {A : Around} {outer : List Env} {s : Shared} {H0 : Hp} {E0 : XK}
theorem law_3 {D0 : Ends} {v : V} {vs : Addr} {lo hi n : Int} {o0 o1 o2 o3 o4 w11 w12 w13 w15 w16 w17 w18 w6 : Option V} {H : Hp} (T : Fx (LX P w K mg base f cdv A outer s H0 E0) fC) (st : St vs H) (hn : 1 ≤ n ∧ n ≤ 60)
    (q : ∀ (w19 w20 : Option V) H', St vs H' → QB (LX P w K mg base f cdv A outer s H0 E0) ((defBody (top 26)).drop 13) D0 [some v, some (.ref vs), some (.int lo), some (.int hi), o0, o1, w6, o2, o3, none, o4, w11, w12, w13, some (.int n), w15, w16, w17, w18, w19, w20, none, none, none, none, none, none, none] H') :
    QB (LX P w K mg base f cdv A outer s H0 E0) ((defBody (top 26)).drop 9) D0 [some v, some (.ref vs), some (.int lo), some (.int hi), o0, o1, w6, o2, o3, none, o4, w11, w12, w13, some (.int n), w15, w16, w17, w18, none, none, none, none, none, none, none, none, none] H := by
  obtain ⟨hN, nd, hr, n_isinstance, n_tuple, n_all, n_any, n_range, n_int, n_str, n_len, g_check, c_law_state, c_law_take, c_law_is_whole, c_law_says, c_is_integer, c_is_count, c_is_whole_row, c_is_prime, c_law_result, c_bezout, c_law_same, c_common, c_law_common, c_power, c_sign_of, c_least_multiple, c_divisors, c_rows_to, c_row_text⟩ := T
  change QB _ (_ :: _ :: (defBody (top 26)).drop 11) _ _ _
  kct_strs
  pv_eval
  kct_strs
  refine ⟨_, _, rfl, by decide, st, fun r1 H1 h1 h2 k1 => ?_⟩
  kct_strs
  have hz : (2000 : Int) < sizeLine := by decide
  refine ⟨by omega, vs, fun d => ∃ n : Nat, d = .int n ∧ (1 ≤ n ∧ n ≤ 12), k1.t, fun d ⟨_, e, _⟩ => by rw [e]; rfl, fun k H2 hk k2 => ?_, fun P2 H2 ys ds k2 hP e2 r2 hlen hp => ?_⟩
  · intro s0 H0 C cl fp
    kct_strs
    refine ⟨_, _, rfl, by decide, k2.t, fun r3 H3 h3 h4 k3 => ?_⟩
    kct_strs
    exact ⟨k3, .int (1 + r3), ⟨(1 + r3).toNat, by congr 1; omega, by omega, by omega⟩, .int _⟩
  · obtain ⟨ns, rfl, hns⟩ := nats_of hp
    have hlen' : ns.length ≤ 3 := by rw [List.length_map] at hlen; omega
    have rl : Rp K H2 (.ref P2) (.lst (ns.map fun n : Nat => D.int n)) := .lstOf e2 r2
    have hL := lcms_le ns hns hlen'
    have hL1 := lcm_fold_dvd ns 1
    have hlz : (ns.map fun n : Nat => D.int n).length < sizeLine := by
      rw [List.length_map]
      omega
    kct_strs
    refine ⟨_, ns, rfl, rl, fun m hm => ⟨(hns m hm).1, by have := (hns m hm).2; omega⟩, ?_⟩
    kct_strs
    change QB _ (_ :: _ :: (defBody (top 26)).drop 13) _ _ _
    kct_strs
    mod_arm
    kct_strs
    refine ⟨_, rl, hlz, fun d => match d with | .int i => .bl (!decide ((lcms ns : Int) % i = 0)) | d => d, ⟨fun d hd => ?_, fun d u H3 hd s3 r3 => ?_⟩, fun P3 H3 zs s3 hP3 e3 r3 => ?_⟩
    · rw [List.mem_map] at hd
      obtain ⟨m, _, rfl⟩ := hd
      rfl
    · rw [List.mem_map] at hd
      obtain ⟨m, hm, rfl⟩ := hd
      cases r3
      have := hns m hm
      intro s0 H0 C cl fp
      kct_strs
      refine opw_mod (by omega) ?_
      kct_strs
      exact ⟨Same.refl _, .bl _⟩
    · have e4 : (ns.map fun n : Nat => D.int n).map (fun d => match d with | .int i => D.bl (!decide ((lcms ns : Int) % i = 0)) | d => d) = (ns.map fun m => !decide ((lcms ns : Int) % (m : Nat) = 0)).map D.bl := by
        rw [List.map_map, List.map_map]
        rfl
      rw [e4] at r3
      kct_strs
      refine callw_any rfl e3 r3 ?_
      kct_strs
      have a1 : (ns.map fun m : Nat => !decide ((lcms ns : Int) % (m : Nat) = 0)).any id = false := by
        rw [List.any_eq_false]
        intro b hb
        rw [List.mem_map] at hb
        obtain ⟨m, hm, rfl⟩ := hb
        have : (m : Int) ∣ (lcms ns : Int) := Int.natCast_dvd_natCast.mpr (hL1.2 m hm)
        simp [Int.emod_eq_zero_of_dvd this]
      rw [a1]
      rw [if_neg Bool.false_ne_true]
      kct_strs
      l_ints
      kct_strs
      have rl3 := rl.to s3
      refine ⟨_, _, rfl, rfl, by omega, fun i => .bl ((ns.map fun n : Nat => decide (i % (n : Int) = 0)).all id), ⟨fun k _ => rfl, fun k H4 hk s4 => ?_⟩, fun P4 H4 ws s4 hP4 e4 r4 => ?_⟩
      · intro s0 H00 C cl fp
        kct_strs
        mod_arm
        kct_strs
        refine ⟨_, rl3.to s4, hlz, fun d => match d with | .int i => .bl (decide ((1 + (k : Int)) % i = 0)) | d => d, ⟨fun d hd => ?_, fun d u H5 hd s5 r5 => ?_⟩, fun P5 H5 us s5 hP5 e5 r5 => ?_⟩
        · rw [List.mem_map] at hd
          obtain ⟨m, _, rfl⟩ := hd
          rfl
        · rw [List.mem_map] at hd
          obtain ⟨m, hm, rfl⟩ := hd
          cases r5
          have := hns m hm
          intro s0 H00 C cl fp
          kct_strs
          refine opw_mod (by omega) ?_
          kct_strs
          exact ⟨Same.refl _, .bl _⟩
        · have e6 : (ns.map fun n : Nat => D.int n).map (fun d => match d with | .int i => D.bl (decide ((1 + (k : Int)) % i = 0)) | d => d) = (ns.map fun m : Nat => decide ((1 + (k : Int)) % (m : Int) = 0)).map D.bl := by
            rw [List.map_map, List.map_map]
            rfl
          rw [e6] at r5
          kct_strs
          refine callw_all rfl e5 r5 ?_
          exact ⟨s5, .bl _⟩
      · have e7 : ((List.range ((lcms ns : Int) - 1).toNat).map fun k : Nat => D.bl ((ns.map fun n : Nat => decide ((1 + (k : Int)) % (n : Int) = 0)).all id)) = ((List.range ((lcms ns : Int) - 1).toNat).map fun k : Nat => (ns.map fun n : Nat => decide ((1 + (k : Int)) % (n : Int) = 0)).all id).map D.bl := by
          rw [List.map_map]
          rfl
        rw [e7] at r4
        kct_strs
        refine callw_any rfl e4 r4 ?_
        kct_strs
        have a2 : ((List.range ((lcms ns : Int) - 1).toNat).map fun k : Nat => (ns.map fun n : Nat => decide ((1 + (k : Int)) % (n : Int) = 0)).all id).any id = false := by
          rw [List.any_eq_false]
          intro b hb
          rw [List.mem_map] at hb
          obtain ⟨k, hk, rfl⟩ := hb
          rw [List.mem_range] at hk
          intro hall
          have hd : lcms ns ∣ (1 + k) := by
            refine lcm_fold_min ns 1 (1 + k) (Nat.one_dvd _) fun n hn => ?_
            have h1 := List.all_eq_true.mp hall (decide ((1 + (k : Int)) % (n : Int) = 0)) (List.mem_map_of_mem hn)
            have h2 : (1 + (k : Int)) % (n : Int) = 0 := of_decide_eq_true h1
            have h3 : (n : Int) ∣ ((1 + k : Nat) : Int) := by
              rw [show ((1 + k : Nat) : Int) = 1 + (k : Int) by omega]
              exact Int.dvd_of_emod_eq_zero h2
            exact Int.natCast_dvd_natCast.mp h3
          have := Nat.le_of_dvd (by omega) hd
          omega
        rw [a2, if_neg Bool.false_ne_true]
        kct_strs
        have sA := s3.trans s4
        refine ⟨_, rfl, by omega, fun v5 H5 s5 r5 => ?_⟩
        kct_strs
        l_ints
        kct_strs
        refine ⟨_, _, rfl, rfl, by omega, fun d => if n % d = 0 then some (.int d) else none, ⟨fun k _ e h => ?_, fun k H6 hk s6 => ?_⟩, fun P6 H6 us s6 hP6 e6 r6 => ?_⟩
        · dsimp only at h
          split at h <;> cases h
          rfl
        · intro s0 H00 C cl fp
          kct_strs
          refine opw_mod (by omega) ?_
          kct_strs
          refine ⟨fun e => ?_, fun e => ?_⟩
          · intro s0 H00 C cl fp
            kct_strs
            exact ⟨Same.refl _, _, by dsimp only; rw [if_pos (of_decide_eq_true e)], .int _⟩
          · exact ⟨Same.refl _, by dsimp only; rw [if_neg (of_decide_eq_false e)]⟩
        · rw [show (n + 1 - 1).toNat = n.toNat by omega] at r6
          have pu : (D.lst (divs n)).pure = true := by
            show pureAll _ = true
            rw [pureAll_iff']
            intro d hd
            obtain ⟨i, rfl⟩ := divs_int n d hd
            rfl
          have dp : (D.lst (divs n)).dep ≤ 64 := by
            show depAll _ + 1 ≤ 64
            have := depAll_le (ds := divs n) (n := 0) fun d hd => by
              obtain ⟨i, rfl⟩ := divs_int n d hd
              exact Nat.le_refl _
            omega
          refine opw_ned hr (r5.to s6) (.lstOf e6 r6) pu pu dp dp fun b hb => ?_
          kct_strs
          refine ifnb (fun e => ?_) (fun _ => ?_)
          · rw [hb.mpr rfl] at e
            cases e
          · kct_strs
            exact q _ _ _ (k2.t.same ((sA.trans s5).trans s6))
end
theorem fm_len {α β : Type} {m : Nat} {f : α → List β} : ∀ {l : List α}, (∀ x ∈ l, (f x).length = m) → (l.flatMap f).length = l.length * m
  | [], _ => by simp
  | a :: r, h => by
    rw [List.flatMap_cons, List.length_append, h a (by simp), fm_len fun x hx => h x (by simp [hx]), List.length_cons, Nat.succ_mul]
    omega
theorem ints_of {ds : List D} {p : Int → Prop} (h : ∀ d ∈ ds, ∃ n : Int, d = .int n ∧ p n) : ∃ ns : List Int, ds = ns.map D.int ∧ ∀ n ∈ ns, p n := by
  induction ds with
  | nil => exact ⟨[], rfl, by simp⟩
  | cons d r ih =>
    obtain ⟨n, rfl, hn⟩ := h d (by simp)
    obtain ⟨ns, rfl, hns⟩ := ih fun x hx => h x (by simp [hx])
    refine ⟨n :: ns, rfl, fun m hm => ?_⟩
    rw [List.mem_cons] at hm
    rcases hm with rfl | hm
    · exact hn
    · exact hns m hm
theorem dRow_pure (r : List Int) : (dRow r).pure = true := by
  show pureAll _ = true
  rw [pureAll_iff']
  intro d hd
  rw [List.mem_map] at hd
  obtain ⟨i, _, rfl⟩ := hd
  rfl
theorem dRow_dep (r : List Int) : (dRow r).dep ≤ 1 := by
  show depAll _ + 1 ≤ 1
  have := depAll_le (ds := r.map D.int) (n := 0) fun d hd => by
    rw [List.mem_map] at hd
    obtain ⟨i, _, rfl⟩ := hd
    exact Nat.le_refl _
  omega
theorem rows_pure (L : List (List Int)) : (D.lst (L.map dRow)).pure = true := by
  show pureAll _ = true
  rw [pureAll_iff']
  intro d hd
  rw [List.mem_map] at hd
  obtain ⟨i, _, rfl⟩ := hd
  exact dRow_pure i
theorem rows_dep (L : List (List Int)) : (D.lst (L.map dRow)).dep ≤ 64 := by
  show depAll _ + 1 ≤ 64
  have := depAll_le (ds := L.map dRow) (n := 1) fun d hd => by
    rw [List.mem_map] at hd
    obtain ⟨i, _, rfl⟩ := hd
    exact dRow_dep i
  omega
/-- a row made longer by what first to last hold -/
def more (lo hi : Int) (own : List Int) : List (List Int) := (List.range (hi + 1 - lo).toNat).map fun k : Nat => own ++ [lo + (k : Int)]
section
variable {P : Program} {w : World} {K : PySem.W.Frag} {mg : Str → Option Value} {base : Heap} {f fC : Addr} {cdv : Value} {A : Around} {outer : List Env} {s : Shared} {H0 : Hp} {E0 : XK}
theorem law_4 {D0 : Ends} {v : V} {vs : Addr} {n : Int} {a2 a3 o0 o1 o2 o3 o4 w11 w12 w13 w15 w16 w17 w18 w19 w20 w6 : Option V} {H : Hp} (T : Fx (LX P w K mg base f cdv A outer s H0 E0) fC) (st : St vs H) (hq : ∀ H', D0.rt (.bl true) H') :
    QB (LX P w K mg base f cdv A outer s H0 E0) ((defBody (top 26)).drop 13) D0 [some v, some (.ref vs), a2, a3, o0, o1, w6, o2, o3, none, o4, w11, w12, w13, some (.int n), w15, w16, w17, w18, w19, w20, none, none, none, none, none, none, none] H := by
  obtain ⟨hN, nd, hr, n_isinstance, n_tuple, n_all, n_any, n_range, n_int, n_str, n_len, g_check, c_law_state, c_law_take, c_law_is_whole, c_law_says, c_is_integer, c_is_count, c_is_whole_row, c_is_prime, c_law_result, c_bezout, c_law_same, c_common, c_law_common, c_power, c_sign_of, c_least_multiple, c_divisors, c_rows_to, c_row_text⟩ := T
  have hz : (2000 : Nat) < sizeLine := by decide
  change QB _ (_ :: _ :: _ :: _ :: (defBody (top 26)).drop 17) _ _ _
  kct_strs
  refine ⟨_, _, rfl, by decide, st, fun r1 H1 h1 h2 k1 => ?_⟩
  kct_strs
  refine ⟨_, _, rfl, by decide, k1.t, fun r2 H2 h3 h4 k2 => ?_⟩
  kct_strs
  refine ⟨_, _, rfl, by decide, k2.t, fun r3 H3 h5 h6 k3 => ?_⟩
  kct_strs
  refine ⟨Nat.le_of_ble_eq_true rfl, fun p4 H4 hp4 s4 e4 => ?_⟩
  kct_strs
  refine ⟨Nat.le_of_ble_eq_true rfl, fun p5 H5 hp5 s5 e5 => ?_⟩
  obtain ⟨wd, rfl⟩ : ∃ k : Nat, r1 = k := ⟨r1.toNat, by omega⟩
  generalize hlo : r2 - 2 = lo
  generalize hhi : lo + r3 = hi
  have st5 := k3.t.same (s4.trans s5)
  kct_strs
  refine ⟨by omega, fun k σ H' => ∃ (u : V) (x y z : Option V), Same H5 H' ∧ k ≤ wd ∧ σ = [some v, some (.ref vs), a2, a3, o0, o1, w6, o2, o3, none, o4, w11, w12, w13, some (.int n), w15, x, w17, w18, w19, w20, none, some (.int wd), some (.int lo), some (.int hi), some u, y, z] ∧ Rp K H' u (.lst ((rws lo hi k).map dRow)),
    ⟨_, _, _, _, Same.refl _, by omega, rfl, .lstOf e5 (.cons (.tupOf (s5 _ _ e4) .nil) .nil)⟩, ?_, ?_⟩
  · rintro k σ1 H6 hk ⟨u, x, y, z, s6, hkw, rfl, r6⟩
    show QG _ _ _ _ _ _
    kct_strs
    refine ⟨Nat.le_of_ble_eq_true rfl, fun p7 H7 hp7 s7 e7 => ?_⟩
    kct_strs
    one_place
    kct_strs
    have hL : (rws lo hi k).length ≤ 16 := by
      rw [rws_len]
      have h4 : (hi + 1 - lo).toNat ^ k ≤ 4 ^ k := Nat.pow_le_pow_left (by omega) _
      have h5 : 4 ^ k ≤ 4 ^ 2 := Nat.pow_le_pow_right (by omega) (by omega)
      omega
    refine ⟨_, r6.to s7, fun j σ H' => ∃ (pl : Addr) (ys : List V) (z : Option V), Same H7 H' ∧ σ = [some v, some (.ref vs), a2, a3, o0, o1, w6, o2, o3, none, o4, w11, w12, w13, some (.int n), w15, some (.int k), w17, w18, w19, w20, none, some (.int wd), some (.int lo), some (.int hi), some u, some (.ref pl), z] ∧
      H' pl = some (.lst ys) ∧ RpAll K H' ys ((((rws lo hi k).take j).flatMap (more lo hi)).map dRow), ⟨p7, [], _, Same.refl _, rfl, e7, .nil⟩, fun j σ H' ⟨_, _, _, s, _⟩ => s, ?_, ?_⟩
    · rintro j d w1 σ2 H8 hd ⟨pl, ys, z, s8, rfl, e8, r8⟩ rd
      rw [List.getElem?_map] at hd
      cases hj : (rws lo hi k)[j]? with
      | none => rw [hj] at hd; cases hd
      | some r =>
        rw [hj] at hd
        cases hd
        have hw := rws_wide lo hi k r (List.mem_of_getElem? hj)
        show QG _ _ _ _ _ _
        kct_strs
        l_ints
        kct_strs
        refine ⟨_, _, rfl, rfl, by omega, fun i => dRow (r ++ [i]), ⟨fun i _ => dRow_im _, fun i H9 hi9 s9 => ?_⟩, fun P9 H9 us s9 hP9 e9 r9 => ?_⟩
        · intro s0 H00 C cl fp
          kct_strs
          refine ⟨Nat.le_of_ble_eq_true rfl, fun p10 H10 hp10 s10 e10 => ?_⟩
          kct_strs
          refine opw_catT (rd.to (s9.trans s10)) (.tupOf e10 (.cons (.int _) .nil)) ?_ fun v11 H11 s11 r11 => ?_
          · rw [List.length_map, List.length_singleton]
            omega
          · refine ⟨s10.trans s11, ?_⟩
            show Rp _ _ _ (.tup _)
            rw [List.map_append]
            exact r11
        · kct_strs
          refine opw_catL (s9 _ _ e8) e9 ?_ fun p10 H10 hp10 s10 e10 => ?_
          · rw [r8.len, r9.len, List.length_map, List.length_map, List.length_range, fm_len (m := (hi + 1 - lo).toNat) fun x hx => by simp [more]]
            have h1 : ((rws lo hi k).take j).length ≤ 16 := by
              rw [List.length_take]
              omega
            have h2 : ((rws lo hi k).take j).length * (hi + 1 - lo).toNat ≤ 16 * 4 := Nat.mul_le_mul h1 (by omega)
            omega
          · kct_strs
            refine ⟨p10, _, _, (s8.trans s9).trans s10, rfl, e10, ?_⟩
            rw [List.take_succ, hj, List.flatMap_append, List.map_append]
            refine ((r8.to s9).to s10).app ?_
            have : (([r].flatMap (more lo hi)).map dRow) = (List.range (hi + 1 - lo).toNat).map fun i : Nat => dRow (r ++ [lo + (i : Int)]) := by
              simp [more]
            show RpAll _ _ _ (([r].flatMap (more lo hi)).map dRow)
            rw [this]
            exact r9.to s10
    · rintro σ2 H8 ⟨pl, ys, z, s8, rfl, e8, r8⟩
      rw [List.length_map, List.take_length] at r8
      kct_strs
      exact ⟨_, _, _, _, (s6.trans s7).trans s8, by omega, rfl, .lstOf e8 r8⟩
  · rintro σ1 H6 ⟨u, x, y, z, s6, hkw, rfl, r6⟩
    kct_strs
    change QB _ (_ :: _ :: _ :: []) _ _ _
    kct_strs
    rw [Int.toNat_natCast] at r6
    refine ⟨wd, lo, hi, rfl, ⟨by omega, by omega, by omega, by omega⟩, fun v7 H7 s7 r7 => ?_⟩
    kct_strs
    refine opw_ned hr r7 (r6.to s7) (rows_pure _) (rows_pure _) (rows_dep _) (rows_dep _) fun b hb => ?_
    kct_strs
    refine ifnb (fun e => ?_) (fun _ => ?_)
    · rw [hb.mpr rfl] at e
      cases e
    kct_strs
    refine ⟨0, 1, 0, rfl, ⟨by omega, by omega, by omega, by omega⟩, fun v8 H8 s8 r8 => ?_⟩
    kct_strs
    refine ⟨Nat.le_of_ble_eq_true rfl, fun p9 H9 hp9 s9 e9 => ?_⟩
    kct_strs
    refine ⟨Nat.le_of_ble_eq_true rfl, fun p10 H10 hp10 s10 e10 => ?_⟩
    kct_strs
    have rr : Rp K H10 (.ref p10) (.lst ([[]].map dRow)) := .lstOf e10 (.cons (.tupOf (s10 _ _ e9) .nil) .nil)
    refine opw_ned hr (r8.to (s9.trans s10)) rr (rows_pure _) (rows_pure _) (rows_dep _) (rows_dep _) fun b hb => ?_
    kct_strs
    refine ifnb (fun e => ?_) (fun _ => ?_)
    · rw [hb.mpr rfl] at e
      cases e
    have st10 := st5.same (s6.trans (s7.trans (s8.trans (s9.trans s10))))
    kct_strs
    pv_eval
    kct_strs
    refine ⟨_, _, rfl, by decide, st10, fun r11 H11 h11 h12 k11 => ?_⟩
    kct_strs
    refine ⟨by omega, vs, fun d => ∃ n : Int, d = .int n ∧ n.natAbs ≤ 4, k11.t, fun d ⟨_, e, _⟩ => by rw [e]; rfl, fun k H12 hk k12 => ?_, fun P13 H13 ys ds k13 hP13 e13 r13 hlen hp => ?_⟩
    · intro s0 H00 C cl fp
      kct_strs
      refine ⟨_, _, rfl, by decide, k12.t, fun r14 H14 h14 h15 k14 => ?_⟩
      kct_strs
      exact ⟨k14, .int (r14 - 4), ⟨_, rfl, by omega⟩, .int _⟩
    · obtain ⟨r, rfl, hr4⟩ := ints_of hp
      rw [List.length_map] at hlen
      have rl : Rp K H13 (.ref P13) (.lst (r.map .int)) := .lstOf e13 r13
      kct_strs
      refine callw_tuple_l rl fun v14 H14 s14 r14 => ?_
      kct_strs
      refine ⟨_, r, rfl, r14, ⟨by omega, hr4⟩, fun H15 s15 => ?_⟩
      have rl15 := (rl.to s14).to s15
      kct_strs
      refine callw_len_l rl15 ?_
      kct_strs
      rw [List.length_map]
      refine ifd (fun h0 => ?_) (fun h0 => ?_)
      · kct_strs
        refine ⟨rfl, ?_⟩
        kct_strs
        mod_arm
        kct_strs
        refine ⟨r.map .int, rl15, by rw [List.length_map]; omega, fun d => match d with | .int i => .str (toString i) | d => d, ⟨fun d hd => ?_, fun d u H2 hd s2 r2 => ?_⟩, fun p H16 ys s16 hp e16 r16 => ?_⟩
        · rw [List.mem_map] at hd
          obtain ⟨i, _, rfl⟩ := hd
          rfl
        · rw [List.mem_map] at hd
          obtain ⟨i, hi, rfl⟩ := hd
          cases r2
          intro s0 H0 C cl fp
          kct_strs
          refine callw_strI ?_ ⟨Same.refl _, .str _⟩
          have := hr4 i hi
          have h2 : i.natAbs.log2 ≤ i.natAbs := Nat.log2_le_self _
          omega
        · have e17 : (r.map D.int).map (fun d => match d with | .int i => D.str (toString i) | d => d) = (r.map fun i => (toString i : Str)).map D.str := by
            rw [List.map_map, List.map_map]
            rfl
          rw [e17] at r16
          refine ⟨_, .inl (.lstOf e16 r16), ?_, ?_⟩
          · have h4 := sum_le4 (r.map fun i => (toString i : Str)) (by
              intro y hy
              rw [List.mem_map] at hy
              obtain ⟨i, hi, rfl⟩ := hy
              exact strLen i (hr4 i hi))
            rw [List.length_map] at h4 ⊢
            rw [show ((",": Str)).length = 1 from rfl]
            omega
          · have e18 : rowT r = Txt.join "," (r.map fun i => (toString i : Str)) := by
              unfold rowT
              rw [if_neg]
              rintro rfl
              simp at h0
            kct_strs
            rw [e18, decide_eq_true rfl]
            exact hq _
      · kct_strs
        have e18 : rowT r = "-" := by
          unfold rowT
          rw [if_pos]
          cases r with
          | nil => rfl
          | cons _ _ => simp at h0
        rw [e18, decide_eq_true rfl]
        exact hq _
end
section
variable {P : Program} {w : World} {K : PySem.W.Frag} {mg : Str → Option Value} {base : Heap}
def spLaw (K : PySem.W.Frag) : Sp := fun vs H Q _ => ∃ (a : Addr) (ns : List Int), vs = [.ref a] ∧ SqL K H a (ns.map V.int) ∧ ns.length ≤ 63 ∧ ∀ H', Q (.bl true) H'
theorem rp_ints {H : Hp} {a : Addr} {ns : List Int} (h : SqL K H a (ns.map V.int)) : Rp K H (.ref a) (.lst (ns.map .int)) := .lst h (RpAll.ints ns)
theorem ok_law {f fC : Addr} {fd : FuncData} (F : Fun K "law" "law" (top 26) f fd)
    (z_isinstance : mg "isinstance" = none)
    (z_tuple : mg "tuple" = none)
    (z_all : mg "all" = none)
    (z_any : mg "any" = none)
    (z_range : mg "range" = none)
    (z_int : mg "int" = none)
    (z_str : mg "str" = none)
    (z_len : mg "len" = none)
    (g_check : mg "check_count" = some (.ref fC))
    (c_law_state : Cal P w K mg base 1 "_law_state" (spState K) [])
    (c_law_take : Cal P w K mg base 1 "_law_take" (spTake) [])
    (c_law_is_whole : Cal P w K mg base 1 "_law_is_whole" (spWhole K) [])
    (c_law_says : Cal P w K mg base 1 "_law_says" (spSays) [])
    (c_is_integer : Cal P w K mg base 1 "is_integer" (spWhole K) [])
    (c_is_count : Cal P w K mg base 2 "is_count" (spCount K) [])
    (c_is_whole_row : Cal P w K mg base 2 "is_whole_row" (spRow K) [])
    (c_is_prime : Cal P w K mg base 3 "is_prime" (spPrime K) [])
    (c_law_result : Cal P w K mg base 4 "_law_result" (spResult K fC) [])
    (c_bezout : Cal P w K mg base 1 "bezout" (spBez) [])
    (c_law_same : Cal P w K mg base 2 "_law_same" (spSameI) [])
    (c_common : Cal P w K mg base 1 "common" (spCommon) [])
    (c_law_common : Cal P w K mg base 1 "_law_common" (spCommon) [])
    (c_power : Cal P w K mg base 1 "power" (spPower) [])
    (c_sign_of : Cal P w K mg base 1 "sign_of" (spSign) [])
    (c_least_multiple : Cal P w K mg base 2 "least_multiple" (spLeast K) [])
    (c_divisors : Cal P w K mg base 1 "divisors" (spDivs K) [])
    (c_rows_to : Cal P w K mg base 1 "rows_to" (spRows K) [])
    (c_row_text : Cal P w K mg base 1 "row_text" (spText K) [])
    : FnOk P w K mg base CX0 5 f fd ["script"] (spLaw K) := by
  refine okS F sc26 (fun vs H Q E ⟨_, _, e, _⟩ => by rw [e]; rfl) ?_
  rintro cdv A outer s H _ Q E hr ⟨a, ns, rfl, hS, hl, q⟩ hN nd
  have T : Fx (LX P w K mg base f cdv A outer s H E) fC := ⟨hN, nd, hr, z_isinstance, z_tuple, z_all, z_any, z_range, z_int, z_str, z_len, g_check, c_law_state, c_law_take, c_law_is_whole, c_law_says, c_is_integer, c_is_count, c_is_whole_row, c_is_prime, c_law_result, c_bezout, c_law_same, c_common, c_law_common, c_power, c_sign_of, c_least_multiple, c_divisors, c_rows_to, c_row_text⟩
  exact law_1 T (rp_ints hS) hl fun vs lo hi o0 o1 o2 o3 o4 H1 st _ => law_2 T st fun n w11 w12 w13 w15 w16 w17 w18 w6 H2 st2 hn => law_3 T st2 hn fun w19 w20 H3 st3 => law_4 T st3 fun H4 => q H4
end
/-- an error of the class at S is what except S names -/
theorem exm_own {K : PySem.W.Frag} {S : Addr} (h1 : PySem.W.subIn K (.ref S) (.type "BaseException") = some true) (h2 : PySem.W.isClsIn K S = true) (h3 : PySem.W.typeIn K (.ref S) = some (.type "type")) (h4 : PySem.W.subIn K (.ref S) (.ref S) = some true) :
    PySem.W.exmOne K (.ref S) (.ref S) = some true := by
  unfold PySem.W.exmOne
  have h2' : (PySem.W.clsIn K S).isSome = true := h2
  simp [h1]
  unfold PySem.W.kitCls
  simp [h2', h3, h4]
theorem all_mk {l : PySem.W.OpenLaw} {w : World} {K : PySem.W.Frag} {h : Heap} {mg : Str → Option Value} {fa C R f5 f6 f7 f8 f9 f10 f11 f12 f13 f14 f15 f16 f17 f19 f20 f21 f22 f23 f24 f25 f26 : Addr} (X : K.In h) (G : h.Ns mainGlobals mg) (hfa : mg "law" = some (.ref fa))
    {od5 an5 od6 an6 od7 an7 od8 an8 od9 an9 od10 an10 od11 an11 od12 an12 od13 an13 od14 an14 od15 an15 od16 an16 od17 an17 od19 an19 od20 an20 od21 an21 od22 an22 od23 an23 od24 an24 od25 an25 od26 an26 : Option Addr} {sl5 sl6 sl7 sl8 sl9 sl10 sl11 sl12 sl13 sl14 sl15 sl16 sl17 sl19 sl20 sl21 sl22 sl23 sl24 sl25 sl26 : Array (Option Value)} {oc5 kV5 dc5 pm5 cd5 ct5 oc6 kV6 dc6 pm6 cd6 ct6 oc7 kV7 dc7 pm7 cd7 ct7 oc8 kV8 dc8 pm8 cd8 ct8 oc9 kV9 dc9 pm9 cd9 ct9 oc10 kV10 dc10 pm10 cd10 ct10 oc11 kV11 dc11 pm11 cd11 ct11 oc12 kV12 dc12 pm12 cd12 ct12 oc13 kV13 dc13 pm13 cd13 ct13 oc14 kV14 dc14 pm14 cd14 ct14 oc15 kV15 dc15 pm15 cd15 ct15 oc16 kV16 dc16 pm16 cd16 ct16 oc17 kV17 dc17 pm17 cd17 ct17 oc19 kV19 dc19 pm19 cd19 ct19 oc20 kV20 dc20 pm20 cd20 ct20 oc21 kV21 dc21 pm21 cd21 ct21 oc22 kV22 dc22 pm22 cd22 ct22 oc23 kV23 dc23 pm23 cd23 ct23 oc24 kV24 dc24 pm24 cd24 ct24 oc25 kV25 dc25 pm25 cd25 ct25 oc26 kV26 dc26 pm26 cd26 ct26 : Value}
    (a5 : PySem.W.nsIn K mainGlobals "is_integer" = some (some (.ref f5))) (l5 : K.lookup f5 = some ⟨oc5, od5, .func (PySem.W.fnOf "is_integer" "is_integer" (defArgs (top 5)) (defBody (top 5)) (defScope (top 5)) .none kV5 dc5 pm5 an5 cd5 ct5), sl5⟩) (c5 : PySem.W.codeIn K cd5 "is_integer" = true) (k5 : PySem.W.keepIn K (.ref f5) = true)
    (a6 : PySem.W.nsIn K mainGlobals "is_count" = some (some (.ref f6))) (l6 : K.lookup f6 = some ⟨oc6, od6, .func (PySem.W.fnOf "is_count" "is_count" (defArgs (top 6)) (defBody (top 6)) (defScope (top 6)) .none kV6 dc6 pm6 an6 cd6 ct6), sl6⟩) (c6 : PySem.W.codeIn K cd6 "is_count" = true) (k6 : PySem.W.keepIn K (.ref f6) = true)
    (a7 : PySem.W.nsIn K mainGlobals "check_count" = some (some (.ref f7))) (l7 : K.lookup f7 = some ⟨oc7, od7, .func (PySem.W.fnOf "check_count" "check_count" (defArgs (top 7)) (defBody (top 7)) (defScope (top 7)) .none kV7 dc7 pm7 an7 cd7 ct7), sl7⟩) (c7 : PySem.W.codeIn K cd7 "check_count" = true) (k7 : PySem.W.keepIn K (.ref f7) = true)
    (a8 : PySem.W.nsIn K mainGlobals "is_whole_row" = some (some (.ref f8))) (l8 : K.lookup f8 = some ⟨oc8, od8, .func (PySem.W.fnOf "is_whole_row" "is_whole_row" (defArgs (top 8)) (defBody (top 8)) (defScope (top 8)) .none kV8 dc8 pm8 an8 cd8 ct8), sl8⟩) (c8 : PySem.W.codeIn K cd8 "is_whole_row" = true) (k8 : PySem.W.keepIn K (.ref f8) = true)
    (a9 : PySem.W.nsIn K mainGlobals "common" = some (some (.ref f9))) (l9 : K.lookup f9 = some ⟨oc9, od9, .func (PySem.W.fnOf "common" "common" (defArgs (top 9)) (defBody (top 9)) (defScope (top 9)) .none kV9 dc9 pm9 an9 cd9 ct9), sl9⟩) (c9 : PySem.W.codeIn K cd9 "common" = true) (k9 : PySem.W.keepIn K (.ref f9) = true)
    (a10 : PySem.W.nsIn K mainGlobals "bezout" = some (some (.ref f10))) (l10 : K.lookup f10 = some ⟨oc10, od10, .func (PySem.W.fnOf "bezout" "bezout" (defArgs (top 10)) (defBody (top 10)) (defScope (top 10)) .none kV10 dc10 pm10 an10 cd10 ct10), sl10⟩) (c10 : PySem.W.codeIn K cd10 "bezout" = true) (k10 : PySem.W.keepIn K (.ref f10) = true)
    (a11 : PySem.W.nsIn K mainGlobals "least_multiple" = some (some (.ref f11))) (l11 : K.lookup f11 = some ⟨oc11, od11, .func (PySem.W.fnOf "least_multiple" "least_multiple" (defArgs (top 11)) (defBody (top 11)) (defScope (top 11)) .none kV11 dc11 pm11 an11 cd11 ct11), sl11⟩) (c11 : PySem.W.codeIn K cd11 "least_multiple" = true) (k11 : PySem.W.keepIn K (.ref f11) = true)
    (a12 : PySem.W.nsIn K mainGlobals "divisors" = some (some (.ref f12))) (l12 : K.lookup f12 = some ⟨oc12, od12, .func (PySem.W.fnOf "divisors" "divisors" (defArgs (top 12)) (defBody (top 12)) (defScope (top 12)) .none kV12 dc12 pm12 an12 cd12 ct12), sl12⟩) (c12 : PySem.W.codeIn K cd12 "divisors" = true) (k12 : PySem.W.keepIn K (.ref f12) = true)
    (a13 : PySem.W.nsIn K mainGlobals "is_prime" = some (some (.ref f13))) (l13 : K.lookup f13 = some ⟨oc13, od13, .func (PySem.W.fnOf "is_prime" "is_prime" (defArgs (top 13)) (defBody (top 13)) (defScope (top 13)) .none kV13 dc13 pm13 an13 cd13 ct13), sl13⟩) (c13 : PySem.W.codeIn K cd13 "is_prime" = true) (k13 : PySem.W.keepIn K (.ref f13) = true)
    (a14 : PySem.W.nsIn K mainGlobals "power" = some (some (.ref f14))) (l14 : K.lookup f14 = some ⟨oc14, od14, .func (PySem.W.fnOf "power" "power" (defArgs (top 14)) (defBody (top 14)) (defScope (top 14)) .none kV14 dc14 pm14 an14 cd14 ct14), sl14⟩) (c14 : PySem.W.codeIn K cd14 "power" = true) (k14 : PySem.W.keepIn K (.ref f14) = true)
    (a15 : PySem.W.nsIn K mainGlobals "sign_of" = some (some (.ref f15))) (l15 : K.lookup f15 = some ⟨oc15, od15, .func (PySem.W.fnOf "sign_of" "sign_of" (defArgs (top 15)) (defBody (top 15)) (defScope (top 15)) .none kV15 dc15 pm15 an15 cd15 ct15), sl15⟩) (c15 : PySem.W.codeIn K cd15 "sign_of" = true) (k15 : PySem.W.keepIn K (.ref f15) = true)
    (a16 : PySem.W.nsIn K mainGlobals "rows_to" = some (some (.ref f16))) (l16 : K.lookup f16 = some ⟨oc16, od16, .func (PySem.W.fnOf "rows_to" "rows_to" (defArgs (top 16)) (defBody (top 16)) (defScope (top 16)) .none kV16 dc16 pm16 an16 cd16 ct16), sl16⟩) (c16 : PySem.W.codeIn K cd16 "rows_to" = true) (k16 : PySem.W.keepIn K (.ref f16) = true)
    (a17 : PySem.W.nsIn K mainGlobals "row_text" = some (some (.ref f17))) (l17 : K.lookup f17 = some ⟨oc17, od17, .func (PySem.W.fnOf "row_text" "row_text" (defArgs (top 17)) (defBody (top 17)) (defScope (top 17)) .none kV17 dc17 pm17 an17 cd17 ct17), sl17⟩) (c17 : PySem.W.codeIn K cd17 "row_text" = true) (k17 : PySem.W.keepIn K (.ref f17) = true)
    (a19 : PySem.W.nsIn K mainGlobals "_law_state" = some (some (.ref f19))) (l19 : K.lookup f19 = some ⟨oc19, od19, .func (PySem.W.fnOf "_law_state" "_law_state" (defArgs (top 19)) (defBody (top 19)) (defScope (top 19)) .none kV19 dc19 pm19 an19 cd19 ct19), sl19⟩) (c19 : PySem.W.codeIn K cd19 "_law_state" = true) (k19 : PySem.W.keepIn K (.ref f19) = true)
    (a20 : PySem.W.nsIn K mainGlobals "_law_take" = some (some (.ref f20))) (l20 : K.lookup f20 = some ⟨oc20, od20, .func (PySem.W.fnOf "_law_take" "_law_take" (defArgs (top 20)) (defBody (top 20)) (defScope (top 20)) .none kV20 dc20 pm20 an20 cd20 ct20), sl20⟩) (c20 : PySem.W.codeIn K cd20 "_law_take" = true) (k20 : PySem.W.keepIn K (.ref f20) = true)
    (a21 : PySem.W.nsIn K mainGlobals "_law_says" = some (some (.ref f21))) (l21 : K.lookup f21 = some ⟨oc21, od21, .func (PySem.W.fnOf "_law_says" "_law_says" (defArgs (top 21)) (defBody (top 21)) (defScope (top 21)) .none kV21 dc21 pm21 an21 cd21 ct21), sl21⟩) (c21 : PySem.W.codeIn K cd21 "_law_says" = true) (k21 : PySem.W.keepIn K (.ref f21) = true)
    (a22 : PySem.W.nsIn K mainGlobals "_law_is_whole" = some (some (.ref f22))) (l22 : K.lookup f22 = some ⟨oc22, od22, .func (PySem.W.fnOf "_law_is_whole" "_law_is_whole" (defArgs (top 22)) (defBody (top 22)) (defScope (top 22)) .none kV22 dc22 pm22 an22 cd22 ct22), sl22⟩) (c22 : PySem.W.codeIn K cd22 "_law_is_whole" = true) (k22 : PySem.W.keepIn K (.ref f22) = true)
    (a23 : PySem.W.nsIn K mainGlobals "_law_same" = some (some (.ref f23))) (l23 : K.lookup f23 = some ⟨oc23, od23, .func (PySem.W.fnOf "_law_same" "_law_same" (defArgs (top 23)) (defBody (top 23)) (defScope (top 23)) .none kV23 dc23 pm23 an23 cd23 ct23), sl23⟩) (c23 : PySem.W.codeIn K cd23 "_law_same" = true) (k23 : PySem.W.keepIn K (.ref f23) = true)
    (a24 : PySem.W.nsIn K mainGlobals "_law_common" = some (some (.ref f24))) (l24 : K.lookup f24 = some ⟨oc24, od24, .func (PySem.W.fnOf "_law_common" "_law_common" (defArgs (top 24)) (defBody (top 24)) (defScope (top 24)) .none kV24 dc24 pm24 an24 cd24 ct24), sl24⟩) (c24 : PySem.W.codeIn K cd24 "_law_common" = true) (k24 : PySem.W.keepIn K (.ref f24) = true)
    (a25 : PySem.W.nsIn K mainGlobals "_law_result" = some (some (.ref f25))) (l25 : K.lookup f25 = some ⟨oc25, od25, .func (PySem.W.fnOf "_law_result" "_law_result" (defArgs (top 25)) (defBody (top 25)) (defScope (top 25)) .none kV25 dc25 pm25 an25 cd25 ct25), sl25⟩) (c25 : PySem.W.codeIn K cd25 "_law_result" = true) (k25 : PySem.W.keepIn K (.ref f25) = true)
    (a26 : PySem.W.nsIn K mainGlobals "law" = some (some (.ref f26))) (l26 : K.lookup f26 = some ⟨oc26, od26, .func (PySem.W.fnOf "law" "law" (defArgs (top 26)) (defBody (top 26)) (defScope (top 26)) .none kV26 dc26 pm26 an26 cd26 ct26), sl26⟩) (c26 : PySem.W.codeIn K cd26 "law" = true) (k26 : PySem.W.keepIn K (.ref f26) = true)
    (aC : PySem.W.nsIn K mainGlobals "Malformed" = some (some (.ref C))) (aR : PySem.W.nsIn K mainGlobals "Refused" = some (some (.ref R)))
    (xF : PySem.W.excIn K C [.type "ValueError", .type "Exception", .type "BaseException", .type "object"] "ValueError.__new__" = true) (kF : PySem.W.keepIn K (.ref C) = true) (bF : PySem.W.subIn K (.ref C) (.type "BaseException") = some true) (tF : PySem.W.typeIn K (.ref C) = some (.type "type")) (iF : PySem.W.isClsIn K C = true) (sF : PySem.W.subIn K (.ref C) (.ref C) = some true)
    (z_isinstance : PySem.W.nsIn K mainGlobals "isinstance" = some none)
    (z_int : PySem.W.nsIn K mainGlobals "int" = some none)
    (z_bool : PySem.W.nsIn K mainGlobals "bool" = some none)
    (z_tuple : PySem.W.nsIn K mainGlobals "tuple" = some none)
    (z_all : PySem.W.nsIn K mainGlobals "all" = some none)
    (z_any : PySem.W.nsIn K mainGlobals "any" = some none)
    (z_abs : PySem.W.nsIn K mainGlobals "abs" = some none)
    (z_range : PySem.W.nsIn K mainGlobals "range" = some none)
    (z_len : PySem.W.nsIn K mainGlobals "len" = some none)
    (z_str : PySem.W.nsIn K mainGlobals "str" = some none)
    : ∃ fd : FuncData, (∀ (s : Shared) (v : Value), BindsTo s fd ⟨[v], []⟩ [("script", v)]) ∧ ∀ base : Heap, K.In base → base.Ns mainGlobals mg → FnOk l.prog w K mg base CX0 5 fa fd ["script"] (spLaw K) := by
  have e := hfa.symm.trans (PySem.W.mg_of X G a26)
  cases e
  have F5 := fun_mk (st := top 5) l5 c5 k5
  have b5 := F5.binds (ps := ["value"]) fun _ _ _ _ _ _ us hl => match us, hl with | [_], _ => rfl
  have g5 := PySem.W.mg_of X G a5
  have F6 := fun_mk (st := top 6) l6 c6 k6
  have b6 := F6.binds (ps := ["value", "low", "high"]) fun _ _ _ _ _ _ us hl => match us, hl with | [_, _, _], _ => rfl
  have g6 := PySem.W.mg_of X G a6
  have F7 := fun_mk (st := top 7) l7 c7 k7
  have b7 := F7.binds (ps := ["value", "low", "high"]) fun _ _ _ _ _ _ us hl => match us, hl with | [_, _, _], _ => rfl
  have g7 := PySem.W.mg_of X G a7
  have F8 := fun_mk (st := top 8) l8 c8 k8
  have b8 := F8.binds (ps := ["value"]) fun _ _ _ _ _ _ us hl => match us, hl with | [_], _ => rfl
  have g8 := PySem.W.mg_of X G a8
  have F9 := fun_mk (st := top 9) l9 c9 k9
  have b9 := F9.binds (ps := ["a", "b"]) fun _ _ _ _ _ _ us hl => match us, hl with | [_, _], _ => rfl
  have g9 := PySem.W.mg_of X G a9
  have F10 := fun_mk (st := top 10) l10 c10 k10
  have b10 := F10.binds (ps := ["a", "b"]) fun _ _ _ _ _ _ us hl => match us, hl with | [_, _], _ => rfl
  have g10 := PySem.W.mg_of X G a10
  have F11 := fun_mk (st := top 11) l11 c11 k11
  have b11 := F11.binds (ps := ["row"]) fun _ _ _ _ _ _ us hl => match us, hl with | [_], _ => rfl
  have g11 := PySem.W.mg_of X G a11
  have F12 := fun_mk (st := top 12) l12 c12 k12
  have b12 := F12.binds (ps := ["n"]) fun _ _ _ _ _ _ us hl => match us, hl with | [_], _ => rfl
  have g12 := PySem.W.mg_of X G a12
  have F13 := fun_mk (st := top 13) l13 c13 k13
  have b13 := F13.binds (ps := ["value"]) fun _ _ _ _ _ _ us hl => match us, hl with | [_], _ => rfl
  have g13 := PySem.W.mg_of X G a13
  have F14 := fun_mk (st := top 14) l14 c14 k14
  have b14 := F14.binds (ps := ["a", "k"]) fun _ _ _ _ _ _ us hl => match us, hl with | [_, _], _ => rfl
  have g14 := PySem.W.mg_of X G a14
  have F15 := fun_mk (st := top 15) l15 c15 k15
  have b15 := F15.binds (ps := ["x"]) fun _ _ _ _ _ _ us hl => match us, hl with | [_], _ => rfl
  have g15 := PySem.W.mg_of X G a15
  have F16 := fun_mk (st := top 16) l16 c16 k16
  have b16 := F16.binds (ps := ["wide", "low", "high"]) fun _ _ _ _ _ _ us hl => match us, hl with | [_, _, _], _ => rfl
  have g16 := PySem.W.mg_of X G a16
  have F17 := fun_mk (st := top 17) l17 c17 k17
  have b17 := F17.binds (ps := ["row"]) fun _ _ _ _ _ _ us hl => match us, hl with | [_], _ => rfl
  have g17 := PySem.W.mg_of X G a17
  have F19 := fun_mk (st := top 19) l19 c19 k19
  have b19 := F19.binds (ps := ["script"]) fun _ _ _ _ _ _ us hl => match us, hl with | [_], _ => rfl
  have g19 := PySem.W.mg_of X G a19
  have F20 := fun_mk (st := top 20) l20 c20 k20
  have b20 := F20.binds (ps := ["state", "m"]) fun _ _ _ _ _ _ us hl => match us, hl with | [_, _], _ => rfl
  have g20 := PySem.W.mg_of X G a20
  have F21 := fun_mk (st := top 21) l21 c21 k21
  have b21 := F21.binds (ps := ["value", "due"]) fun _ _ _ _ _ _ us hl => match us, hl with | [_, _], _ => rfl
  have g21 := PySem.W.mg_of X G a21
  have F22 := fun_mk (st := top 22) l22 c22 k22
  have b22 := F22.binds (ps := ["value"]) fun _ _ _ _ _ _ us hl => match us, hl with | [_], _ => rfl
  have g22 := PySem.W.mg_of X G a22
  have F23 := fun_mk (st := top 23) l23 c23 k23
  have b23 := F23.binds (ps := ["one", "two"]) fun _ _ _ _ _ _ us hl => match us, hl with | [_, _], _ => rfl
  have g23 := PySem.W.mg_of X G a23
  have F24 := fun_mk (st := top 24) l24 c24 k24
  have b24 := F24.binds (ps := ["a", "b"]) fun _ _ _ _ _ _ us hl => match us, hl with | [_, _], _ => rfl
  have g24 := PySem.W.mg_of X G a24
  have F25 := fun_mk (st := top 25) l25 c25 k25
  have b25 := F25.binds (ps := ["act", "given"]) fun _ _ _ _ _ _ us hl => match us, hl with | [_, _], _ => rfl
  have g25 := PySem.W.mg_of X G a25
  have F26 := fun_mk (st := top 26) l26 c26 k26
  have m_isinstance := PySem.W.mg_none_of X G z_isinstance
  have m_int := PySem.W.mg_none_of X G z_int
  have m_bool := PySem.W.mg_none_of X G z_bool
  have m_tuple := PySem.W.mg_none_of X G z_tuple
  have m_all := PySem.W.mg_none_of X G z_all
  have m_any := PySem.W.mg_none_of X G z_any
  have m_abs := PySem.W.mg_none_of X G z_abs
  have m_range := PySem.W.mg_none_of X G z_range
  have m_len := PySem.W.mg_none_of X G z_len
  have m_str := PySem.W.mg_none_of X G z_str
  refine ⟨PySem.W.fnOf "law" "law" (defArgs (top 26)) (defBody (top 26)) (defScope (top 26)) .none kV26 dc26 pm26 an26 cd26 ct26, fun s v => .of_eq rfl, fun base _ _ => ?_⟩
  have O5 := ok_is_integer (P := l.prog) (w := w) (base := base) F5 m_isinstance m_int m_bool
  have C5 : Cal l.prog w K mg base 1 "is_integer" (spWhole K) [] := ⟨f5, _, _, _, O5, g5, k5, b5, .nil⟩
  have O6 := ok_is_count F6 C5
  have C6 : Cal l.prog w K mg base 2 "is_count" (spCount K) [] := ⟨f6, _, _, _, O6, g6, k6, b6, .nil⟩
  have O7 := ok_check_count F7 C6 xF (PySem.W.mg_of X G aC) kF bF tF
  have O8 := ok_is_whole_row F8 C5 m_isinstance m_tuple m_all
  have C8 : Cal l.prog w K mg base 2 "is_whole_row" (spRow K) [] := ⟨f8, _, _, _, O8, g8, k8, b8, .nil⟩
  have O9 := ok_common (P := l.prog) (w := w) (base := base) F9 m_abs
  have C9 : Cal l.prog w K mg base 1 "common" (spCommon) [] := ⟨f9, _, _, _, O9, g9, k9, b9, .nil⟩
  have O10 := ok_bezout (P := l.prog) (w := w) (base := base) (mg := mg) F10
  have C10 : Cal l.prog w K mg base 1 "bezout" (spBez) [] := ⟨f10, _, _, _, O10, g10, k10, b10, .nil⟩
  have O11 := ok_least_multiple F11 C9
  have C11 : Cal l.prog w K mg base 2 "least_multiple" (spLeast K) [] := ⟨f11, _, _, _, O11, g11, k11, b11, .nil⟩
  have O12 := ok_divisors (P := l.prog) (w := w) (base := base) F12 m_range
  have C12 : Cal l.prog w K mg base 1 "divisors" (spDivs K) [] := ⟨f12, _, _, _, O12, g12, k12, b12, .nil⟩
  have O13 := ok_is_prime F13 C6 m_range m_all
  have C13 : Cal l.prog w K mg base 3 "is_prime" (spPrime K) [] := ⟨f13, _, _, _, O13, g13, k13, b13, .nil⟩
  have O14 := ok_power (P := l.prog) (w := w) (base := base) F14 m_range
  have C14 : Cal l.prog w K mg base 1 "power" (spPower) [] := ⟨f14, _, _, _, O14, g14, k14, b14, .nil⟩
  have O15 := ok_sign_of (P := l.prog) (w := w) (base := base) F15 m_int
  have C15 : Cal l.prog w K mg base 1 "sign_of" (spSign) [] := ⟨f15, _, _, _, O15, g15, k15, b15, .nil⟩
  have O16 := ok_rows_to (P := l.prog) (w := w) (base := base) F16 m_range
  have C16 : Cal l.prog w K mg base 1 "rows_to" (spRows K) [] := ⟨f16, _, _, _, O16, g16, k16, b16, .nil⟩
  have O17 := ok_row_text (P := l.prog) (w := w) (base := base) F17 m_len m_str
  have C17 : Cal l.prog w K mg base 1 "row_text" (spText K) [] := ⟨f17, _, _, _, O17, g17, k17, b17, .nil⟩
  have O19 := ok_law_state (P := l.prog) (w := w) (base := base) F19 m_abs m_int
  have C19 : Cal l.prog w K mg base 1 "_law_state" (spState K) [] := ⟨f19, _, _, _, O19, g19, k19, b19, .nil⟩
  have O20 := ok_law_take (P := l.prog) (w := w) (base := base) F20 m_int
  have C20 : Cal l.prog w K mg base 1 "_law_take" (spTake) [] := ⟨f20, _, _, _, O20, g20, k20, b20, .nil⟩
  have O21 := ok_law_says (P := l.prog) (w := w) (base := base) F21 m_isinstance m_bool
  have C21 : Cal l.prog w K mg base 1 "_law_says" (spSays) [] := ⟨f21, _, _, _, O21, g21, k21, b21, .nil⟩
  have O22 := ok_law_is_whole (P := l.prog) (w := w) (base := base) F22 m_isinstance m_int m_bool
  have C22 : Cal l.prog w K mg base 1 "_law_is_whole" (spWhole K) [] := ⟨f22, _, _, _, O22, g22, k22, b22, .nil⟩
  have O23 := ok_law_same F23 m_isinstance m_tuple m_str C22
  have C23 : Cal l.prog w K mg base 2 "_law_same" (spSameI) [] := ⟨f23, _, _, _, O23, g23, k23, b23, .nil⟩
  have O24 := ok_law_common (P := l.prog) (w := w) (base := base) F24 m_abs m_int
  have C24 : Cal l.prog w K mg base 1 "_law_common" (spCommon) [] := ⟨f24, _, _, _, O24, g24, k24, b24, .nil⟩
  have O25 := ok_law_result F25 O7 k7 b7 (exm_own bF iF tF sF) (PySem.W.mg_of X G aC) R (PySem.W.mg_of X G aR) m_len
  have C25 : Cal l.prog w K mg base 4 "_law_result" (spResult K f7) [] := ⟨f25, _, _, _, O25, g25, k25, b25, .nil⟩
  exact ok_law F26 m_isinstance m_tuple m_all m_any m_range m_int m_str m_len g7 C19 C20 C22 C21 C5 C6 C8 C13 C25 C10 C23 C9 C24 C14 C15 C11 C12 C16 C17

end K00
open PySem PySem.W PyProof.Rows
set_option maxHeartbeats 0 in
theorem PySem.Challenge.cw_motionroads_k00_whole_integers_and_rows_holds : PySem.Challenge.rw_motionroads_k00_whole_integers_and_rows.Holds := by
  w_on; o_law; k_head; (case hw => w_witness2)
  k_fill
  refine L2.walk_of (l := PySem.Challenge.rw_motionroads_k00_whole_integers_and_rows) (n := 63) (k := 5) (x := "script") (CX := fun _ => L2.CX0) (sp := fun w => K00.spLaw _) rfl (by decide) rfl ⟨rfl, by decide, by decide⟩ (fun w h Y => PySem.W.kIn_of Y) ?F (fun _ _ a ns hl _ hS => ⟨a, ns, rfl, hS, hl, fun _ => rfl⟩) (fun _ _ _ _ _ h => h)
  case F =>
    intro w mg fa h KX G hmg
    refine' K00.all_mk KX G hmg ?a5 ?l5 ?c5 ?k5 ?a6 ?l6 ?c6 ?k6 ?a7 ?l7 ?c7 ?k7 ?a8 ?l8 ?c8 ?k8 ?a9 ?l9 ?c9 ?k9 ?a10 ?l10 ?c10 ?k10 ?a11 ?l11 ?c11 ?k11 ?a12 ?l12 ?c12 ?k12 ?a13 ?l13 ?c13 ?k13 ?a14 ?l14 ?c14 ?k14 ?a15 ?l15 ?c15 ?k15 ?a16 ?l16 ?c16 ?k16 ?a17 ?l17 ?c17 ?k17 ?a19 ?l19 ?c19 ?k19 ?a20 ?l20 ?c20 ?k20 ?a21 ?l21 ?c21 ?k21 ?a22 ?l22 ?c22 ?k22 ?a23 ?l23 ?c23 ?k23 ?a24 ?l24 ?c24 ?k24 ?a25 ?l25 ?c25 ?k25 ?a26 ?l26 ?c26 ?k26 ?aC ?aR ?xF ?kF ?bF ?tF ?iF ?sF ?z_isinstance ?z_int ?z_bool ?z_tuple ?z_all ?z_any ?z_abs ?z_range ?z_len ?z_str
    (case a5 => k_is)
    (case l5 => k_is)
    (case c5 => k_is)
    (case k5 => k_is)
    (case a6 => k_is)
    (case l6 => k_is)
    (case c6 => k_is)
    (case k6 => k_is)
    (case a7 => k_is)
    (case l7 => k_is)
    (case c7 => k_is)
    (case k7 => k_is)
    (case a8 => k_is)
    (case l8 => k_is)
    (case c8 => k_is)
    (case k8 => k_is)
    (case a9 => k_is)
    (case l9 => k_is)
    (case c9 => k_is)
    (case k9 => k_is)
    (case a10 => k_is)
    (case l10 => k_is)
    (case c10 => k_is)
    (case k10 => k_is)
    (case a11 => k_is)
    (case l11 => k_is)
    (case c11 => k_is)
    (case k11 => k_is)
    (case a12 => k_is)
    (case l12 => k_is)
    (case c12 => k_is)
    (case k12 => k_is)
    (case a13 => k_is)
    (case l13 => k_is)
    (case c13 => k_is)
    (case k13 => k_is)
    (case a14 => k_is)
    (case l14 => k_is)
    (case c14 => k_is)
    (case k14 => k_is)
    (case a15 => k_is)
    (case l15 => k_is)
    (case c15 => k_is)
    (case k15 => k_is)
    (case a16 => k_is)
    (case l16 => k_is)
    (case c16 => k_is)
    (case k16 => k_is)
    (case a17 => k_is)
    (case l17 => k_is)
    (case c17 => k_is)
    (case k17 => k_is)
    (case a19 => k_is)
    (case l19 => k_is)
    (case c19 => k_is)
    (case k19 => k_is)
    (case a20 => k_is)
    (case l20 => k_is)
    (case c20 => k_is)
    (case k20 => k_is)
    (case a21 => k_is)
    (case l21 => k_is)
    (case c21 => k_is)
    (case k21 => k_is)
    (case a22 => k_is)
    (case l22 => k_is)
    (case c22 => k_is)
    (case k22 => k_is)
    (case a23 => k_is)
    (case l23 => k_is)
    (case c23 => k_is)
    (case k23 => k_is)
    (case a24 => k_is)
    (case l24 => k_is)
    (case c24 => k_is)
    (case k24 => k_is)
    (case a25 => k_is)
    (case l25 => k_is)
    (case c25 => k_is)
    (case k25 => k_is)
    (case a26 => k_is)
    (case l26 => k_is)
    (case c26 => k_is)
    (case k26 => k_is)
    (case aC => k_is)
    (case aR => k_is)
    (case xF => k_exc)
    (case kF => k_is)
    (case bF => k_is)
    (case tF => k_is)
    (case iF => k_is)
    (case sF => first | rfl | k_is)
    (case z_isinstance => k_is)
    (case z_int => k_is)
    (case z_bool => k_is)
    (case z_tuple => k_is)
    (case z_all => k_is)
    (case z_any => k_is)
    (case z_abs => k_is)
    (case z_range => k_is)
    (case z_len => k_is)
    (case z_str => k_is)
