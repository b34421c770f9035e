import PyProof.Rows.All
import Wide.All
import OpenK.AllK
import Wide.FinOn
import HandS.Base
import HandS.Call
import HandS.List
import HandS.Comp
import HandS.Ends
import HandS.Dict
import HandS.Iter
import HandS.Words
import HandS.Evl
import HandS.More
import HandS.Text
import HandS.IsInst
import HandS.Walk
import PyProof.Rows.StrMeet
import HandS.WordsDict
import PySem.Challenge.RW_loopmover_k06_long_runs
set_option Elab.async false
set_option linter.all false
set_option maxRecDepth 100000
set_option maxHeartbeats 4000000
namespace LM
open PySem PySem.Spec PyProof.Rows L2

/-! ### statements and expressions by what they do, without a derivation -/
def WE (X : Cx) (e : Expr) (σ : L2.St) (H : Hp) (Q : VK) : Prop :=
  ∀ (pins : List (Addr × Obj)) (s : Shared), Inv X pins σ H s → wpAny (model X.prog X.w) X.A (eval e X.env) (EP X pins σ Q) X.xe s
def WT (X : Cx) (e : Expr) (σ : L2.St) (H : Hp) (Q : Bool → Hp → Prop) : Prop :=
  ∀ (pins : List (Addr × Obj)) (s : Shared), Inv X pins σ H s → wpAny (model X.prog X.w) X.A (isTrue e X.env (eval e X.env)) (TP X pins σ Q) X.xe s
def WW (X : Cx) (e : Expr) (σ : L2.St) (H : Hp) (Q : Bool → Hp → Prop) : Prop :=
  ∀ (whole : Sem Value) (pins : List (Addr × Obj)) (s : Shared), Inv X pins σ H s → wpAny (model X.prog X.w) X.A (isTrue e X.env whole) (TP X pins σ Q) X.xe s
def WA (X : Cx) (es : List Expr) (σ : L2.St) (H : Hp) (Q : List V → Hp → Prop) : Prop :=
  ∀ (pos : Pos) (pins : List (Addr × Obj)) (s : Shared), Inv X pins σ H s → wpAny (model X.prog X.w) X.A (spliced (backTo pos (starEach es X.env))) (AP X pins σ Q) X.xe s
def WS (X : Cx) (st : Stmt) (D : Ends) (σ : L2.St) (H : Hp) : Prop :=
  ∀ (pins : List (Addr × Obj)) (s : Shared), Inv X pins σ H s → wpAny (model X.prog X.w) X.A (exec st X.env) (SP X pins D) X.xe s
def WSs (X : Cx) (st : List Stmt) (D : Ends) (σ : L2.St) (H : Hp) : Prop :=
  ∀ (pins : List (Addr × Obj)) (s : Shared), Inv X pins σ H s → wpAny (model X.prog X.w) X.A (execs st X.env) (SP X pins D) X.xe s

section
variable {X : Cx} {e a b c : Expr} {es : List Expr} {σ : L2.St} {H : Hp} {Q : VK} {pos p : Pos} {x : Str}
theorem pe (X : Cx) (e : Expr) : PE X e (WE X e) := ⟨fun pins s σ H Q I h => h pins s I⟩
theorem pt (X : Cx) (e : Expr) : PT X e (WT X e) := ⟨fun pins s σ H Q I h => h pins s I⟩
theorem pw (X : Cx) (e : Expr) : PW X e (WW X e) := ⟨fun wh pins s σ H Q I h => h wh pins s I⟩
theorem pa (X : Cx) (es : List Expr) : PA X es (WA X es) := ⟨fun pos pins s σ H Q I h => h pos pins s I⟩
theorem ps (X : Cx) (st : Stmt) : PS X st (WS X st) := ⟨fun pins s σ H D I h => h pins s I⟩
theorem pss (X : Cx) (st : List Stmt) : PSs X st (WSs X st) := ⟨fun pins s σ H D I h => h pins s I⟩
theorem WE.of {t : TE} (h : PE X e t) (q : t σ H Q) : WE X e σ H Q := fun pins s I => h.run pins s σ H Q I q
theorem WT.of {t : TT} {Q : Bool → Hp → Prop} (h : PT X e t) (q : t σ H Q) : WT X e σ H Q := fun pins s I => h.run pins s σ H Q I q
theorem WA.of {t : TA} {Q : List V → Hp → Prop} (h : PA X es t) (q : t σ H Q) : WA X es σ H Q := fun pos pins s I => h.run pos pins s σ H Q I q
theorem WS.of {t : TS} {st : Stmt} {D : Ends} (h : PS X st t) (q : t D σ H) : WS X st D σ H := fun pins s I => h.run pins s σ H D I q
theorem WSs.of {t : TS} {st : List Stmt} {D : Ends} (h : PSs X st t) (q : t D σ H) : WSs X st D σ H := fun pins s I => h.run pins s σ H D I q
theorem WE.mono {Q' : VK} (h : WE X e σ H Q) (k : ∀ v H', Q v H' → Q' v H') : WE X e σ H Q' := fun pins s I =>
  thn (h pins s I) fun _ _ ⟨v, H', J, r, q⟩ => ⟨v, H', J, r, k v H' q⟩
theorem WT.mono {Q Q' : Bool → Hp → Prop} (h : WT X e σ H Q) (k : ∀ v H', Q v H' → Q' v H') : WT X e σ H Q' := fun pins s I =>
  thn (h pins s I) fun _ _ ⟨H', J, q⟩ => ⟨H', J, k _ H' q⟩
/-- weaker ends -/
theorem WSs.mono {st : List Stmt} {D D' : Ends} (h : WSs X st D σ H) (h1 : ∀ σ H, D.nx σ H → D'.nx σ H) (h2 : ∀ v H, D.rt v H → D'.rt v H) (h3 : ∀ σ H, D.bk σ H → D'.bk σ H) (h4 : ∀ σ H, D.ct σ H → D'.ct σ H) : WSs X st D' σ H := fun pins s I =>
  thn (h pins s I) fun f s' q => by
    cases f with
    | next => obtain ⟨σ', H', J, q⟩ := q; exact ⟨σ', H', J, h1 _ _ q⟩
    | brk => obtain ⟨σ', H', J, q⟩ := q; exact ⟨σ', H', J, h3 _ _ q⟩
    | cont => obtain ⟨σ', H', J, q⟩ := q; exact ⟨σ', H', J, h4 _ _ q⟩
    | ret u => obtain ⟨v, σ', H', J, r, q⟩ := q; exact ⟨v, σ', H', J, r, h2 _ _ q⟩

/-! ### names by their places -/
inductive At : List Str → L2.St → Str → V → Prop where
  | here {x : Str} {l : List Str} {v : V} {σ : L2.St} : At (x :: l) (some v :: σ) x v
  | there {x y : Str} {l : List Str} {v : V} {o : Option V} {σ : L2.St} (h : At l σ x v) : At (y :: l) (o :: σ) x v
theorem At.ix {l : List Str} {σ : L2.St} {x : Str} {v : V} (h : At l σ x v) : ∃ i : Nat, l[i]? = some x ∧ σ[i]? = some (some v) := by
  induction h with
  | here => exact ⟨0, rfl, rfl⟩
  | there _ ih => obtain ⟨i, h1, h2⟩ := ih; exact ⟨i + 1, by simpa using h1, by simpa using h2⟩
/-- behind a store -/
inductive Put : List Str → L2.St → Str → V → L2.St → Prop where
  | here {x : Str} {l : List Str} {v : V} {o : Option V} {σ : L2.St} : Put (x :: l) (o :: σ) x v (some v :: σ)
  | there {x y : Str} {l : List Str} {v : V} {o : Option V} {σ σ' : L2.St} (h : Put l σ x v σ') : Put (y :: l) (o :: σ) x v (o :: σ')
theorem Put.ix {l : List Str} {σ σ' : L2.St} {x : Str} {v : V} (h : Put l σ x v σ') : ∃ i : Nat, l[i]? = some x ∧ σ' = σ.set i (some v) := by
  induction h with
  | here => exact ⟨0, rfl, rfl⟩
  | there _ ih => obtain ⟨i, h1, h2⟩ := ih; exact ⟨i + 1, by simpa using h1, by simp [h2]⟩
end

/-! ### the context of a body, told apart -/
/-- N: the names by slots; L: those that are stored; V: those that are read; G: the global names that are read -/
structure Fr (X : Cx) (N L V G : List Str) : Prop where
  n : X.N = N
  nd : N.Nodup
  vis : ∀ x ∈ V, Vis X.env.scope x
  loc : ∀ x ∈ L, Loc X.env.scope x ∧ (X.fn x = true ∨ X.env.scope.names.lookup x = some .local)
  gl : ∀ x ∈ G, Gl X x
  nodbg : ∀ x ∈ N ++ G, (x == ("__debug__" : Str)) = false ∧ (x == ("__classdict__" : Str)) = false ∧ x ≠ "__name__"
  calm : X.calm = true
  xe : X.xe = fun _ _ => False
/-- a def's own scope, looked at once: N the slots (the names of its comprehensions too), L its own names, G the global ones -/
def scB (sc : Scope) (N L G : List Str) : Bool := L.all (fun x => match sc.names.lookup x with | some .local => true | some .cell => true | _ => false) && G.all (fun x => match sc.names.lookup x with | some .globalImplicit => true | _ => false)
  && (N ++ G).all fun x => !(x == ("__debug__" : Str)) && !(x == ("__classdict__" : Str)) && !decide (x = "__name__")
theorem scB_loc {sc : Scope} {N L G : List Str} (h : scB sc N L G = true) : ∀ x ∈ L, sc.names.lookup x = some .local ∨ sc.names.lookup x = some .cell := fun x hx => by
  unfold scB at h
  rw [Bool.and_eq_true, Bool.and_eq_true, List.all_eq_true, List.all_eq_true] at h
  have q := h.1.1 x hx
  split at q <;> first | exact .inl (by assumption) | exact .inr (by assumption) | cases q
theorem scB_gl {sc : Scope} {N L G : List Str} (h : scB sc N L G = true) : ∀ x ∈ G, sc.names.lookup x = some .globalImplicit := fun x hx => by
  unfold scB at h
  rw [Bool.and_eq_true, Bool.and_eq_true, List.all_eq_true, List.all_eq_true] at h
  have q := h.1.2 x hx
  split at q <;> first | assumption | cases q
theorem scB_nodbg {sc : Scope} {N L G : List Str} (h : scB sc N L G = true) : ∀ x ∈ N ++ G, (x == ("__debug__" : Str)) = false ∧ (x == ("__classdict__" : Str)) = false ∧ x ≠ "__name__" := fun x hx => by
  unfold scB at h
  rw [Bool.and_eq_true, List.all_eq_true] at h
  have q := h.2 x hx
  rw [Bool.and_eq_true, Bool.and_eq_true, Bool.not_eq_true', Bool.not_eq_true', Bool.not_eq_true', decide_eq_false_iff_not] at q
  exact ⟨q.1.1, q.1.2, q.2⟩

/-! ### defs: a def of the text, what it promises -/
/-- the def of this name stands in the module as the text says -/
def Def (K : PySem.W.Frag) (mg : Str → Option Value) (x : Str) (st : Stmt) (ps : List Str) : Prop :=
  ∃ f fd, Fun K x x st f fd ∧ mg x = some (.ref f) ∧ Binds K fd ps []
/-- it keeps a promise -/
def CallOk (P : Program) (w : World) (K : PySem.W.Frag) (mg : Str → Option Value) (base : Heap) (k : Nat) (x : Str) (ps : List Str) (sp : Sp) : Prop :=
  ∃ f fd, FnOk P w K mg base CX0 k f fd ps sp ∧ mg x = some (.ref f) ∧ PySem.W.keepIn K (.ref f) = true ∧ Binds K fd ps []
theorem CallOk.mono {P : Program} {w : World} {K : PySem.W.Frag} {mg : Str → Option Value} {base : Heap} {j k : Nat} {x : Str} {ps : List Str} {sp : Sp} (c : CallOk P w K mg base j x ps sp) (h : j ≤ k) : CallOk P w K mg base k x ps sp :=
  let ⟨f, fd, F, m, kp, b⟩ := c
  ⟨f, fd, F.mono h, m, kp, b⟩
/-- THE RULE: a def keeps its promise if its body does, run at the parameters' values -/
theorem Fun.okW {P : Program} {w : World} {K : PySem.W.Frag} {mg : Str → Option Value} {base : Heap} {x : Str} {st : Stmt} {f : Addr} {fd : FuncData} {N L ps G : List Str} {k : Nat} {sp : Sp} (F : Fun K x x st f fd) (S : FnScope N ps (defScope st)) (B : scB (defScope st) N L G = true)
    (len : ∀ vs H Q E, sp vs H Q E → vs.length = ps.length)
    (hbody : ∀ X : Cx, X.prog = P → X.w = w → X.K = K → X.mg = mg → X.base = base → Fr X N L L G → X.env.scope = defScope st → Room k X.A → ∀ (vs : List V) (H : Hp) (Q : VK) (E : XK), sp vs H Q E → WSs X (defBody st) { nx := fun _ H' => Q .non H', rt := Q } (start N vs) H) :
    FnOk P w K mg base CX0 (k + 1) f fd ps sp := by
  refine F.ok S len fun cdv A outer s H vs Q E hr h => ?_
  refine ⟨_, pss _ _, hbody _ rfl rfl rfl rfl rfl ⟨rfl, S.nd, fun y hy => ?_, fun y hy => ?_, fun y hy => ?_, scB_nodbg B, rfl, rfl⟩ rfl hr vs H Q E h⟩
  · rcases scB_loc B y hy with q | q
    · exact .inl q
    · exact .inr (.inl q)
  · exact ⟨scB_loc B y hy, .inl rfl⟩
  · exact scB_gl B y hy
theorem Def.ok {P : Program} {w : World} {K : PySem.W.Frag} {mg : Str → Option Value} {base : Heap} {x : Str} {st : Stmt} {N L ps G : List Str} {k : Nat} {sp : Sp} (F : Def K mg x st ps) (S : FnScope N ps (defScope st)) (B : scB (defScope st) N L G = true)
    (len : ∀ vs H Q E, sp vs H Q E → vs.length = ps.length)
    (hbody : ∀ X : Cx, X.prog = P → X.w = w → X.K = K → X.mg = mg → X.base = base → Fr X N L L G → X.env.scope = defScope st → Room k X.A → ∀ (vs : List V) (H : Hp) (Q : VK) (E : XK), sp vs H Q E → WSs X (defBody st) { nx := fun _ H' => Q .non H', rt := Q } (start N vs) H) :
    CallOk P w K mg base (k + 1) x ps sp := by
  obtain ⟨f, fd, F, m, b⟩ := F
  exact ⟨f, fd, Fun.okW F S B len hbody, m, F.kp, b⟩

section
variable {X : Cx} {N L Vs G : List Str} {e a b c : Expr} {es : List Expr} {σ : L2.St} {H : Hp} {Q : VK} {pos p : Pos} {x : Str} {v : V}
/-! ### expressions -/
theorem w_name (C : Fr X N L Vs G) (h : At N σ x v) (hx : x ∈ Vs) (q : Q v H) : WE X (.Name x pos) σ H Q := by
  obtain ⟨i, h1, h2⟩ := h.ix
  have d := C.nodbg x (List.mem_append_left _ (List.mem_of_getElem? h1))
  exact .of (pe_var (i := i) (by rw [C.n]; exact h1) (C.vis x hx) d.1 d.2.1) ⟨v, h2, q⟩
theorem w_glob {u : Value} (C : Fr X N L Vs G) (hx : x ∈ G) (hm : X.mg x = some u) (r : RelV v u) (q : Q v H) : WE X (.Name x pos) σ H Q :=
  .of (pe_glob (C.gl x hx) hm r (C.nodbg x (List.mem_append_right _ hx)).1) q
theorem w_int {i : Int} {j} (q : Q (.int i) H) : WE X (.Constant (.int i) j pos) σ H Q := .of pe_int q
theorem w_bl {i : Bool} {j} (q : Q (.bl i) H) : WE X (.Constant (.bool i) j pos) σ H Q := .of pe_bl q
theorem w_non {j} (q : Q .non H) : WE X (.Constant .none j pos) σ H Q := .of pe_non q
theorem w_str {i : Str} {j} (q : Q (.str i) H) : WE X (.Constant (.str i) j pos) σ H Q := .of pe_str q

/-- two values and an operator -/
def WB (X : Cx) (op : Operator) (x y : V) (H : Hp) (Q : VK) : Prop := ∃ r, OpR X (binaryOp op) r ∧ r x y H Q
def WC (X : Cx) (op : CmpOp) (x y : V) (H : Hp) (Q : VK) : Prop := ∃ r, OpR X (compareOp op) r ∧ r x y H Q
theorem w_op {op : Operator} (h : WE X a σ H fun x H1 => WE X b σ H1 fun y H2 => WB X op x y H2 Q) : WE X (.BinOp a op b pos) σ H Q := fun pins s I => by
  have go : PE X (.BinOp a op b pos) (fun σ H Q => WE X a σ H fun x H1 => WE X b σ H1 fun y H2 => WB X op x y H2 Q) :=
    pe_op (r := fun x y H Q => WB X op x y H Q) (fun pins s σ H x y v u Q I rx ry ⟨r, o, q⟩ => o pins s σ H x y v u Q I rx ry q) (pe X a) (pe X b)
  exact go.run pins s σ H Q I h
theorem w_cmp {op : CmpOp} (hm : behindInMarks op b = false) (h : WE X a σ H fun x H1 => WE X b σ H1 fun y H2 => WC X op x y H2 Q) : WE X (.Compare a [op] [b] pos) σ H Q := fun pins s I => by
  have go : PE X (.Compare a [op] [b] pos) (fun σ H Q => WE X a σ H fun x H1 => WE X b σ H1 fun y H2 => WC X op x y H2 Q) :=
    pe_cmpR (r := fun x y H Q => WC X op x y H Q) (fun pins s σ H x y v u Q I rx ry ⟨r, o, q⟩ => o pins s σ H x y v u Q I rx ry q) (pe X a) (pe X b) hm
  exact go.run pins s σ H Q I h
theorem t_cmp {op : CmpOp} {Q : Bool → Hp → Prop} (hm : behindInMarks op b = false) (h : WE X a σ H fun x H1 => WE X b σ H1 fun y H2 => WC X op x y H2 fun z H3 => ∃ k, z = .bl k ∧ Q k H3) : WT X (.Compare a [op] [b] pos) σ H Q := fun pins s I => by
  have go : PT X (.Compare a [op] [b] pos) (tTest fun σ H Q => WE X a σ H fun x H1 => WE X b σ H1 fun y H2 => WC X op x y H2 Q) :=
    pt_cmpR (r := fun x y H Q => WC X op x y H Q) (fun pins s σ H x y v u Q I rx ry ⟨r, o, q⟩ => o pins s σ H x y v u Q I rx ry q) (pe X a) (pe X b) hm
  exact go.run pins s σ H Q I h
end
end LM
namespace LM
open PySem PySem.Spec PyProof.Rows L2
/-! ### values: dicts by the same words as lists -/
theorem op_inD {X : Cx} (hu : X.A.units + 1 < cLine) : OpR X (compareOp .In) (fun y x H Q => ∃ a o, x = .ref a ∧ DGet H a y o ∧ Q (.bl o.isSome) H) := by
  intro pins s σ H y x u v Q I ry rx h
  obtain ⟨a, o, ex, g, q⟩ := h
  subst ex
  obtain rfl : v = Value.ref a := rx
  exact d_in hu I g ry fun s2 I2 => ⟨.bl o.isSome, H, I2, rfl, q⟩
theorem op_notInD {X : Cx} (hu : X.A.units + 1 < cLine) : OpR X (compareOp .NotIn) (fun y x H Q => ∃ a o, x = .ref a ∧ DGet H a y o ∧ Q (.bl (!o.isSome)) H) := by
  intro pins s σ H y x u v Q I ry rx h
  obtain ⟨a, o, ex, g, q⟩ := h
  subst ex
  obtain rfl : v = Value.ref a := rx
  exact d_notIn hu I g ry fun s2 I2 => ⟨.bl (!o.isSome), H, I2, rfl, q⟩
theorem set_dict {X : Cx} (hu : X.A.units + 1 < cLine) : PSet X (fun o i v H Q => ∃ a H4, o = .ref a ∧ DPut H a i v H4 ∧ Q H4) := by
  intro pins s σ H o i v ov iv u Q I ro ri rv h
  obtain ⟨a, H4, ex, g, q⟩ := h
  subst ex
  obtain rfl : ov = Value.ref a := ro
  exact d_setItem hu I g ri rv fun s4 I4 => ⟨H4, I4, q⟩

theorem same_new {H : Hp} {p : Addr} {o : HO} (h : H p = none) : Same H (upd H p o) := fun b u q => by rw [upd_ne (ne_of_none q h)]; exact q
section
variable {X : Cx} {N L Vs G : List Str} {e a b c d : Expr} {es : List Expr} {σ : L2.St} {H : Hp} {Q : VK} {pos p apos cpos : Pos} {x : Str} {v : V}
/-! ### subscripts -/
def WI (X : Cx) (x y : V) (H : Hp) (Q : VK) : Prop := ∃ r, IxR X r ∧ r x y H Q
theorem w_ix (hs : PlainIx b) (h : WE X a σ H fun x H1 => WE X b σ H1 fun y H2 => WI X x y H2 Q) : WE X (.Subscript a b pos) σ H Q := fun pins s I => by
  have go : PE X (.Subscript a b pos) (tOp (fun x y H Q => WI X x y H Q) (WE X a) (WE X b)) :=
    pe_ix (fun value slice pins s σ H x y v u Q I rx ry ⟨r, o, q⟩ hs => o value slice pins s σ H x y v u Q I rx ry q hs) (pe X a) (pe X b) hs
  exact go.run pins s σ H Q I h
theorem i_lst {p : Addr} {xs : List V} {i : Int} (h : SqL X.K H p xs) (e : atI xs i = some v) (q : Q v H) : WI X (.ref p) (.int i) H Q := ⟨_, ix_list, p, xs, i, v, rfl, rfl, h, e, q⟩
theorem i_tup {p : Addr} {xs : List V} {i : Int} (h : SqT X.K H p xs) (e : atI xs i = some v) (q : Q v H) : WI X (.ref p) (.int i) H Q := ⟨_, ix_tup, p, xs, i, v, rfl, rfl, h, e, q⟩
theorem i_str {z : Str} {i : Int} {c : Nat} (hz : z.length ≤ sizeLine) (e : atI z.cps.toList i = some c) (q : Q (.str ⟨#[c]⟩) H) : WI X (.str z) (.int i) H Q := ⟨_, ix_str, z, i, c, rfl, rfl, hz, e, q⟩
/-- d[key] -/
theorem w_dix (hu : X.A.units + 1 < cLine) (hs : NoSl b) (h : WE X a σ H fun x H1 => WE X b σ H1 fun y H2 => ∃ l v, x = .ref l ∧ DGet H2 l y (some v) ∧ Q v H2) : WE X (.Subscript a b pos) σ H Q := .of (pe_dget hu (pe X a) (pe X b) hs) h
theorem i_dK {p : Addr} {kvs : List (Key × V)} {k : Key} (h : H p = some (.dK kvs)) (e : valV kvs k = some v) (q : Q v H) : ∃ l v, V.ref p = .ref l ∧ DGet H l (kV k) (some v) ∧ Q v H := ⟨p, v, rfl, e ▸ DGet.k h, q⟩
/-- parts of a slice -/
def WO (X : Cx) (e : Option Expr) (σ : L2.St) (H : Hp) (Q : Option Int → Hp → Prop) : Prop := match e with
  | none => Q none H
  | some e => WE X e σ H fun x H1 => ∃ i, x = .int i ∧ Q (some i) H1
theorem po (X : Cx) (e : Option Expr) : PO X e (WO X e) := by
  cases e with
  | none => exact po_none
  | some e => exact po_some (pe X e)
def WL (X : Cx) (x : V) (lo hi : Option Int) (H : Hp) (Q : VK) : Prop := ∃ r, SlR X r ∧ r x lo hi H Q
theorem w_slice {lo hi : Option Expr} {p2 : Pos} (h : WE X e σ H fun x H1 => WO X lo σ H1 fun l H2 => WO X hi σ H2 fun u H3 => WL X x l u H3 Q) : WE X (.Subscript e (.Slice lo hi none p2) pos) σ H Q := fun pins s I => by
  have go : PE X (.Subscript e (.Slice lo hi none p2) pos) (tSl (fun x l u H Q => WL X x l u H Q) (WE X e) (WO X lo) (WO X hi)) :=
    pe_slice (fun pins s σ H x v vl vu lo hi sl Q I rx hs pl pu ⟨r, o, q⟩ => o pins s σ H x v vl vu lo hi sl Q I rx hs pl pu q) (pe X e) (po X lo) (po X hi)
  exact go.run pins s σ H Q I h
theorem o_none {Q : Option Int → Hp → Prop} (q : Q none H) : WO X none σ H Q := q
theorem o_some {Q : Option Int → Hp → Prop} (q : WE X e σ H fun x H1 => ∃ i, x = .int i ∧ Q (some i) H1) : WO X (some e) σ H Q := q
theorem o_int {i : Int} {Q : Option Int → Hp → Prop} (q : Q (some i) H) : ∃ j, V.int i = .int j ∧ Q (some j) H := ⟨i, rfl, q⟩
theorem l_lst {p : Addr} {xs : List V} {lo hi : Option Int} (h : SqL X.K H p xs) (q : ∀ r H2, H r = none → Same H H2 → H2 r = some (.lst (cutV xs lo hi)) → Q (.ref r) H2) : WL X (.ref p) lo hi H Q :=
  ⟨_, sl_list, p, xs, rfl, h, fun r hr => q r _ hr (same_new hr) upd_same⟩
theorem l_str {z : Str} {lo hi : Option Int} (hz : z.length ≤ sizeLine) (q : Q (.str (cutS z lo hi)) H) : WL X (.str z) lo hi H Q := ⟨_, sl_str, z, rfl, hz, q⟩

/-! ### displays -/
theorem a_nil {Q : List V → Hp → Prop} (q : Q [] H) : WA X [] σ H Q := .of pa_nil q
theorem a_cons {Q : List V → Hp → Prop} (h : WE X e σ H fun x H1 => WA X es σ H1 fun xs H2 => Q (x :: xs) H2) (hs : starEach (e :: es) X.env = (false, eval e X.env) :: starEach es X.env := by rfl) : WA X (e :: es) σ H Q :=
  .of (pa_cons (pe X e) (pa X es) hs) h
theorem w_tup {k} (h : WA X es σ H fun xs H1 => xs.length ≤ sizeLine ∧ ∀ p H2, H1 p = none → Same H1 H2 → H2 p = some (.tup xs) → Q (.ref p) H2) : WE X (.Tuple es k pos) σ H Q := fun pins s I =>
  (pe_tup (pa X es)).run pins s σ H Q I fun pos pins s I => thn (h pos pins s I) fun us s' ⟨vs, H1, I1, r, z, q⟩ => ⟨vs, H1, I1, r, z, fun p hp => q p _ hp (same_new hp) upd_same⟩
theorem w_lst (h : WA X es σ H fun xs H1 => xs.length ≤ sizeLine ∧ ∀ p H2, H1 p = none → Same H1 H2 → H2 p = some (.lst xs) → Q (.ref p) H2) : WE X (.List es pos) σ H Q := fun pins s I =>
  (pe_lst (pa X es)).run pins s σ H Q I fun pos pins s I => thn (h pos pins s I) fun us s' ⟨vs, H1, I1, r, z, q⟩ => ⟨vs, H1, I1, r, z, fun p hp => q p _ hp (same_new hp) upd_same⟩
theorem w_dict0 (q : ∀ p H2, H p = none → Same H H2 → H2 p = some (.dK []) → Q (.ref p) H2) : WE X (.Dict [] [] pos) σ H Q := .of pe_dnewK fun p hp => q p _ hp (same_new hp) upd_same
theorem w_globR {g : Addr} (C : Fr X N L Vs G) (hx : x ∈ G) (hm : X.mg x = some (.ref g)) (q : Q (.ref g) H) : WE X (.Name x pos) σ H Q := w_glob (v := .ref g) C hx hm rfl q
theorem w_globI {i : Int} {t : Tok} (C : Fr X N L Vs G) (hx : x ∈ G) (hm : X.mg x = some (.int i t)) (q : Q (.int i) H) : WE X (.Name x pos) σ H Q := w_glob (v := .int i) C hx hm ⟨_, rfl⟩ q
theorem w_globS {i : Str} {t : Tok} (C : Fr X N L Vs G) (hx : x ∈ G) (hm : X.mg x = some (.str i t)) (q : Q (.str i) H) : WE X (.Name x pos) σ H Q := w_glob (v := .str i) C hx hm ⟨_, rfl⟩ q
theorem l_tup {p : Addr} {xs : List V} {lo hi : Option Int} (h : SqT X.K H p xs) (hn : ¬ (HT.sIx xs.length 0 lo = 0 ∧ HT.sIx xs.length xs.length hi = xs.length)) (q : ∀ r H2, H r = none → Same H H2 → H2 r = some (.tup (cutV xs lo hi)) → Q (.ref r) H2) : WL X (.ref p) lo hi H Q :=
  ⟨_, sl_tup, p, xs, rfl, h, hn, fun r hr => q r _ hr (same_new hr) upd_same⟩
theorem sz {n : Nat} (h : n ≤ 1000000) : n ≤ sizeLine := by rw [sizeLine_eq]; omega
theorem szl {n : Nat} (h : n < 1000000) : n < sizeLine := by rw [sizeLine_eq]; omega

/-! ### operators by values -/
theorem b_add {i j : Int} (q : Q (.int (i + j)) H) : WB X .Add (.int i) (.int j) H Q := ⟨_, op_add, i, j, rfl, rfl, q⟩
theorem b_sub {i j : Int} (q : Q (.int (i - j)) H) : WB X .Sub (.int i) (.int j) H Q := ⟨_, op_sub, i, j, rfl, rfl, q⟩
theorem b_mul {i j : Int} (hc : CMul i j) (q : Q (.int (i * j)) H) : WB X .Mult (.int i) (.int j) H Q := ⟨_, op_mul, i, j, rfl, rfl, hc, q⟩
theorem b_mod {i j : Int} (hj : 0 < j) (q : Q (.int (i % j)) H) : WB X .Mod (.int i) (.int j) H Q := ⟨_, op_mod, i, j, rfl, rfl, hj, q⟩
theorem b_div {i j : Int} (hj : CDiv i j) (q : Q (.int (i / j)) H) : WB X .FloorDiv (.int i) (.int j) H Q := ⟨_, op_fdiv, i, j, rfl, rfl, hj, q⟩
theorem b_adds {i j : Str} (hz : i.length + j.length ≤ sizeLine) (q : Q (.str (i ++ j)) H) : WB X .Add (.str i) (.str j) H Q := ⟨_, op_add_str, i, j, rfl, rfl, hz, q⟩
theorem b_cat {l m : Addr} {xs ys : List V} (h1 : H l = some (.lst xs)) (h2 : H m = some (.lst ys)) (hz : xs.length + ys.length ≤ sizeLine) (q : ∀ p H2, H p = none → Same H H2 → H2 p = some (.lst (xs ++ ys)) → Q (.ref p) H2) : WB X .Add (.ref l) (.ref m) H Q :=
  ⟨_, op_cat, l, m, xs, ys, rfl, rfl, h1, h2, hz, fun p hp => q p _ hp (same_new hp) upd_same⟩
theorem c_lt {i j : Int} (q : Q (.bl (decide (i < j))) H) : WC X .Lt (.int i) (.int j) H Q := ⟨_, op_lt, i, j, rfl, rfl, q⟩
theorem c_le {i j : Int} (q : Q (.bl (decide (i ≤ j))) H) : WC X .LtE (.int i) (.int j) H Q := ⟨_, op_le, i, j, rfl, rfl, q⟩
theorem c_gt {i j : Int} (q : Q (.bl (decide (j < i))) H) : WC X .Gt (.int i) (.int j) H Q := ⟨_, op_gt, i, j, rfl, rfl, q⟩
theorem c_ge {i j : Int} (q : Q (.bl (decide (j ≤ i))) H) : WC X .GtE (.int i) (.int j) H Q := ⟨_, op_ge, i, j, rfl, rfl, q⟩
theorem dec_int (i j : Int) : decide (V.int i = V.int j) = decide (i = j) := by
  by_cases h : i = j
  · subst h; simp
  · rw [decide_eq_false h, decide_eq_false fun q => h (V.int.inj q)]
theorem dec_str (i j : Str) : decide (V.str i = V.str j) = decide (i = j) := by
  by_cases h : i = j
  · subst h; simp
  · rw [decide_eq_false h, decide_eq_false fun q => h (V.str.inj q)]
theorem c_eqI {i j : Int} (q : Q (.bl (decide (i = j))) H) : WC X .Eq (.int i) (.int j) H Q := ⟨_, op_eq, rfl, by rw [dec_int]; exact q⟩
theorem c_neI {i j : Int} (q : Q (.bl (!decide (i = j))) H) : WC X .NotEq (.int i) (.int j) H Q := ⟨_, op_ne, rfl, by rw [dec_int]; exact q⟩
theorem c_eqS {i j : Str} (q : Q (.bl (decide (i = j))) H) : WC X .Eq (.str i) (.str j) H Q := ⟨_, op_eq, rfl, by rw [dec_str]; exact q⟩
theorem c_neS {i j : Str} (q : Q (.bl (!decide (i = j))) H) : WC X .NotEq (.str i) (.str j) H Q := ⟨_, op_ne, rfl, by rw [dec_str]; exact q⟩
theorem c_isN (q : Q (.bl (decide (v = .non))) H) : WC X .Is v .non H Q := ⟨_, op_isN, rfl, q⟩
theorem c_notN (q : Q (.bl (!decide (v = .non))) H) : WC X .IsNot v .non H Q := ⟨_, op_notN, rfl, q⟩
theorem c_inT {p : Addr} {xs : List V} (h : SqT X.K H p xs) (hx : flatV v = true) (ha : xs.all flatV = true) (q : Q (.bl (inV v xs)) H) : WC X .In v (.ref p) H Q := ⟨_, op_in_seq, p, xs, rfl, .inr h, hx, ha, q⟩
theorem c_inL {p : Addr} {xs : List V} (h : SqL X.K H p xs) (hx : flatV v = true) (ha : xs.all flatV = true) (q : Q (.bl (inV v xs)) H) : WC X .In v (.ref p) H Q := ⟨_, op_in_seq, p, xs, rfl, .inl h, hx, ha, q⟩
theorem c_notInT {p : Addr} {xs : List V} (h : SqT X.K H p xs) (hx : flatV v = true) (ha : xs.all flatV = true) (q : Q (.bl (!inV v xs)) H) : WC X .NotIn v (.ref p) H Q := ⟨_, op_notIn_seq, p, xs, rfl, .inr h, hx, ha, q⟩
theorem c_inD {p : Addr} {kvs : List (Key × V)} {k : Key} (hu : X.A.units + 1 < cLine) (h : H p = some (.dK kvs)) (q : Q (.bl (valV kvs k).isSome) H) : WC X .In (kV k) (.ref p) H Q := ⟨_, op_inD hu, p, _, rfl, DGet.k h, q⟩
theorem c_notInD {p : Addr} {kvs : List (Key × V)} {k : Key} (hu : X.A.units + 1 < cLine) (h : H p = some (.dK kvs)) (q : Q (.bl (!(valV kvs k).isSome)) H) : WC X .NotIn (kV k) (.ref p) H Q := ⟨_, op_notInD hu, p, _, rfl, DGet.k h, q⟩

theorem c_eqD {x y : V} {d e : PyData} (hu : X.A.units + 64 < cLine) (h1 : Dp X.K H x d) (h2 : Dp X.K H y e) (s1 : SeqAt.shaped d = true) (s2 : SeqAt.shaped e = true) (q : Q (.bl (PyData.eqv d e)) H) : WC X .Eq x y H Q := ⟨_, op_eqD hu, d, e, h1, h2, s1, s2, q⟩
theorem c_neD {x y : V} {d e : PyData} (hu : X.A.units + 64 < cLine) (h1 : Dp X.K H x d) (h2 : Dp X.K H y e) (s1 : SeqAt.shaped d = true) (s2 : SeqAt.shaped e = true) (q : Q (.bl (!PyData.eqv d e)) H) : WC X .NotEq x y H Q := ⟨_, op_neD hu, d, e, h1, h2, s1, s2, q⟩
/-! ### calls -/
theorem w_call {k k' : Nat} {ps : List Str} {sp : Sp} {f : Str} (C : Fr X N L Vs G) (F : CallOk X.prog X.w X.K X.mg X.base k f ps sp) (hr : Room k' X.A) (hk : k ≤ k') (hx : f ∈ G) (h : WA X (e :: es) σ H fun vs H1 => sp vs H1 Q E0)
    (he : starEach (e :: es) X.env = (false, eval e X.env) :: starEach es X.env := by rfl) (hpl : (backTo pos (starEach es X.env)).any (·.1) = false := by rfl) : WE X (.Call (.Name f p) (e :: es) [] pos) σ H Q := by
  obtain ⟨g, fd, F, m, kp, b⟩ := F
  exact .of (pe_call F (hr.mono hk) (C.gl f hx) m kp b .nil pass0 (pa X _) (C.nodbg f (List.mem_append_right _ hx)).1 he hpl) (t := tCall sp [] E0 (WA X (e :: es))) (fun pos pins s I => thn (h pos pins s I) fun us s' ⟨vs, H1, I1, r, q⟩ => ⟨vs, H1, I1, r, by show sp (vs ++ []) H1 Q E0; rw [List.append_nil]; exact q⟩)
/-- a built-in function or class, by its name -/
def WB1 (X : Cx) (u : Value) (vs : List V) (H : Hp) (Q : VK) : Prop := ∃ r, CallR X u r ∧ r vs H Q
theorem w_callB {f : Str} {id : String} (C : Fr X N L Vs G) (hx : f ∈ G) (hm : X.mg f = none) (hv : bootBuiltins f = some (.builtin id)) (h : WA X (e :: es) σ H fun vs H1 => WB1 X (.builtin id) vs H1 Q)
    (he : starEach (e :: es) X.env = (false, eval e X.env) :: starEach es X.env := by rfl) (hpl : (backTo pos (starEach es X.env)).any (·.1) = false := by rfl) : WE X (.Call (.Name f p) (e :: es) [] pos) σ H Q :=
  .of (pe_callB (r := fun vs H Q => WB1 X (.builtin id) vs H Q) (fun pins s σ H xs us Q I r ⟨t, o, q⟩ => o pins s σ H xs us Q I r q) (C.gl f hx) hm hv (pa X _) (C.nodbg f (List.mem_append_right _ hx)).2.2 (C.nodbg f (List.mem_append_right _ hx)).1 he hpl) h
theorem w_callTy {f : Str} {T : String} (C : Fr X N L Vs G) (hx : f ∈ G) (hm : X.mg f = none) (hv : bootBuiltins f = some (.type T)) (h : WA X (e :: es) σ H fun vs H1 => WB1 X (.type T) vs H1 Q)
    (he : starEach (e :: es) X.env = (false, eval e X.env) :: starEach es X.env := by rfl) (hpl : (backTo pos (starEach es X.env)).any (·.1) = false := by rfl) : WE X (.Call (.Name f p) (e :: es) [] pos) σ H Q :=
  .of (pe_callTy (r := fun vs H Q => WB1 X (.type T) vs H Q) (fun pins s σ H xs us Q I r ⟨t, o, q⟩ => o pins s σ H xs us Q I r q) (C.gl f hx) hm hv (pa X _) (C.nodbg f (List.mem_append_right _ hx)).2.2 (C.nodbg f (List.mem_append_right _ hx)).1 he hpl) h
theorem k_lenL {p : Addr} {xs : List V} (h : SqL X.K H p xs) (q : Q (.int xs.length) H) : WB1 X (.builtin "len") [.ref p] H Q := ⟨_, call_len_seq, p, xs, rfl, .inl h, q⟩
theorem k_lenT {p : Addr} {xs : List V} (h : SqT X.K H p xs) (q : Q (.int xs.length) H) : WB1 X (.builtin "len") [.ref p] H Q := ⟨_, call_len_seq, p, xs, rfl, .inr h, q⟩
theorem k_lenS {z : Str} (h : z.length ≤ sizeLine) (q : Q (.int z.length) H) : WB1 X (.builtin "len") [.str z] H Q := ⟨_, call_len_str, z, rfl, h, q⟩
theorem k_max {i j : Int} (C : Fr X N L Vs G) (q : Q (.int (if j > i then j else i)) H) : WB1 X (.builtin "max") [.int i, .int j] H Q := ⟨_, call_max2 C.calm, i, j, rfl, q⟩
theorem k_min {i j : Int} (C : Fr X N L Vs G) (q : Q (.int (if j < i then j else i)) H) : WB1 X (.builtin "min") [.int i, .int j] H Q := ⟨_, call_min2 C.calm, i, j, rfl, q⟩
theorem k_intb {k : Bool} (q : Q (.int (if k then 1 else 0)) H) : WB1 X (.type "int") [.bl k] H Q := ⟨_, call_int1, .inr ⟨k, rfl, q⟩⟩
theorem k_isi {T U : String} {k : Bool} (ht : TyX X.K H v (.type T)) (hk : kitB T U = some k) (q : Q (.bl k) H) : WB1 X (.builtin "isinstance") [v, .ty U] H Q := ⟨_, call_isi, v, .ty U, _, _, k, rfl, .ty U, ht, kit_ty hk, q⟩
theorem k_all {p : Addr} {bs : List Bool} (C : Fr X N L Vs G) (h : SqL X.K H p (bs.map V.bl)) (q : Q (.bl (bs.all _root_.id)) H) : WB1 X (.builtin "all") [.ref p] H Q := ⟨_, cr_all C.calm, p, bs, rfl, h, q⟩
theorem k_dict {p : Addr} {kvs : List (Key × V)} (h : Rd H p (.dK kvs)) (q : ∀ r H2, H r = none → Same H H2 → H2 r = some (.dK kvs) → Q (.ref r) H2) : WB1 X (.type "dict") [.ref p] H Q := ⟨_, call_dictD, p, kvs, rfl, h, fun r hr => q r _ hr (same_new hr) upd_same⟩
theorem k_list {p : Addr} {xs : List V} (h : SqL X.K H p xs ∨ SqT X.K H p xs) (q : ∀ r H2, H r = none → Same H H2 → H2 r = some (.lst xs) → Q (.ref r) H2) : WB1 X (.type "list") [.ref p] H Q := ⟨_, call_list_of, p, xs, rfl, h, fun r hr => q r _ hr (same_new hr) upd_same⟩
theorem k_str {i : Int} (hi : i.natAbs.log2 < 1920) (q : Q (.str (toString i)) H) : WB1 X (.type "str") [.int i] H Q := ⟨_, call_str_int, i, rfl, hi, q⟩
theorem k_sortedD {p : Addr} {kvs : List (Key × V)} {ks : List Str} (C : Fr X N L Vs G) (h : Rd H p (.dK kvs)) (hk : kvs.map (·.1) = ks.map Sum.inr) (hl : ks.length < 64) (q : ∀ ys r H2, ys.Perm ks → sortedS ys = true → H r = none → Same H H2 → H2 r = some (.lst (ys.map V.str)) → Q (.ref r) H2) :
    WB1 X (.builtin "sorted") [.ref p] H Q := ⟨_, call_sortedD C.calm, p, kvs, ks, rfl, h, hk, hl, fun ys r h1 h2 hr => q ys r _ h1 h2 hr (same_new hr) upd_same⟩
theorem k_sortedL {p : Addr} {ks : List Str} (h : SqL X.K H p (ks.map V.str)) (hl : ks.length < 64) (q : ∀ ys r H2, ys.Perm ks → sortedS ys = true → H r = none → Same H H2 → H2 r = some (.lst (ys.map V.str)) → Q (.ref r) H2) :
    WB1 X (.builtin "sorted") [.ref p] H Q := ⟨_, cr_sortedS, p, ks, rfl, h, hl, fun ys r h1 h2 hr => q ys r _ h1 h2 hr (same_new hr) upd_same⟩
/-- a built-in class as a value -/
theorem w_ty {f : Str} {T : String} (C : Fr X N L Vs G) (hx : f ∈ G) (hm : X.mg f = none) (hv : bootBuiltins f = some (.type T)) (q : Q (.ty T) H) : WE X (.Name f pos) σ H Q :=
    .of (pe_bltn (v := .ty T) (C.gl f hx) hm hv rfl (C.nodbg f (List.mem_append_right _ hx)).2.2 (C.nodbg f (List.mem_append_right _ hx)).1) q

/-! ### tests -/
variable {QT : Bool → Hp → Prop}
theorem t_truth (he : ∀ whole, isTrue a X.env whole = (do let v ← whole; standAt a.pos; holding [v] (truthy v))) (h : WE X a σ H fun x H1 => ∃ k, TruV X.K x H1 k ∧ QT k H1) : WT X a σ H QT := .of (pt_truth (pe X a) he) h
theorem t_not (h : WT X a σ H fun k H1 => QT (!k) H1) : WT X (.UnaryOp .Not a pos) σ H QT := .of (pt_not (pt X a)) h
theorem t_bool {op} (h : WW X (.BoolOp op es pos) σ H QT) : WT X (.BoolOp op es pos) σ H QT := .of (pw X _).pt h
theorem ww_and1 (h : WT X a σ H QT) : WW X (.BoolOp .And [a] pos) σ H QT := fun wh pins s I => (pw_and1 (pt X a)).run wh pins s σ H QT I h
theorem ww_or1 (h : WT X a σ H QT) : WW X (.BoolOp .Or [a] pos) σ H QT := fun wh pins s I => (pw_or1 (pt X a)).run wh pins s σ H QT I h
theorem ww_and (h : WT X a σ H fun k H1 => if k = true then WW X (.BoolOp .And (b :: es) pos) σ H1 QT else QT false H1) : WW X (.BoolOp .And (a :: b :: es) pos) σ H QT := fun wh pins s I => (pw_and (pt X a) (pw X _)).run wh pins s σ H QT I h
theorem ww_or (h : WT X a σ H fun k H1 => if k = true then QT true H1 else WW X (.BoolOp .Or (b :: es) pos) σ H1 QT) : WW X (.BoolOp .Or (a :: b :: es) pos) σ H QT := fun wh pins s I => (pw_or (pt X a) (pw X _)).run wh pins s σ H QT I h
/-- the same as values -/
theorem w_not (h : WE X a σ H fun x H1 => ∃ k, x = .bl k ∧ Q (.bl (!k)) H1) : WE X (.UnaryOp .Not a pos) σ H Q := .of (pe_not (pe X a)) h
theorem w_one {op} (h : WE X a σ H Q) : WE X (.BoolOp op [a] pos) σ H Q := .of (pe_one (pe X a)) h
theorem w_and (h : WE X a σ H fun x H1 => ∃ k, x = .bl k ∧ if k = true then WE X (.BoolOp .And (b :: es) pos) σ H1 Q else Q (.bl false) H1) : WE X (.BoolOp .And (a :: b :: es) pos) σ H Q := .of (pe_and (pe X a) (pe X _)) h
theorem w_or (h : WE X a σ H fun x H1 => ∃ k, x = .bl k ∧ if k = true then Q (.bl true) H1 else WE X (.BoolOp .Or (b :: es) pos) σ H1 Q) : WE X (.BoolOp .Or (a :: b :: es) pos) σ H Q := .of (pe_or (pe X a) (pe X _)) h
theorem w_ifExp (h : WT X c σ H fun k H1 => if k = true then WE X a σ H1 Q else WE X b σ H1 Q) : WE X (.IfExp c a b pos) σ H Q := .of (pe_ifExp (pt X c) (pe X a) (pe X b)) h
theorem w_neg (h : WE X a σ H fun x H1 => ∃ i, x = .int i ∧ Q (.int (-i)) H1) : WE X (.UnaryOp .USub a pos) σ H Q := .of (pe_un un_neg (pe X a)) h
theorem x_bl {k : Bool} {R : Bool → Prop} (q : R k) : ∃ j, V.bl k = .bl j ∧ R j := ⟨k, rfl, q⟩
theorem x_int {k : Int} {R : Int → Prop} (q : R k) : ∃ j, V.int k = .int j ∧ R j := ⟨k, rfl, q⟩
theorem x_tbl {k : Bool} {R : Bool → Prop} (q : R k) : ∃ j, TruV X.K (.bl k) H j ∧ R j := ⟨k, rfl, q⟩

/-! ### statements -/
variable {st : Stmt} {sts sts' : List Stmt} {D : Ends}
theorem s_nil (q : D.nx σ H) : WSs X [] D σ H := .of pss_nil q
theorem s_cons (h : WS X st { D with nx := fun σ H => WSs X sts D σ H } σ H) : WSs X (st :: sts) D σ H := .of (pss_cons (ps X st) (pss X sts)) h
theorem s_one (h : WS X st D σ H) : WSs X [st] D σ H := .of (pss_one (ps X st)) h
theorem s_pass (q : D.nx σ H) : WS X (.Pass pos) D σ H := .of ps_pass q
theorem s_expr (h : WE X e σ H fun _ H1 => D.nx σ H1) (hs : swapsWith e none pos.line X.env = pure false := by rfl) : WS X (.Expr e pos) D σ H := .of (ps_expr (pe X e) hs) h
theorem s_ret (h : WE X e σ H D.rt) : WS X (.Return (some e) pos) D σ H := .of (ps_ret (pe X e)) h
theorem s_retN (h : D.rt .non H) : WS X (.Return none pos) D σ H := .of ps_retN h
theorem s_if (h : WT X c σ H fun k H1 => if k = true then WSs X sts D σ H1 else WSs X sts' D σ H1) : WS X (.If c sts sts' pos) D σ H := .of (ps_if (pt X c) (pss X sts) (pss X sts')) h
theorem s_set {pos' : Pos} (C : Fr X N L Vs G) (hx : x ∈ L) (h : WE X e σ H fun v H1 => ∃ σ', Put N σ x v σ' ∧ D.nx σ' H1) (hs : swapsWith e (some (.Name x pos')) pos.line X.env = pure false := by rfl) : WS X (.Assign [.Name x pos'] e pos) D σ H := fun pins s I => by
  have hl := C.loc x hx
  by_cases hi : x ∈ X.N
  · obtain ⟨i, hi⟩ := List.getElem?_of_mem hi
    refine (ps_set (i := i) (by rw [C.n]; exact C.nd) hi hl.1 (pe X e) hs hl.2).run pins s σ H D I (h.mono ?_)
    rintro v H' ⟨σ', hp, q⟩
    obtain ⟨j, h1, h2⟩ := hp.ix
    have e : i = j := nodup_ix C.nd (by rw [← C.n]; exact hi) h1
    subst e
    rw [h2] at q
    exact q
  · refine wpAny_Assign_Name (thn (h pins s I) fun v s1 ⟨y, H1, I1, r1, σ', hp, q⟩ => ?_) hs
    obtain ⟨j, h1, h2⟩ := hp.ix
    exact absurd (by rw [C.n]; exact List.mem_of_getElem? h1) hi
/-- o[i] = e -/
def WP (X : Cx) (o i v : V) (H : Hp) (Q : Hp → Prop) : Prop := ∃ t, PSet X t ∧ t o i v H Q
theorem s_sub {pos' : Pos} (h : WE X e σ H fun v H1 => WE X a σ H1 fun o H2 => WE X b σ H2 fun i H3 => WP X o i v H3 fun H4 => D.nx σ H4)
    (ha : ∀ v, assign (.Subscript a b pos') X.env v = (do
      let ov ← holding [v] (eval a X.env)
      let iv ← holding [v, ov] (eval b X.env)
      standAt pos'
      holding [v, ov, iv] (setItem ov iv v)
      release [v, ov, iv] []) := by intro _; rfl) (hs : swapsWithSole [.Subscript a b pos'] e pos.line X.env = pure false := by rfl) (hw : swappedStores [.Subscript a b pos'] e X.env = pure none := by rfl)
    (h1 : (assignEach [.Subscript a b pos'] X.env).map (·.2) = [assign (.Subscript a b pos') X.env] := by rfl) : WS X (.Assign [.Subscript a b pos'] e pos) D σ H :=
  .of (ps_asg (pe X e) (pg_sub (t := fun o i v H Q => WP X o i v H Q) (pe X a) (pe X b) (fun pins s σ H o i v ov iv u Q I ro ri rv ⟨t, o1, q⟩ => o1 pins s σ H o i v ov iv u Q I ro ri rv q) ha) hs hw h1) h
theorem p_lst {p : Addr} {xs : List V} {k : Int} {j : Nat} {QH : Hp → Prop} (h : H p = some (.lst xs)) (hj : ixN xs.length k = some j) (q : QH (upd H p (.lst (xs.set j v)))) : WP X (.ref p) (.int k) v H QH := ⟨_, set_list, p, xs, k, j, rfl, rfl, h, hj, q⟩
theorem p_dK {p : Addr} {kvs : List (Key × V)} {k : Key} {QH : Hp → Prop} (hu : X.A.units + 1 < cLine) (h : H p = some (.dK kvs)) (hl : kvs.length < sizeLine) (q : QH (upd H p (.dK (putK kvs k v)))) : WP X (.ref p) (kV k) v H QH := ⟨_, set_dict hu, p, _, rfl, DPut.k h hl, q⟩

theorem p_dS {p : Addr} {kvs : List (Key × V)} {k : Str} {QH : Hp → Prop} (hu : X.A.units + 1 < cLine) (h : H p = some (.dK kvs)) (hl : kvs.length < sizeLine) (q : QH (upd H p (.dK (putK kvs (.inr k) v)))) : WP X (.ref p) (.str k) v H QH := p_dK (k := .inr k) hu h hl q
theorem p_dI {p : Addr} {kvs : List (Key × V)} {k : Int} {QH : Hp → Prop} (hu : X.A.units + 1 < cLine) (h : H p = some (.dK kvs)) (hl : kvs.length < sizeLine) (q : QH (upd H p (.dK (putK kvs (.inl k) v)))) : WP X (.ref p) (.int k) v H QH := p_dK (k := .inl k) hu h hl q
theorem i_dS {p : Addr} {kvs : List (Key × V)} {k : Str} (h : H p = some (.dK kvs)) (e : valV kvs (.inr k) = some v) (q : Q v H) : ∃ l v, V.ref p = .ref l ∧ DGet H l (.str k) (some v) ∧ Q v H := i_dK (k := .inr k) h e q
/-! ### methods of lists, dicts, texts -/
theorem w_append (h : WE X a σ H fun x H1 => ∃ l xs, x = .ref l ∧ SqL X.K H1 l xs ∧ WE X e σ H1 fun y H2 => ∃ xs', H2 l = some (.lst xs') ∧ xs'.length < sizeLine ∧ Q .non (upd H2 l (.lst (xs' ++ [y]))))
    (hbase : attributeBase a "append" X.env (eval a X.env) = eval a X.env := by rfl)
    (hfew : ((backTo cpos (starEach [e] X.env)).all (fun x => !x.1) && (backToKw cpos (keywordEach [] X.env)).all (fun x => x.1.isSome)
      && decide (([e] : List Expr).length + ([] : List Keyword).length + (if ([] : List Keyword).isEmpty then 0 else 1) < 30)) = true := by rfl)
    (hline : (apos.endLine == cpos.line) = true := by rfl) (hs : starEach [e] X.env = (false, eval e X.env) :: starEach [] X.env := by rfl) (hplain : (backTo cpos (starEach [] X.env)).any (·.1) = false := by rfl) :
    WE X (.Call (.Attribute a "append" apos) [e] [] cpos) σ H Q := by
  refine .of (pe_bm PySem.F.plainAttrs_list PySem.F.slot_list_append PySem.F.type_list_append mt_append (pe X a) (pa X [e]) hbase hfew hline hs hplain) ?_
  refine h.mono ?_
  rintro x H1 ⟨l, xs, rfl, hl, q⟩
  refine ⟨.inl ⟨rfl, xs, hl⟩, ?_⟩
  refine a_cons (WE.mono q ?_) hs
  rintro y H2 ⟨xs', h1, h2, q⟩
  exact a_nil ⟨l, xs', y, rfl, rfl, h1, h2, q⟩
theorem w_extend (h : WE X a σ H fun x H1 => ∃ l xs, x = .ref l ∧ SqL X.K H1 l xs ∧ WE X e σ H1 fun y H2 => ∃ m xs' ys, y = .ref m ∧ H2 l = some (.lst xs') ∧ H2 m = some (.lst ys) ∧ xs'.length + ys.length ≤ sizeLine ∧ Q .non (upd H2 l (.lst (xs' ++ ys))))
    (hbase : attributeBase a "extend" X.env (eval a X.env) = eval a X.env := by rfl)
    (hfew : ((backTo cpos (starEach [e] X.env)).all (fun x => !x.1) && (backToKw cpos (keywordEach [] X.env)).all (fun x => x.1.isSome)
      && decide (([e] : List Expr).length + ([] : List Keyword).length + (if ([] : List Keyword).isEmpty then 0 else 1) < 30)) = true := by rfl)
    (hline : (apos.endLine == cpos.line) = true := by rfl) (hs : starEach [e] X.env = (false, eval e X.env) :: starEach [] X.env := by rfl) (hplain : (backTo cpos (starEach [] X.env)).any (·.1) = false := by rfl) :
    WE X (.Call (.Attribute a "extend" apos) [e] [] cpos) σ H Q := by
  refine .of (pe_bm PySem.F.plainAttrs_list PySem.F.slot_list_extend PySem.F.type_list_extend mt_extend (pe X a) (pa X [e]) hbase hfew hline hs hplain) ?_
  refine h.mono ?_
  rintro x H1 ⟨l, xs, rfl, hl, q⟩
  refine ⟨.inl ⟨rfl, xs, hl⟩, ?_⟩
  refine a_cons (WE.mono q ?_) hs
  rintro y H2 ⟨m, xs', ys, rfl, h1, h2, h3, q⟩
  exact a_nil ⟨l, m, xs', ys, rfl, rfl, h1, h2, h3, q⟩
theorem w_pop (h : WE X a σ H fun x H1 => ∃ l xs y, x = .ref l ∧ H1 l = some (.lst xs) ∧ xs[xs.length - 1]? = some y ∧ Q y (upd H1 l (.lst xs.dropLast)))
    (hbase : attributeBase a "pop" X.env (eval a X.env) = eval a X.env := by rfl) (hline : (apos.endLine == cpos.line) = true := by rfl) : WE X (.Call (.Attribute a "pop" apos) [] [] cpos) σ H Q := by
  refine .of (pe_bm0 PySem.F.plainAttrs_list PySem.F.slot_list_pop PySem.F.type_list_pop mt_pop (pe X a) hbase hline) ?_
  refine h.mono ?_
  rintro x H1 ⟨l, xs, y, rfl, hl, hy, q⟩
  exact ⟨.inl ⟨rfl, xs, SqL.of hl⟩, l, xs, y, rfl, rfl, hl, hy, q⟩
theorem w_join (h : WE X a σ H fun x H1 => ∃ z, x = .str z ∧ WE X e σ H1 fun y H2 => ∃ p, ∃ ys : List Str, y = .ref p ∧ SqL X.K H2 p (ys.map V.str) ∧ (ys.map (·.length)).sum + ys.length * z.length ≤ 16777216 ∧ Q (.str (Txt.join z ys)) H2)
    (hs : starEach [e] X.env = [(false, eval e X.env)] := by rfl) (hbase : attributeBase a "join" X.env (eval a X.env) = eval a X.env := by rfl) (hline : (apos.endLine == cpos.line) = true := by rfl) : WE X (.Call (.Attribute a "join" apos) [e] [] cpos) σ H Q := by
  refine .of (pe_join (pe X a) (pe X e) hs hbase hline) ?_
  refine h.mono ?_
  rintro x H1 ⟨z, rfl, q⟩
  refine ⟨⟨z, rfl⟩, q.mono ?_⟩
  rintro y H2 ⟨p, ys, rfl, h1, h2, q⟩
  exact ⟨z, p, ys, rfl, rfl, .inl h1, h2, q⟩
theorem w_get2 {f : Expr} (hu : X.A.units + 1 < cLine) (h : WE X a σ H fun x H1 => ∃ l, x = .ref l ∧ IsD H1 l ∧ WE X e σ H1 fun y H2 => WE X f σ H2 fun z H3 => ∃ o, DGet H3 l y o ∧ Q (o.getD z) H3) (m : M2 X a "get" apos e f cpos := by exact ⟨rfl, rfl, rfl, rfl⟩) :
    WE X (.Call (.Attribute a "get" apos) [e, f] [] cpos) σ H Q := .of (pe_dget2 hu (pe X a) (pe X e) (pe X f) m) h
end
end LM
namespace LM
open PySem PySem.Spec PyProof.Rows L2
section
variable {X : Cx} {N L Vs G : List Str} {e a b c d tg iter elt : Expr} {es : List Expr} {σ : L2.St} {H : Hp} {Q : VK} {pos p apos cpos : Pos} {x : Str} {v : V} {D : Ends} {body : List Stmt}
/-! ### what is walked -/
def WI1 (X : Cx) (tg iter : Expr) (σ : L2.St) (H : Hp) (R : It → Hp → Prop) : Prop :=
  ∀ (pins : List (Addr × Obj)) (s : Shared), Inv X pins σ H s → wpAny (model X.prog X.w) X.A (eval iter X.env) (fun v s1 => wpAny (model X.prog X.w) X.A (pyIter v) (PIE X pins σ tg R) X.xe s1) X.xe s
theorem pi1 (X : Cx) (tg iter : Expr) : PI X tg iter (WI1 X tg iter) := ⟨fun pins s σ H R I h => h pins s I⟩
variable {R : It → Hp → Prop}
theorem wi_list (h : WE X e σ H fun v H1 => ∃ a xs, v = .ref a ∧ SqL X.K H1 a xs ∧ R (Itl X.K a) H1) : WI1 X tg e σ H R := fun pins s I =>
  (pi_list (pe X e)).run pins s σ H R I (h.mono fun v H1 ⟨a, xs, e, q, r⟩ => ⟨a, e, ⟨xs, q⟩, r⟩)
theorem wi_tup (h : WE X e σ H fun v H1 => ∃ a xs, v = .ref a ∧ SqT X.K H1 a xs ∧ R (Itt X.K a) H1) : WI1 X tg e σ H R := fun pins s I =>
  (pi_tup (pe X e)).run pins s σ H R I (h.mono fun v H1 ⟨a, xs, e, q, r⟩ => ⟨a, e, ⟨xs, q⟩, r⟩)
theorem wi_str (h : WE X e σ H fun v H1 => ∃ z, v = .str z ∧ R (Its z) H1) : WI1 X tg e σ H R := fun pins s I => (pi_str (pe X e)).run pins s σ H R I h
theorem wi_range (C : Fr X N L Vs G) (hx : ("range" : Str) ∈ G) (hm : X.mg "range" = none) (h : WE X e σ H fun v H1 => ∃ j : Int, v = .int j ∧ -(2 ^ 62) ≤ j ∧ j < 2 ^ 62 ∧ R (Itr 0 j.toNat) H1) (hs : starEach [e] X.env = [(false, eval e X.env)] := by rfl) :
    WI1 X tg (.Call (.Name "range" p) [e] [] pos) σ H R := fun pins s I =>
  (pi_range1 (C.gl _ hx) hm (pa X [e]) hs).run pins s σ H R I (a_cons (h.mono fun v H1 ⟨j, e, q⟩ => a_nil ⟨j, by rw [e], q⟩) hs)

/-! ### for -/
def gPut (N : List Str) (x : Str) : TG := fun v σ H Q => ∃ σ', Put N σ x v σ' ∧ Q σ' H
theorem pg_put (C : Fr X N L Vs G) (hx : x ∈ L) : PG X (.Name x p) (gPut N x) := by
  have hl := C.loc x hx
  refine ⟨fun pins s σ H v u Q I r h => ?_⟩
  obtain ⟨σ', hp, q⟩ := h
  obtain ⟨i, h1, h2⟩ := hp.ix
  subst h2
  exact (pg_name (i := i) (by rw [C.n]; exact C.nd) (by rw [C.n]; exact h1) hl.1 hl.2).run pins s σ H v u Q I r q
def ForL (X : Cx) (N : List Str) (x : Str) (body : List Stmt) (D : Ends) (J : It) (σ : L2.St) (H : Hp) : Prop := ∃ W : Nat → Nat → L2.St → Hp → Prop, (∃ m, W 0 m σ H) ∧ ∀ i m σ H, W i m σ H →
  (J.stop i H ∧ D.nx σ H) ∨ (J.go i H ∧ ∃ Nx : L2.St → Hp → Prop, (∀ σ' H', Nx σ' H' → ∃ m', m' < m ∧ W (i + 1) m' σ' H') ∧ ∀ y H', J.yld i H y H' → gPut N x y σ H' fun σ2 H2 => WSs X body { D with nx := Nx, ct := Nx, bk := D.nx } σ2 H2)
theorem s_for (C : Fr X N L Vs G) (hx : x ∈ L) (h : WI1 X (.Name x p) iter σ H fun J H1 => ForL X N x body D J σ H1) (hs : ∀ x, foldedSetIterable iter X.env x = pure x := by intro _; rfl) : WS X (.For (.Name x p) iter body [] pos) D σ H :=
  .of (ps_for (by rw [C.xe]; exact PassesOwn.never) C.calm (pi1 X _ iter) (pg_put C hx) (pss X body) hs) h
/-- a loop by its word Pv: turn, slots, heap -/
theorem for_w {J : It} {n : Nat} {Gd : Hp → Prop} {f : Nat → V → Prop} (w : Walk J n Gd (fun i H x H' => H' = H ∧ f i x)) (Pv : Nat → L2.St → Hp → Prop) (h0 : Pv 0 σ H) (hG : ∀ i σ H, i ≤ n → Pv i σ H → Gd H)
    (hs : ∀ i y σ H, i < n → f i y → Pv i σ H → ∃ σ', Put N σ x y σ' ∧ WSs X body { D with nx := Pv (i + 1), ct := Pv (i + 1), bk := D.nx } σ' H) (hd : ∀ σ H, Pv n σ H → D.nx σ H) : ForL X N x body D J σ H :=
  for_it w Pv h0 hG (fun i y σ H H' hi p ⟨e, hy⟩ => by subst e; exact hs i y σ _ hi hy p) hd
theorem for_l {l : Addr} {xs : List V} (Pv : Nat → L2.St → Hp → Prop) (h0 : Pv 0 σ H) (hl : ∀ i σ H, i ≤ xs.length → Pv i σ H → SqL X.K H l xs)
    (hs : ∀ i y σ H, xs[i]? = some y → Pv i σ H → ∃ σ', Put N σ x y σ' ∧ WSs X body { D with nx := Pv (i + 1), ct := Pv (i + 1), bk := D.nx } σ' H) (hd : ∀ σ H, Pv xs.length σ H → D.nx σ H) : ForL X N x body D (Itl X.K l) σ H :=
  for_w (walk_list (xs := xs)) Pv h0 hl (fun i y σ H _ hy p => hs i y σ H hy p) hd
theorem for_t {l : Addr} {xs : List V} (Pv : Nat → L2.St → Hp → Prop) (h0 : Pv 0 σ H) (hl : ∀ i σ H, i ≤ xs.length → Pv i σ H → SqT X.K H l xs)
    (hs : ∀ i y σ H, xs[i]? = some y → Pv i σ H → ∃ σ', Put N σ x y σ' ∧ WSs X body { D with nx := Pv (i + 1), ct := Pv (i + 1), bk := D.nx } σ' H) (hd : ∀ σ H, Pv xs.length σ H → D.nx σ H) : ForL X N x body D (Itt X.K l) σ H :=
  for_w (walk_tup (xs := xs)) Pv h0 hl (fun i y σ H _ hy p => hs i y σ H hy p) hd
theorem for_r {n : Nat} (Pv : Nat → L2.St → Hp → Prop) (h0 : Pv 0 σ H)
    (hs : ∀ (i : Nat) σ H, i < n → Pv i σ H → ∃ σ', Put N σ x (.int i) σ' ∧ WSs X body { D with nx := Pv (i + 1), ct := Pv (i + 1), bk := D.nx } σ' H) (hd : ∀ σ H, Pv n σ H → D.nx σ H) : ForL X N x body D (Itr 0 n) σ H :=
  for_w (f := fun i v => v = .int (0 + i)) (walk_range (lo := 0) (n := n)) Pv h0 (fun _ _ _ _ _ => trivial) (fun i y σ H hi hy p => by
    subst hy
    have := hs i σ H hi p
    rw [Int.zero_add]
    exact this) hd

/-- for x in d, over a dict's keys: the dict is locked meanwhile -/
def lockE (d : Addr) (u : HO) (od : Obj) (D : Ends) : Ends := ⟨fun σ' H' => H' d = some (.frz od u) ∧ D.nx σ' (upd H' d u), fun v H' => H' d = some (.frz od u) ∧ D.rt v (upd H' d u), fun σ' H' => H' d = some (.frz od u) ∧ D.bk σ' (upd H' d u), fun σ' H' => H' d = some (.frz od u) ∧ D.ct σ' (upd H' d u)⟩
theorem s_forK {l : Addr} {kvs : List (Key × V)} (C : Fr X N L Vs G) (hx : x ∈ L) (hl : H l = some (.dK kvs)) (Pv : Obj → Nat → L2.St → Hp → Prop)
    (h : ∀ od, WE X e σ (upd H l (.frz od (.dK kvs))) fun v H1 => v = .ref l ∧ Pv od 0 σ H1)
    (hG : ∀ od i σ H, i ≤ kvs.length → Pv od i σ H → H l = some (.frz od (.dK kvs)))
    (hs : ∀ od (i : Nat) k v σ H, kvs[i]? = some (k, v) → Pv od i σ H → ∃ σ', Put N σ x (kV k) σ' ∧ WSs X body { lockE l (.dK kvs) od D with nx := Pv od (i + 1), ct := Pv od (i + 1), bk := (lockE l (.dK kvs) od D).nx } σ' H)
    (hd : ∀ od σ H, Pv od kvs.length σ H → D.nx σ (upd H l (.dK kvs)))
    (hf : ∀ x, foldedSetIterable e X.env x = pure x := by intro _; rfl) : WS X (.For (.Name x p) e body [] pos) D σ H := by
  refine .of (ps_lock (ps_for (by rw [C.xe]; exact PassesOwn.never) C.calm (pi_keys (pe X e)) (pg_put C hx) (pss X body) hf)) ?_
  refine ⟨l, _, hl, trivial, fun od => ?_⟩
  refine (h od).mono ?_
  rintro v H1 ⟨rfl, p0⟩
  refine ⟨l, od, rfl, .inl ⟨kvs, hG od 0 σ H1 (Nat.zero_le _) p0, ?_⟩⟩
  exact for_it (D := lockE l (.dK kvs) od D) (walk_keys (kvs := kvs)) (Pv od) p0 (hG od) (fun i y σ H H' hi p ⟨e, k, v, h1, h2⟩ => by subst e; subst h2; exact hs od i k v σ _ h1 p) fun σ H p => ⟨hG od _ σ H (Nat.le_refl _) p, hd od σ H p⟩
/-- a statement with a word between it and what follows -/
theorem s_cut {st : Stmt} {sts : List Stmt} (Mid : L2.St → Hp → Prop) (h1 : WS X st { D with nx := Mid } σ H) (h2 : ∀ σ H, Mid σ H → WSs X sts D σ H) : WSs X (st :: sts) D σ H := s_cons (fun pins s I => thn (h1 pins s I) fun f s' q => by
  cases f with
  | next => obtain ⟨σ', H', J, q⟩ := q; exact ⟨σ', H', J, h2 σ' H' q⟩
  | brk => exact q
  | cont => exact q
  | ret u => exact q)
/-! ### while -/
theorem s_while (C : Fr X N L Vs G) (Pv : L2.St → Hp → Prop) (μ : L2.St → Hp → Nat) (h0 : Pv σ H)
    (hs : ∀ σ H, Pv σ H → WT X c σ H fun k H1 => if k = true then WSs X body { D with nx := fun σ' H' => Pv σ' H' ∧ μ σ' H' < μ σ H, ct := fun σ' H' => Pv σ' H' ∧ μ σ' H' < μ σ H, bk := D.nx } σ H1 else D.nx σ H1) : WS X (.While c body [] pos) D σ H :=
  .of (ps_while (by rw [C.xe]; exact PassesOwn.never) (pt X c) (pss X body)) (while_by Pv μ h0 hs fun σ H Q Q' h w => w.mono h)

/-! ### blocks of comprehensions -/
theorem lookup_mapk {g : Str → NameKind → NameKind} {x : Str} : ∀ l : List (Str × NameKind), (l.map fun (n, k) => (n, g n k)).lookup x = (l.lookup x).map (g x)
  | [] => rfl
  | (n, k) :: r => by
    rw [List.map_cons, List.lookup_cons, List.lookup_cons]
    by_cases h : x = n
    · subst h; simp
    · have e : (x == n) = false := by simpa using h
      rw [e]
      exact lookup_mapk r
def blB (sc : Scope) (L Vs G : List Str) : Bool := L.all (fun x => match sc.names.lookup x with | some .local => true | _ => false)
  && Vs.all (fun x => match sc.names.lookup x with | some .local => true | some .cell => true | some .free => true | _ => false)
  && G.all (fun x => match sc.names.lookup x with | some .globalImplicit => true | _ => false)
  && G.all fun x => !(x == ("__debug__" : Str)) && !(x == ("__classdict__" : Str)) && !decide (x = "__name__")
theorem Fr.noG (C : Fr X N L Vs G) : Fr X N L Vs [] := ⟨C.n, C.nd, C.vis, C.loc, fun _ h => (nomatch h), fun y hy => C.nodbg y (by rw [List.append_nil] at hy; exact List.mem_append_left _ hy), C.calm, C.xe⟩
/-- the block's own context -/
theorem Fr.blk {L' Vs' G' : List Str} (C : Fr X N L Vs G) {sc : Scope} (B : blB sc L' Vs' G' = true) (s : Shared) (H : Hp) (Cd : Addr) (cl : List (Str × Addr)) (fp : List Addr) : Fr (X.blk s H sc (compEnvC sc cl Cd X.env) fp) N L' Vs' G' := by
  unfold blB at B
  rw [Bool.and_eq_true, Bool.and_eq_true, Bool.and_eq_true, List.all_eq_true, List.all_eq_true, List.all_eq_true, List.all_eq_true] at B
  obtain ⟨B, Bd⟩ := B
  have key : ∀ x, (relabel sc X.env).names.lookup x = (sc.names.lookup x).map fun k => if (k == NameKind.free && X.env.scope.kind == ScopeKind.function && X.env.kindOf x == some NameKind.cell) then NameKind.cell else k := fun x => by
    have e : (relabel sc X.env).names = sc.names.map fun (n, k) => (n, (fun n k => if (k == NameKind.free && X.env.scope.kind == ScopeKind.function && X.env.kindOf n == some NameKind.cell) then NameKind.cell else k) n k) := by
      show (sc.names.map fun (n, k) => if (k == NameKind.free && X.env.scope.kind == ScopeKind.function && X.env.kindOf n == some NameKind.cell) then (n, NameKind.cell) else (n, k)) = _
      refine List.map_congr_left fun y _ => ?_
      obtain ⟨n, k⟩ := y
      show (if _ then _ else _) = (n, if _ then _ else _)
      split <;> rfl
    rw [e, lookup_mapk (g := fun n k => if (k == NameKind.free && X.env.scope.kind == ScopeKind.function && X.env.kindOf n == some NameKind.cell) then NameKind.cell else k)]
  refine ⟨C.n, C.nd, fun x hx => ?_, fun x hx => ?_, fun x hx => ?_, fun x hx => ?_, C.calm, rfl⟩
  · have q := B.1.2 x hx
    show (relabel sc X.env).names.lookup x = _ ∨ (relabel sc X.env).names.lookup x = _ ∨ (relabel sc X.env).names.lookup x = _
    rw [key x]
    split at q
    · rename_i e; rw [e]; exact .inl rfl
    · rename_i e; rw [e]; exact .inr (.inl rfl)
    · rename_i e; rw [e]
      show (some (if _ then _ else _) = _) ∨ (some (if _ then _ else _) = _) ∨ (some (if _ then _ else _) = _)
      split
      · exact .inr (.inl rfl)
      · exact .inr (.inr rfl)
    · cases q
  · have q := B.1.1 x hx
    have e : sc.names.lookup x = some .local := by split at q <;> first | assumption | cases q
    have e2 : (relabel sc X.env).names.lookup x = some .local := by rw [key x, e]; rfl
    exact ⟨.inl e2, .inr e2⟩
  · have q := B.2 x hx
    have e : sc.names.lookup x = some .globalImplicit := by split at q <;> first | assumption | cases q
    show (relabel sc X.env).names.lookup x = _
    rw [key x, e]
    rfl
  · rcases List.mem_append.mp hx with hx | hx
    · exact C.nodbg x (List.mem_append_left _ hx)
    · have q := Bd x hx
      rw [Bool.and_eq_true, Bool.and_eq_true, Bool.not_eq_true', Bool.not_eq_true', Bool.not_eq_true', decide_eq_false_iff_not] at q
      exact ⟨q.1.1, q.1.2, q.2⟩
/-- within a block: at whatever state -/
def Blk (X : Cx) (sc : Scope) (Y : Cx) : Prop := ∃ s H C cl fp, Y = X.blk s H sc (compEnvC sc cl C X.env) fp
theorem Blk.fr {Y : Cx} {sc : Scope} {L' Vs' G' : List Str} (h : Blk X sc Y) (C : Fr X N L Vs G) (B : blB sc L' Vs' G' = true) : Fr Y N L' Vs' G' := by
  obtain ⟨s, H, Cd, cl, fp, rfl⟩ := h
  exact C.blk B s H Cd cl fp
structure BlkEq (X Y : Cx) : Prop where
  prog : Y.prog = X.prog
  w : Y.w = X.w
  K : Y.K = X.K
  mg : Y.mg = X.mg
  base : Y.base = X.base
  A : Y.A = X.A
theorem Blk.eq {Y : Cx} {sc : Scope} (h : Blk X sc Y) : BlkEq X Y := by
  obtain ⟨s, H, Cd, cl, fp, rfl⟩ := h
  exact ⟨rfl, rfl, rfl, rfl, rfl, rfl⟩
/-- a slot is emptied -/
inductive Wip : List Str → L2.St → Str → L2.St → Prop where
  | here {x : Str} {l : List Str} {o : Option V} {σ : L2.St} : Wip (x :: l) (o :: σ) x (none :: σ)
  | there {x y : Str} {l : List Str} {o : Option V} {σ σ' : L2.St} (h : Wip l σ x σ') : Wip (y :: l) (o :: σ) x (o :: σ')
theorem Wip.ix {l : List Str} {σ σ' : L2.St} {x : Str} (h : Wip l σ x σ') : ∃ i : Nat, l[i]? = some x ∧ σ' = σ.set i none := by
  induction h with
  | here => exact ⟨0, rfl, rfl⟩
  | there _ ih => obtain ⟨i, h1, h2⟩ := ih; exact ⟨i + 1, by simpa using h1, by simp [h2]⟩
def LcL (X : Cx) (N : List Str) (sc : Scope) (x : Str) (elt : Expr) (Q : VK) (J : It) (σ : L2.St) (H1 : Hp) : Prop := ∀ Dl, H1 Dl = none → ∃ W : Nat → Nat → Hp → Prop, (∃ m, W 0 m (upd H1 Dl (.lst []))) ∧ ∀ i m H, W i m H →
  (J.stop i H ∧ Q (.ref Dl) H) ∨ (J.go i H ∧ ∃ Nx : Hp → Prop, (∀ H', Nx H' → ∃ m', m' < m ∧ W (i + 1) m' H') ∧ ∀ y H', J.yld i H y H' → ∃ σ2, Put N σ x y σ2 ∧ ∀ Y, Blk X sc Y →
    WE Y elt σ2 H' fun z H4 => ∃ acc, H4 Dl = some (.lst acc) ∧ acc.length < sizeLine ∧ Nx (upd H4 Dl (.lst (acc ++ [z]))))
/-- [elt for x in iter]: σ' is σ without the block's own name -/
theorem w_lc {sc : Scope} {i : Nat} {σ' : L2.St} (C : Fr X N L Vs G) (B : blB sc [x] [] [] = true) (ok : BlkOk N X.env.scope sc [(x, i)]) (hi : N[i]? = some x) (hw : Wip N σ x σ') (h : WI1 X (.Name x p) iter σ H fun J H1 => LcL X N sc x elt Q J σ' H1)
    (hs : ∀ x, foldedSetIterable iter X.env x = pure x := by intro _; rfl) : WE X (.ListComp elt [⟨.Name x p, iter, [], 0⟩] sc pos) σ H Q := by
  obtain ⟨i', hi', rfl⟩ := hw.ix
  obtain rfl : i = i' := nodup_ix C.nd hi hi'
  refine .of (pe_lc (own := [(x, i)]) (g := fun v σ0 H Q => gName i v σ0 H Q) (tt := tYes) (te := fun σ H Q => ∀ Y, Blk X sc Y → WE Y elt σ H Q) C.calm (by rw [C.n]; exact C.nd) (pi1 X _ iter) (by rw [C.n]; exact ok) (fun s H Cd cl fp => ?_) (fun s H Cd cl fp => pts_nil) (fun s H Cd cl fp => ?_) hs) ?_
  · have F : Fr (X.blk s H sc (compEnvC sc cl Cd X.env) fp) N [x] [] [] := Fr.blk C.noG B s H Cd cl fp
    have hl := F.loc x List.mem_cons_self
    exact pg_name (by rw [F.n]; exact C.nd) (by rw [F.n]; exact hi) hl.1 hl.2
  · exact ⟨fun pins s' σ0 H0 Q0 I q => q _ ⟨s, H, Cd, cl, fp, rfl⟩ pins s' I⟩
  · intro pins s I
    refine thn (h pins s I) fun v s1 h1 => thn h1 fun itv s2 h2 => ?_
    obtain ⟨it, fp, tn, J, H2, e, I2, T, st2, f2, l⟩ := h2
    refine ⟨it, fp, tn, J, H2, e, I2, T, st2, f2, fun Dl hD => ?_⟩
    obtain ⟨W, w0, wt⟩ := l Dl hD
    refine ⟨W, w0, fun j m H hw => ?_⟩
    rcases wt j m H hw with q | ⟨q1, Nx, q2, q3⟩
    · exact .inl q
    · refine .inr ⟨q1, Nx, q2, fun y H' hy => ?_⟩
      obtain ⟨σ2, hp, q⟩ := q3 y H' hy
      obtain ⟨k, h1, h2⟩ := hp.ix
      have e : i = k := nodup_ix C.nd hi h1
      subst e
      subst h2
      show wipe ((wipe σ [i]).set i (some y)) [i] = wipe σ [i] ∧ _
      refine ⟨by unfold wipe; simp [wipe], ?_⟩
      show (if true = true then (∀ Y, Blk X sc Y → WE Y elt ((List.set σ i none).set i (some y)) H' fun z H4 => ∃ acc, H4 Dl = some (HO.lst acc) ∧ acc.length < sizeLine ∧ Nx (upd H4 Dl (HO.lst (acc ++ [z])))) else Nx H')
      rw [if_pos rfl]
      exact q
/-- .. by its word -/
theorem lc_w {sc : Scope} {J : It} {n : Nat} {Gd : Hp → Prop} {f : Nat → V → Prop} (w : Walk J n Gd (fun i H x H' => H' = H ∧ f i x)) (Pv : Addr → Nat → Hp → Prop) (h0 : ∀ Dl, H Dl = none → Pv Dl 0 (upd H Dl (.lst []))) (hG : ∀ Dl i H', H Dl = none → i ≤ n → Pv Dl i H' → Gd H')
    (hs : ∀ Dl i y H', H Dl = none → i < n → f i y → Pv Dl i H' → ∃ σ2, Put N σ x y σ2 ∧ ∀ Y, Blk X sc Y → WE Y elt σ2 H' fun z H4 => ∃ acc, H4 Dl = some (.lst acc) ∧ acc.length < sizeLine ∧ Pv Dl (i + 1) (upd H4 Dl (.lst (acc ++ [z]))))
    (hd : ∀ Dl H', H Dl = none → Pv Dl n H' → Q (.ref Dl) H') : LcL X N sc x elt Q J σ H := fun Dl hD => by
  refine ⟨fun i m H => m = n - i ∧ i ≤ n ∧ Pv Dl i H, ⟨n, by simp, Nat.zero_le _, h0 Dl hD⟩, ?_⟩
  rintro i m H' ⟨rfl, hi, p⟩
  have q := hG Dl i H' hD hi p
  by_cases hlt : i < n
  · refine .inr ⟨w.goes i H' hlt q, Pv Dl (i + 1), fun H' p' => ⟨n - (i + 1), by omega, rfl, hlt, p'⟩, fun y H2 hy => ?_⟩
    obtain ⟨e, hf⟩ := w.yields i H' y H2 hlt q hy
    subst e
    exact hs Dl i y _ hD hlt hf p
  · have e : i = n := by omega
    subst e
    exact .inl ⟨w.stops H' q, hd Dl H' hD p⟩
/-- all that was known stays where an object that wasn't known changes -/
theorem Same.mut {H H' : Hp} {q : Addr} {o : HO} (e : Same H H') (h : H q = none) : Same H (upd H' q o) := fun b u r => by
  rw [upd_ne (ne_of_none r h)]; exact e b u r
/-- the elements are values that don't hang on the heap: the list of them -/
theorem lc_vals {sc : Scope} {J : It} {n : Nat} {Gd : Hp → Prop} {f : Nat → V → Prop} (w : Walk J n Gd (fun i H x H' => H' = H ∧ f i x)) (g : Nat → V) (hn : n < 1000000) (hG : ∀ H', Same H H' → Gd H')
    (hs : ∀ i y H', i < n → f i y → Same H H' → ∃ σ2, Put N σ x y σ2 ∧ ∀ Y, Blk X sc Y → WE Y elt σ2 H' fun z H4 => Same H' H4 ∧ z = g i)
    (hd : ∀ l H', H l = none → Same H H' → H' l = some (.lst ((List.range n).map g)) → Q (.ref l) H') : LcL X N sc x elt Q J σ H := by
  refine lc_w w (fun Dl i H' => Same H H' ∧ H' Dl = some (.lst ((List.range i).map g)) ∧ i ≤ n) (fun Dl hD => ⟨same_new hD, upd_same, Nat.zero_le _⟩) (fun Dl i H' hD _ p => hG H' p.1) ?_ fun Dl H' hD p => hd Dl H' hD p.1 p.2.1
  rintro Dl i y H' hD hi hf ⟨p1, p2, p3⟩
  obtain ⟨σ2, hp, q⟩ := hs i y H' hi hf p1
  refine ⟨σ2, hp, fun Y hY => (q Y hY).mono ?_⟩
  rintro z H4 ⟨s4, rfl⟩
  refine ⟨(List.range i).map g, s4 _ _ p2, by rw [List.length_map, List.length_range]; exact szl (by omega), ?_⟩
  refine ⟨Same.mut (p1.trans s4) hD, ?_, hi⟩
  rw [upd_same, List.range_succ, List.map_append]
  rfl
end
end LM
namespace LM
open PySem PySem.Spec PyProof.Rows L2
theorem boot_max : bootBuiltins "max" = some (.builtin "max") := by decide +kernel
theorem boot_min : bootBuiltins "min" = some (.builtin "min") := by decide +kernel
theorem boot_all : bootBuiltins "all" = some (.builtin "all") := by decide +kernel
theorem boot_sum : bootBuiltins "sum" = some (.builtin "sum") := by decide +kernel
section
variable {X : Cx} {σ : L2.St} {H H' : Hp} {v : V} {A B : Prop} {p : Prop} [Decidable p]
theorem nx_mk {f b c : L2.St → Hp → Prop} {r : VK} (q : f σ H) : Ends.nx ⟨f, r, b, c⟩ σ H := q
theorem rt_mk {f b c : L2.St → Hp → Prop} {r : VK} (q : r v H) : Ends.rt ⟨f, r, b, c⟩ v H := q
theorem ite_dec (h1 : p → A) (h2 : ¬ p → B) : if decide p = true then A else B := by
  by_cases h : p
  · rw [decide_eq_true h, if_pos rfl]; exact h1 h
  · rw [decide_eq_false h, if_neg Bool.false_ne_true]; exact h2 h
theorem ite_ndec (h1 : ¬ p → A) (h2 : p → B) : if (!decide p) = true then A else B := by
  by_cases h : p
  · rw [decide_eq_true h]; exact h2 h
  · rw [decide_eq_false h]; exact h1 h
theorem ite_b {k : Bool} (h1 : k = true → A) (h2 : k = false → B) : if k = true then A else B := by
  cases k
  · exact h2 rfl
  · exact h1 rfl
theorem ite_nb {k : Bool} (h1 : k = false → A) (h2 : k = true → B) : if (!k) = true then A else B := by
  cases k
  · exact h1 rfl
  · exact h2 rfl
theorem ite_T (h : A) : if true = true then A else B := by rw [if_pos rfl]; exact h
theorem ite_F (h : B) : if false = true then A else B := by rw [if_neg Bool.false_ne_true]; exact h
theorem ite_nT (h : B) : if (!true) = true then A else B := h
theorem ite_nF (h : A) : if (!false) = true then A else B := h
theorem Same.at {H H' : Hp} {a : Addr} {o : HO} (e : Same H H') (h : H a = some o) : H' a = some o := e a o h
theorem Same.sqt {K : PySem.W.Frag} {H H' : Hp} {a : Addr} {xs : List V} (e : Same H H') (h : SqT K H a xs) : SqT K H' a xs := by
  rcases h with (h | ⟨o, h⟩) | h
  · exact .inl (.inl (e _ _ h))
  · exact .inl (.inr ⟨o, e _ _ h⟩)
  · exact .inr h
theorem Same.rd {H H' : Hp} {a : Addr} {u : HO} (e : Same H H') (h : Rd H a u) : Rd H' a u := by
  rcases h with h | ⟨o, h⟩
  · exact .inl (e _ _ h)
  · exact .inr ⟨o, e _ _ h⟩
theorem ex_put {N : List Str} {x : Str} {σ' : L2.St} {R : L2.St → Prop} (h : Put N σ x v σ') (q : R σ') : ∃ σ', Put N σ x v σ' ∧ R σ' := ⟨σ', h, q⟩
theorem ex_len {n : Nat} {R : Prop} (h : Nat.ble n 1000000 = true) (q : R) : n ≤ sizeLine ∧ R := ⟨sz (Nat.le_of_ble_eq_true h), q⟩
theorem noSl_str {z : Str} {j} {pos : Pos} : NoSl (.Constant (.str z) j pos) := fun _ _ => rfl
theorem x_str {s : Str} {R : Str → Prop} (q : R s) : ∃ z, V.str s = .str z ∧ R z := ⟨s, rfl, q⟩
theorem x_sq {K : PySem.W.Frag} {p : Addr} {xs : List V} {R : Addr → Prop} (h : SqL K H p xs) (q : R p) : ∃ l xs, V.ref p = .ref l ∧ SqL K H l xs ∧ R l := ⟨p, xs, rfl, h, q⟩
theorem x_app {l : Addr} {xs : List V} {R : List V → Prop} (h : H l = some (.lst xs)) (hl : xs.length < 1000000) (q : R xs) : ∃ xs, H l = some (.lst xs) ∧ xs.length < sizeLine ∧ R xs := ⟨xs, h, szl hl, q⟩
theorem ite_lenT {xs : List V} {i : Int} (h : Int.ofNat xs.length = i) (q : A) : if decide ((xs.length : Int) = i) = true then A else B := by
  rw [decide_eq_true (show (xs.length : Int) = i from h), if_pos rfl]
  exact q
theorem ite_lenF {xs : List V} {i : Int} (h : decide (Int.ofNat xs.length = i) = false) (q : B) : if decide ((xs.length : Int) = i) = true then A else B := by
  rw [decide_eq_false (show ¬ (xs.length : Int) = i from of_decide_eq_false h), if_neg Bool.false_ne_true]
  exact q
theorem ite_nlT {xs : List V} {i : Int} (h : decide (Int.ofNat xs.length = i) = false) (q : A) : if (!decide ((xs.length : Int) = i)) = true then A else B := by
  rw [decide_eq_false (show ¬ (xs.length : Int) = i from of_decide_eq_false h)]
  exact q
theorem ite_nlF {xs : List V} {i : Int} (h : Int.ofNat xs.length = i) (q : B) : if (!decide ((xs.length : Int) = i)) = true then A else B := by
  rw [decide_eq_true (show (xs.length : Int) = i from h)]
  exact q
theorem sq_all {K : PySem.W.Frag} {a : Addr} {xs : List V} (h : ∀ H, SqT K H a xs) : SqT K H a xs := h H
theorem ty_all : True := trivial
theorem x_st {K : PySem.W.Frag} {p : Addr} {xs : List V} {R : Addr → Prop} (h : SqT K H p xs) (q : R p) : ∃ l xs, V.ref p = .ref l ∧ SqT K H l xs ∧ R l := ⟨p, xs, rfl, h, q⟩
theorem ite_bT {b : Bool} (h : b = true) (q : A) : if b = true then A else B := by rw [if_pos h]; exact q
theorem ite_bF {b : Bool} (h : b = false) (q : B) : if b = true then A else B := by rw [h, if_neg Bool.false_ne_true]; exact q
end
theorem tyx_lst {K : PySem.W.Frag} {H : Hp} {a : Addr} {xs : List V} (h : SqL K H a xs) : TyX K H (.ref a) (.type "list") := by
  rcases h with (h | ⟨o, h⟩) | ⟨o, its, n, h1, h2, _⟩
  · exact .base (.lst h)
  · exact .base (.frz h)
  · exact .kList h1 h2
theorem tyx_tup {K : PySem.W.Frag} {H : Hp} {a : Addr} {xs : List V} (h : SqT K H a xs) : TyX K H (.ref a) (.type "tuple") := by
  rcases h with (h | ⟨o, h⟩) | ⟨o, its, n, h1, h2, _⟩
  · exact .base (.tup h)
  · exact .fTuple h
  · exact .kTuple h1 h2
section
variable {X : Cx} {H : Hp} {Q : VK}
theorem ki_str_str {s : Str} (q : Q (.bl true) H) : WB1 X (.builtin "isinstance") [.str s, .ty "str"] H Q := k_isi (T := "str") (.base (.str s)) (by decide +kernel) q
theorem ki_str_int {s : Str} (q : Q (.bl false) H) : WB1 X (.builtin "isinstance") [.str s, .ty "int"] H Q := k_isi (T := "str") (.base (.str s)) (by decide +kernel) q
theorem ki_str_bool {s : Str} (q : Q (.bl false) H) : WB1 X (.builtin "isinstance") [.str s, .ty "bool"] H Q := k_isi (T := "str") (.base (.str s)) (by decide +kernel) q
theorem ki_str_list {s : Str} (q : Q (.bl false) H) : WB1 X (.builtin "isinstance") [.str s, .ty "list"] H Q := k_isi (T := "str") (.base (.str s)) (by decide +kernel) q
theorem ki_str_tuple {s : Str} (q : Q (.bl false) H) : WB1 X (.builtin "isinstance") [.str s, .ty "tuple"] H Q := k_isi (T := "str") (.base (.str s)) (by decide +kernel) q
theorem ki_str_dict {s : Str} (q : Q (.bl false) H) : WB1 X (.builtin "isinstance") [.str s, .ty "dict"] H Q := k_isi (T := "str") (.base (.str s)) (by decide +kernel) q
theorem ki_int_str {s : Int} (q : Q (.bl false) H) : WB1 X (.builtin "isinstance") [.int s, .ty "str"] H Q := k_isi (T := "int") (.base (.int s)) (by decide +kernel) q
theorem ki_int_int {s : Int} (q : Q (.bl true) H) : WB1 X (.builtin "isinstance") [.int s, .ty "int"] H Q := k_isi (T := "int") (.base (.int s)) (by decide +kernel) q
theorem ki_int_bool {s : Int} (q : Q (.bl false) H) : WB1 X (.builtin "isinstance") [.int s, .ty "bool"] H Q := k_isi (T := "int") (.base (.int s)) (by decide +kernel) q
theorem ki_int_list {s : Int} (q : Q (.bl false) H) : WB1 X (.builtin "isinstance") [.int s, .ty "list"] H Q := k_isi (T := "int") (.base (.int s)) (by decide +kernel) q
theorem ki_int_tuple {s : Int} (q : Q (.bl false) H) : WB1 X (.builtin "isinstance") [.int s, .ty "tuple"] H Q := k_isi (T := "int") (.base (.int s)) (by decide +kernel) q
theorem ki_int_dict {s : Int} (q : Q (.bl false) H) : WB1 X (.builtin "isinstance") [.int s, .ty "dict"] H Q := k_isi (T := "int") (.base (.int s)) (by decide +kernel) q
theorem ki_bool_str {s : Bool} (q : Q (.bl false) H) : WB1 X (.builtin "isinstance") [.bl s, .ty "str"] H Q := k_isi (T := "bool") (.base (.bl s)) (by decide +kernel) q
theorem ki_bool_int {s : Bool} (q : Q (.bl true) H) : WB1 X (.builtin "isinstance") [.bl s, .ty "int"] H Q := k_isi (T := "bool") (.base (.bl s)) (by decide +kernel) q
theorem ki_bool_bool {s : Bool} (q : Q (.bl true) H) : WB1 X (.builtin "isinstance") [.bl s, .ty "bool"] H Q := k_isi (T := "bool") (.base (.bl s)) (by decide +kernel) q
theorem ki_bool_list {s : Bool} (q : Q (.bl false) H) : WB1 X (.builtin "isinstance") [.bl s, .ty "list"] H Q := k_isi (T := "bool") (.base (.bl s)) (by decide +kernel) q
theorem ki_bool_tuple {s : Bool} (q : Q (.bl false) H) : WB1 X (.builtin "isinstance") [.bl s, .ty "tuple"] H Q := k_isi (T := "bool") (.base (.bl s)) (by decide +kernel) q
theorem ki_bool_dict {s : Bool} (q : Q (.bl false) H) : WB1 X (.builtin "isinstance") [.bl s, .ty "dict"] H Q := k_isi (T := "bool") (.base (.bl s)) (by decide +kernel) q
theorem ki_NoneType_str (q : Q (.bl false) H) : WB1 X (.builtin "isinstance") [.non, .ty "str"] H Q := k_isi (T := "NoneType") (.base .non) (by decide +kernel) q
theorem ki_NoneType_int (q : Q (.bl false) H) : WB1 X (.builtin "isinstance") [.non, .ty "int"] H Q := k_isi (T := "NoneType") (.base .non) (by decide +kernel) q
theorem ki_NoneType_bool (q : Q (.bl false) H) : WB1 X (.builtin "isinstance") [.non, .ty "bool"] H Q := k_isi (T := "NoneType") (.base .non) (by decide +kernel) q
theorem ki_NoneType_list (q : Q (.bl false) H) : WB1 X (.builtin "isinstance") [.non, .ty "list"] H Q := k_isi (T := "NoneType") (.base .non) (by decide +kernel) q
theorem ki_NoneType_tuple (q : Q (.bl false) H) : WB1 X (.builtin "isinstance") [.non, .ty "tuple"] H Q := k_isi (T := "NoneType") (.base .non) (by decide +kernel) q
theorem ki_NoneType_dict (q : Q (.bl false) H) : WB1 X (.builtin "isinstance") [.non, .ty "dict"] H Q := k_isi (T := "NoneType") (.base .non) (by decide +kernel) q
theorem ki_list_str {p : Addr} {xs : List V} (h : SqL X.K H p xs) (q : Q (.bl false) H) : WB1 X (.builtin "isinstance") [.ref p, .ty "str"] H Q := k_isi (T := "list") (tyx_lst h) (by decide +kernel) q
theorem ki_list_int {p : Addr} {xs : List V} (h : SqL X.K H p xs) (q : Q (.bl false) H) : WB1 X (.builtin "isinstance") [.ref p, .ty "int"] H Q := k_isi (T := "list") (tyx_lst h) (by decide +kernel) q
theorem ki_list_bool {p : Addr} {xs : List V} (h : SqL X.K H p xs) (q : Q (.bl false) H) : WB1 X (.builtin "isinstance") [.ref p, .ty "bool"] H Q := k_isi (T := "list") (tyx_lst h) (by decide +kernel) q
theorem ki_list_list {p : Addr} {xs : List V} (h : SqL X.K H p xs) (q : Q (.bl true) H) : WB1 X (.builtin "isinstance") [.ref p, .ty "list"] H Q := k_isi (T := "list") (tyx_lst h) (by decide +kernel) q
theorem ki_list_tuple {p : Addr} {xs : List V} (h : SqL X.K H p xs) (q : Q (.bl false) H) : WB1 X (.builtin "isinstance") [.ref p, .ty "tuple"] H Q := k_isi (T := "list") (tyx_lst h) (by decide +kernel) q
theorem ki_list_dict {p : Addr} {xs : List V} (h : SqL X.K H p xs) (q : Q (.bl false) H) : WB1 X (.builtin "isinstance") [.ref p, .ty "dict"] H Q := k_isi (T := "list") (tyx_lst h) (by decide +kernel) q
theorem ki_tuple_str {p : Addr} {xs : List V} (h : SqT X.K H p xs) (q : Q (.bl false) H) : WB1 X (.builtin "isinstance") [.ref p, .ty "str"] H Q := k_isi (T := "tuple") (tyx_tup h) (by decide +kernel) q
theorem ki_tuple_int {p : Addr} {xs : List V} (h : SqT X.K H p xs) (q : Q (.bl false) H) : WB1 X (.builtin "isinstance") [.ref p, .ty "int"] H Q := k_isi (T := "tuple") (tyx_tup h) (by decide +kernel) q
theorem ki_tuple_bool {p : Addr} {xs : List V} (h : SqT X.K H p xs) (q : Q (.bl false) H) : WB1 X (.builtin "isinstance") [.ref p, .ty "bool"] H Q := k_isi (T := "tuple") (tyx_tup h) (by decide +kernel) q
theorem ki_tuple_list {p : Addr} {xs : List V} (h : SqT X.K H p xs) (q : Q (.bl false) H) : WB1 X (.builtin "isinstance") [.ref p, .ty "list"] H Q := k_isi (T := "tuple") (tyx_tup h) (by decide +kernel) q
theorem ki_tuple_tuple {p : Addr} {xs : List V} (h : SqT X.K H p xs) (q : Q (.bl true) H) : WB1 X (.builtin "isinstance") [.ref p, .ty "tuple"] H Q := k_isi (T := "tuple") (tyx_tup h) (by decide +kernel) q
theorem ki_tuple_dict {p : Addr} {xs : List V} (h : SqT X.K H p xs) (q : Q (.bl false) H) : WB1 X (.builtin "isinstance") [.ref p, .ty "dict"] H Q := k_isi (T := "tuple") (tyx_tup h) (by decide +kernel) q
theorem ki_dict_str {p : Addr} {kvs : List (Key × V)} (h : H p = some (.dK kvs)) (q : Q (.bl false) H) : WB1 X (.builtin "isinstance") [.ref p, .ty "str"] H Q := k_isi (T := "dict") (.base (.dK h)) (by decide +kernel) q
theorem ki_dict_int {p : Addr} {kvs : List (Key × V)} (h : H p = some (.dK kvs)) (q : Q (.bl false) H) : WB1 X (.builtin "isinstance") [.ref p, .ty "int"] H Q := k_isi (T := "dict") (.base (.dK h)) (by decide +kernel) q
theorem ki_dict_bool {p : Addr} {kvs : List (Key × V)} (h : H p = some (.dK kvs)) (q : Q (.bl false) H) : WB1 X (.builtin "isinstance") [.ref p, .ty "bool"] H Q := k_isi (T := "dict") (.base (.dK h)) (by decide +kernel) q
theorem ki_dict_list {p : Addr} {kvs : List (Key × V)} (h : H p = some (.dK kvs)) (q : Q (.bl false) H) : WB1 X (.builtin "isinstance") [.ref p, .ty "list"] H Q := k_isi (T := "dict") (.base (.dK h)) (by decide +kernel) q
theorem ki_dict_tuple {p : Addr} {kvs : List (Key × V)} (h : H p = some (.dK kvs)) (q : Q (.bl false) H) : WB1 X (.builtin "isinstance") [.ref p, .ty "tuple"] H Q := k_isi (T := "dict") (.base (.dK h)) (by decide +kernel) q
theorem ki_dict_dict {p : Addr} {kvs : List (Key × V)} (h : H p = some (.dK kvs)) (q : Q (.bl true) H) : WB1 X (.builtin "isinstance") [.ref p, .ty "dict"] H Q := k_isi (T := "dict") (.base (.dK h)) (by decide +kernel) q
end
end LM
namespace LM
open PySem PySem.Spec PyProof.Rows L2
/-! ### own classes: fields, methods, new instances -/
/-- the method m of the class at C stands as the text says -/
def MDef (K : PySem.W.Frag) (C : Addr) (m q : Str) (st : Stmt) (ps : List Str) : Prop := ∃ f fd, Fun K m q st f fd ∧ Meth K C m f ∧ Binds K fd ps []
def MOk (P : Program) (w : World) (K : PySem.W.Frag) (mg : Str → Option Value) (base : Heap) (k : Nat) (C : Addr) (m : Str) (ps : List Str) (sp : Sp) : Prop :=
  ∃ f fd, FnOk P w K mg base CX0 k f fd ps sp ∧ Meth K C m f ∧ Binds K fd ps []
theorem MDef.ok {P : Program} {w : World} {K : PySem.W.Frag} {mg : Str → Option Value} {base : Heap} {C : Addr} {m q : Str} {st : Stmt} {N L ps G : List Str} {k : Nat} {sp : Sp} (F : MDef K C m q st ps) (S : FnScope N ps (defScope st)) (B : scB (defScope st) N L G = true)
    (len : ∀ vs H Q E, sp vs H Q E → vs.length = ps.length)
    (hbody : ∀ X : Cx, X.prog = P → X.w = w → X.K = K → X.mg = mg → X.base = base → Fr X N L L G → X.env.scope = defScope st → Room k X.A → ∀ (vs : List V) (H : Hp) (Q : VK) (E : XK), sp vs H Q E → WSs X (defBody st) { nx := fun _ H' => Q .non H', rt := Q } (start N vs) H) :
    MOk P w K mg base (k + 1) C m ps sp := by
  obtain ⟨f, fd, F, M, b⟩ := F
  refine ⟨f, fd, ?_, M, b⟩
  refine F.ok S len fun cdv A outer s H vs Q E hr h => ?_
  refine ⟨_, pss _ _, hbody _ rfl rfl rfl rfl rfl ⟨rfl, S.nd, fun y hy => ?_, fun y hy => ?_, fun y hy => ?_, scB_nodbg B, rfl, rfl⟩ rfl hr vs H Q E h⟩
  · rcases scB_loc B y hy with q | q
    · exact .inl q
    · exact .inr (.inl q)
  · exact ⟨scB_loc B y hy, .inl rfl⟩
  · exact scB_gl B y hy
section
variable {X : Cx} {N L Vs G : List Str} {e o value : Expr} {es : List Expr} {σ : L2.St} {H : Hp} {Q : VK} {pos p apos pos' : Pos} {f x : Str} {C : Addr} {D : Ends}
theorem w_fld (h : WE X e σ H fun x H1 => ∃ a C dx fs v, x = .ref a ∧ H1 a = some (.ins C dx fs) ∧ Cls X.K C ∧ NoAttr X.K C f ∧ fs.lookup f = some v ∧ Q v H1) (hb : attributeBase e f X.env (eval e X.env) = eval e X.env := by rfl) : WE X (.Attribute e f pos) σ H Q :=
  .of (pe_fld (pe X e) hb) h
theorem s_fld (h : WE X value σ H fun y H1 => WE X o σ H1 fun x H2 => ∃ a C dx fs, x = .ref a ∧ H2 a = some (.ins C dx fs) ∧ Cls X.K C ∧ NoAttr X.K C f ∧ fs.length < 1000 ∧ D.nx σ (upd H2 a (.ins C dx (putF f y fs))))
    (hs : swapsWith value (some (.Attribute o f pos')) pos.line X.env = pure false := by rfl) : WS X (.Assign [.Attribute o f pos'] value pos) D σ H := .of (ps_fld (pe X o) (pe X value) hs) h
theorem w_meth {k k' : Nat} {m : Str} {ps : List Str} {sp : Sp} {pl : Sem Bool} (c : Cls X.K C) (F : MOk X.prog X.w X.K X.mg X.base k C m ps sp) (hr : Room k' X.A) (hk : k ≤ k')
    (h : WE X o σ H fun x H1 => ∃ a dx fs, x = .ref a ∧ H1 a = some (.ins C dx fs) ∧ fs.lookup m = none ∧ WA X (e :: es) σ H1 fun vs H2 => sp (x :: vs) H2 Q E0)
    (hst : starEach (e :: es) X.env = (false, eval e X.env) :: starEach es X.env := by rfl) (hpl : (backTo pos (starEach es X.env)).any (·.1) = false := by rfl)
    (ht : eval (.Call (.Attribute o m apos) (e :: es) [] pos) X.env = (do
      let ov ← eval o X.env
      standAt apos.atName
      let (f, first) ← holding [ov] (getMethod ov m pl)
      callWith pos f first (backTo pos (starEach (e :: es) X.env)) (backToKw pos (keywordEach [] X.env))) := by rfl) : WE X (.Call (.Attribute o m apos) (e :: es) [] pos) σ H Q := by
  obtain ⟨g, fd, F, M, b⟩ := F
  refine .of (pe_meth (pl := pl) (pe X o) c M F (hr.mono hk) b .nil pass0 (pa X (e :: es)) hst hpl ht) ?_
  refine h.mono fun x H1 ⟨a, dx, fs, e1, e2, e3, q⟩ => ⟨a, dx, fs, e1, e2, e3, fun pos pins s I => thn (q pos pins s I) fun us s1 ⟨vs, H2, I2, r, z⟩ => ⟨vs, H2, I2, r, (by show sp (x :: (vs ++ [])) H2 Q E0; rw [List.append_nil]; exact z)⟩⟩
theorem w_meth0 {k k' : Nat} {m : Str} {ps : List Str} {sp : Sp} {pl : Sem Bool} (c : Cls X.K C) (F : MOk X.prog X.w X.K X.mg X.base k C m ps sp) (hr : Room k' X.A) (hk : k ≤ k')
    (h : WE X o σ H fun x H1 => ∃ a dx fs, x = .ref a ∧ H1 a = some (.ins C dx fs) ∧ fs.lookup m = none ∧ sp [x] H1 Q E0)
    (ht : eval (.Call (.Attribute o m apos) [] [] pos) X.env = (do
      let ov ← eval o X.env
      standAt apos.atName
      let (f, first) ← holding [ov] (getMethod ov m pl)
      callWith pos f first (backTo pos (starEach [] X.env)) (backToKw pos (keywordEach [] X.env))) := by rfl) : WE X (.Call (.Attribute o m apos) [] [] pos) σ H Q := by
  obtain ⟨g, fd, F, M, b⟩ := F
  refine .of (pe_meth0 (pl := pl) (pe X o) c M F (hr.mono hk) b .nil pass0 ht) ?_
  exact h.mono fun x H1 ⟨a, dx, fs, e1, e2, e3, q⟩ => ⟨a, dx, fs, e1, e2, e3, q⟩
theorem w_make {k k' : Nat} {ps : List Str} {sp : Sp} (Cx : Fr X N L Vs G) (F : MOk X.prog X.w X.K X.mg X.base k C "__init__" ps sp) (mk : PySem.W.makesIn X.K C = true) (kc : PySem.W.keepIn X.K (.ref C) = true) (hr : Room k' X.A) (hk : k + 1 ≤ k') (hx : x ∈ G) (hm : X.mg x = some (.ref C))
    (h : WA X (e :: es) σ H fun vs H1 => ∀ x dx, H1 x = none → H1 dx = none → dx ≠ x → sp (.ref x :: vs) (upd (upd H1 dx (.own x)) x (.ins C dx [])) (fun v H2 => v = .non ∧ Q (.ref x) H2) E0)
    (he : starEach (e :: es) X.env = (false, eval e X.env) :: starEach es X.env := by rfl) (hpl : (backTo pos (starEach es X.env)).any (·.1) = false := by rfl) : WE X (.Call (.Name x p) (e :: es) [] pos) σ H Q := by
  obtain ⟨g, fd, F, M, b⟩ := F
  refine .of (pe_make (dvs := []) (ds := []) ⟨mk, M.at_, M.fn, kc⟩ F (hr.mono hk) (Cx.gl x hx) hm b .nil pass0 (pa X (e :: es)) (Cx.nodbg x (List.mem_append_right _ hx)).1 he hpl) ?_
  exact fun pos pins s I => thn (h pos pins s I) fun us s1 ⟨vs, H2, I2, r, z⟩ => ⟨vs, H2, I2, r, fun y dx a1 a2 a3 => (by rw [List.append_nil]; exact z y dx a1 a2 a3)⟩
end
end LM
namespace LM
open PySem PySem.Spec PyProof.Rows L2
/-! ### programs as data, and as they lie in the heap -/
inductive Kd where
  | whn | lop | agn
  deriving DecidableEq, Repr
def Kd.nm : Kd → Str
  | .whn => "when"
  | .lop => "loop"
  | .agn => "again"
theorem in_blocks (kd : Kd) : inV (.str kd.nm) [.str "when", .str "loop", .str "again"] = true := by cases kd <;> decide +kernel
theorem kd_let (kd : Kd) : decide (kd.nm = ("let" : Str)) = false := by cases kd <;> decide +kernel
theorem kd_say (kd : Kd) : decide (kd.nm = ("say" : Str)) = false := by cases kd <;> decide +kernel
inductive Sg where
  | add | sub | mul | lss | div
  deriving DecidableEq, Repr
def Sg.nm : Sg → Str
  | .add => "+"
  | .sub => "-"
  | .mul => "*"
  | .lss => "<"
  | .div => "/"
inductive Row where
  | lt (to : Str) (sg : Sg) (one other : Key)
  | say (one : Key)
  | blk (kd : Kd) (test : Str) (rows : List Row)
mutual
def Row.dep : Row → Nat
  | .lt _ _ _ _ => 0
  | .say _ => 0
  | .blk _ _ rs => deps rs + 1
def deps : List Row → Nat
  | [] => 0
  | r :: rs => max r.dep (deps rs)
end
mutual
/-- how many rows in all -/
def Row.cnt : Row → Nat
  | .lt _ _ _ _ => 1
  | .say _ => 1
  | .blk _ _ rs => cnts rs + 1
def cnts : List Row → Nat
  | [] => 0
  | r :: rs => r.cnt + cnts rs
end
theorem deps_mem {r : Row} : ∀ {rs : List Row}, r ∈ rs → r.dep ≤ deps rs
  | [], h => nomatch h
  | s :: rs, h => by
    rw [deps]
    rcases List.mem_cons.mp h with rfl | h
    · exact Nat.le_max_left _ _
    · exact Nat.le_trans (deps_mem h) (Nat.le_max_right _ _)
theorem deps_append : ∀ (rs ss : List Row), deps (rs ++ ss) = max (deps rs) (deps ss)
  | [], ss => by simp [deps]
  | r :: rs, ss => by rw [List.cons_append, deps, deps, deps_append rs ss, Nat.max_assoc]
theorem cnts_append : ∀ (rs ss : List Row), cnts (rs ++ ss) = cnts rs + cnts ss
  | [], ss => by simp [cnts]
  | r :: rs, ss => by rw [List.cons_append, cnts, cnts, cnts_append rs ss, Nat.add_assoc]
theorem cnt_pos (r : Row) : 1 ≤ r.cnt := by cases r <;> simp [Row.cnt]
theorem len_cnts : ∀ (rs : List Row), rs.length ≤ cnts rs
  | [] => Nat.le_refl _
  | r :: rs => by
    have := len_cnts rs
    have := cnt_pos r
    rw [cnts, List.length_cons]
    omega
theorem cnts_mem {r : Row} : ∀ {rs : List Row}, r ∈ rs → r.cnt ≤ cnts rs
  | [], h => nomatch h
  | s :: rs, h => by
    rw [cnts]
    rcases List.mem_cons.mp h with rfl | h
    · exact Nat.le_add_right _ _
    · exact Nat.le_trans (cnts_mem h) (Nat.le_add_left _ _)

mutual
inductive RowIn (H : Hp) : V → Row → List Addr → Prop
  | lt {t : Addr} {to : Str} {sg : Sg} {x y : Key} (h : H t = some (.tup [.str "let", .str to, .str sg.nm, kV x, kV y])) : RowIn H (.ref t) (.lt to sg x y) []
  | say {t : Addr} {x : Key} (h : H t = some (.tup [.str "say", kV x])) : RowIn H (.ref t) (.say x) []
  | blk {t a : Addr} {kd : Kd} {s : Str} {rs : List Row} {fp : List Addr} (h : H t = some (.tup [.str kd.nm, .str s, .ref a])) (hr : RowsIn H a rs fp) : RowIn H (.ref t) (.blk kd s rs) fp
/-- a list of rows stands at a; fp: the lists that it is made of, a first -/
inductive RowsIn (H : Hp) : Addr → List Row → List Addr → Prop
  | mk {a : Addr} {vs : List V} {rs : List Row} {fp : List Addr} (h : H a = some (.lst vs)) (ha : AllIn H vs rs fp) : RowsIn H a rs (a :: fp)
inductive AllIn (H : Hp) : List V → List Row → List Addr → Prop
  | nil : AllIn H [] [] []
  | cons {v : V} {vs : List V} {r : Row} {rs : List Row} {f g : List Addr} (h : RowIn H v r f) (ha : AllIn H vs rs g) : AllIn H (v :: vs) (r :: rs) (f ++ g)
end
/-- H' knows what stands in H but for lists away from fp -/
def Kept (fp : List Addr) (H H' : Hp) : Prop := (∀ t xs, H t = some (.tup xs) → H' t = some (.tup xs)) ∧ ∀ l ∈ fp, H' l = H l
theorem Kept.left {f g : List Addr} {H H' : Hp} (k : Kept (f ++ g) H H') : Kept f H H' := ⟨k.1, fun l h => k.2 l (List.mem_append_left _ h)⟩
theorem Kept.right {f g : List Addr} {H H' : Hp} (k : Kept (f ++ g) H H') : Kept g H H' := ⟨k.1, fun l h => k.2 l (List.mem_append_right _ h)⟩
theorem Kept.tail {a : Addr} {g : List Addr} {H H' : Hp} (k : Kept (a :: g) H H') : Kept g H H' := ⟨k.1, fun l h => k.2 l (List.mem_cons_of_mem _ h)⟩
mutual
theorem RowIn.keep {H H' : Hp} : ∀ {r : Row} {v : V} {fp : List Addr}, RowIn H v r fp → Kept fp H H' → RowIn H' v r fp
  | .lt _ _ _ _, _, _, .lt h, k => .lt (k.1 _ _ h)
  | .say _, _, _, .say h, k => .say (k.1 _ _ h)
  | .blk _ _ rs, _, _, .blk h hr, k => .blk (k.1 _ _ h) (RowsIn.keep (rs := rs) hr k)
theorem RowsIn.keep {H H' : Hp} : ∀ {rs : List Row} {a : Addr} {fp : List Addr}, RowsIn H a rs fp → Kept fp H H' → RowsIn H' a rs fp
  | rs, _, _, .mk h ha, k => .mk (by rw [k.2 _ List.mem_cons_self]; exact h) (AllIn.keep (rs := rs) ha k.tail)
theorem AllIn.keep {H H' : Hp} : ∀ {rs : List Row} {vs : List V} {fp : List Addr}, AllIn H vs rs fp → Kept fp H H' → AllIn H' vs rs fp
  | [], _, _, .nil, _ => .nil
  | r :: rs, _, _, .cons h ha, k => .cons (RowIn.keep (r := r) h k.left) (AllIn.keep (rs := rs) ha k.right)
end
mutual
/-- the lists stand -/
theorem RowIn.at {H : Hp} : ∀ {r : Row} {v : V} {fp : List Addr}, RowIn H v r fp → ∀ l ∈ fp, ∃ xs, H l = some (.lst xs)
  | .lt _ _ _ _, _, _, .lt _, l, hl => nomatch hl
  | .say _, _, _, .say _, l, hl => nomatch hl
  | .blk _ _ rs, _, _, .blk _ hr, l, hl => RowsIn.at (rs := rs) hr l hl
theorem RowsIn.at {H : Hp} : ∀ {rs : List Row} {a : Addr} {fp : List Addr}, RowsIn H a rs fp → ∀ l ∈ fp, ∃ xs, H l = some (.lst xs)
  | rs, _, _, .mk h ha, l, hl => by
    rcases List.mem_cons.mp hl with e | hl
    · exact ⟨_, e ▸ h⟩
    · exact AllIn.at (rs := rs) ha l hl
theorem AllIn.at {H : Hp} : ∀ {rs : List Row} {vs : List V} {fp : List Addr}, AllIn H vs rs fp → ∀ l ∈ fp, ∃ xs, H l = some (.lst xs)
  | [], _, _, .nil, l, hl => nomatch hl
  | r :: rs, _, _, .cons h ha, l, hl => by
    rcases List.mem_append.mp hl with hl | hl
    · exact RowIn.at (r := r) h l hl
    · exact AllIn.at (rs := rs) ha l hl
end
theorem Kept.same {fp : List Addr} {H H' : Hp} (e : Same H H') (h : ∀ l ∈ fp, ∃ xs, H l = some (.lst xs)) : Kept fp H H' :=
  ⟨fun t xs q => e t _ q, fun l hl => by obtain ⟨xs, q⟩ := h l hl; rw [q]; exact e l _ q⟩
/-- a list away from fp changes -/
theorem Kept.upd {fp : List Addr} {H : Hp} {l : Addr} {xs : List V} {o : HO} (h : H l = some (.lst xs)) (hl : l ∉ fp) : Kept fp H (L2.upd H l o) :=
  ⟨fun t ys q => by rw [upd_ne (ne_of q h fun z => nomatch z)]; exact q, fun m hm => upd_ne fun z => hl (z ▸ hm)⟩
theorem RowsIn.mono {H H' : Hp} {rs : List Row} {a : Addr} {fp : List Addr} (h : RowsIn H a rs fp) (e : Same H H') : RowsIn H' a rs fp := h.keep (.same e h.at)
theorem RowIn.mono {H H' : Hp} {r : Row} {v : V} {fp : List Addr} (h : RowIn H v r fp) (e : Same H H') : RowIn H' v r fp := h.keep (.same e h.at)
theorem AllIn.mono {H H' : Hp} {rs : List Row} {vs : List V} {fp : List Addr} (h : AllIn H vs rs fp) (e : Same H H') : AllIn H' vs rs fp := h.keep (.same e h.at)
theorem AllIn.len {H : Hp} : ∀ {rs : List Row} {vs : List V} {fp : List Addr}, AllIn H vs rs fp → vs.length = rs.length
  | [], _, _, .nil => rfl
  | r :: rs, _, _, .cons _ ha => by rw [List.length_cons, List.length_cons, AllIn.len ha]
theorem AllIn.get {H : Hp} : ∀ {rs : List Row} {vs : List V} {fp : List Addr} {i : Nat} {v : V}, AllIn H vs rs fp → vs[i]? = some v → ∃ r f, rs[i]? = some r ∧ RowIn H v r f ∧ ∀ l ∈ f, l ∈ fp
  | [], _, _, i, v, .nil, h => by simp at h
  | r :: rs, _, _, 0, v, .cons h ha, e => by
    simp at e
    subst e
    exact ⟨r, _, rfl, h, fun l hl => List.mem_append_left _ hl⟩
  | r :: rs, _, _, i + 1, v, .cons h ha, e => by
    obtain ⟨r', f, h1, h2, h3⟩ := AllIn.get (i := i) ha (by simpa using e)
    exact ⟨r', f, by simpa using h1, h2, fun l hl => List.mem_append_right _ (h3 l hl)⟩
theorem AllIn.append {H : Hp} : ∀ {rs ss : List Row} {vs ws : List V} {f g : List Addr}, AllIn H vs rs f → AllIn H ws ss g → AllIn H (vs ++ ws) (rs ++ ss) (f ++ g)
  | [], ss, _, ws, _, g, .nil, h => h
  | r :: rs, ss, _, ws, _, g, .cons h ha, k => by
    rw [List.cons_append, List.cons_append, List.append_assoc]
    exact .cons h (AllIn.append ha k)
theorem AllIn.snoc {H : Hp} {rs : List Row} {r : Row} {vs : List V} {v : V} {f g : List Addr} (h : AllIn H vs rs f) (k : RowIn H v r g) : AllIn H (vs ++ [v]) (rs ++ [r]) (f ++ g) := by
  have := h.append (.cons k .nil)
  rw [List.append_nil] at this
  exact this
theorem take_succ {α : Type} {l : List α} {i : Nat} {x : α} (h : l[i]? = some x) : l.take (i + 1) = l.take i ++ [x] := by
  rw [List.take_succ, h]; rfl
theorem take_all {α : Type} {l : List α} {n : Nat} (h : l.length ≤ n) : l.take n = l := List.take_of_length_le h
/-- a name of the list, or a number -/
def KeyOk (ns : List Str) : Key → Prop
  | .inl i => 0 ≤ i ∧ i ≤ 999999
  | .inr s => s ∈ ns
mutual
def RowOk (ns : List Str) : Row → Prop
  | .lt to _ x y => to ∈ ns ∧ KeyOk ns x ∧ KeyOk ns y
  | .say x => KeyOk ns x
  | .blk _ s rs => s ∈ ns ∧ RowsOk ns rs
def RowsOk (ns : List Str) : List Row → Prop
  | [] => True
  | r :: rs => RowOk ns r ∧ RowsOk ns rs
end
theorem RowsOk_append {ns : List Str} : ∀ {rs ss : List Row}, RowsOk ns rs → RowsOk ns ss → RowsOk ns (rs ++ ss)
  | [], _, _, h => h
  | r :: rs, _, h, k => by
    rw [RowsOk] at h
    rw [List.cons_append, RowsOk]
    exact ⟨h.1, RowsOk_append h.2 k⟩
theorem RowsOk_mem {ns : List Str} {r : Row} : ∀ {rs : List Row}, RowsOk ns rs → r ∈ rs → RowOk ns r
  | [], _, h => nomatch h
  | s :: rs, h, k => by
    rw [RowsOk] at h
    rcases List.mem_cons.mp k with rfl | k
    · exact h.1
    · exact RowsOk_mem h.2 k
theorem RowsOk_one {ns : List Str} {r : Row} (h : RowOk ns r) : RowsOk ns [r] := by
  rw [RowsOk]
  exact ⟨h, by rw [RowsOk]; trivial⟩

/-! ### a program while it is built: a stack of open lists -/
/-- below the open list a: the lists bs that lie open (the nearest first), their rows, the lists of their rows -/
inductive Lower (H : Hp) (ns : List Str) : Addr → List Addr → List (List Row) → List Addr → Prop
  | nil {a : Addr} : Lower H ns a [] [] []
  | cons {a b t : Addr} {bs : List Addr} {us : List V} {kd : Kd} {s : Str} {ss : List Row} {ls : List (List Row)} {g g' : List Addr} (h : H b = some (.lst (us ++ [.ref t]))) (ht : H t = some (.tup [.str kd.nm, .str s, .ref a])) (hs : s ∈ ns)
      (ha : AllIn H us ss g) (ok : RowsOk ns ss) (hd : deps ss + bs.length ≤ 3) (hl : Lower H ns b bs ls g') : Lower H ns a (b :: bs) (ss :: ls) (b :: (g ++ g'))
theorem Lower.keep {H H' : Hp} {ns : List Str} {a : Addr} {bs : List Addr} {ls : List (List Row)} {g : List Addr} (h : Lower H ns a bs ls g) : Kept g H H' → Lower H' ns a bs ls g := by
  induction h with
  | nil => intro _; exact .nil
  | cons h ht hs ha ok hd hl ih =>
    intro k
    exact .cons (by rw [k.2 _ List.mem_cons_self]; exact h) (k.1 _ _ ht) hs (ha.keep k.tail.left) ok hd (ih k.tail.right)
theorem Lower.at {H : Hp} {ns : List Str} {a : Addr} {bs : List Addr} {ls : List (List Row)} {g : List Addr} (h : Lower H ns a bs ls g) : ∀ l ∈ g, ∃ xs, H l = some (.lst xs) := by
  induction h with
  | nil => intro l hl; exact nomatch hl
  | cons h ht hs ha ok hd hl ih =>
    intro l hm
    rcases List.mem_cons.mp hm with e | hm
    · exact ⟨_, e ▸ h⟩
    · rcases List.mem_append.mp hm with hm | hm
      · exact ha.at l hm
      · exact ih l hm
theorem Lower.len {H : Hp} {ns : List Str} {a : Addr} {bs : List Addr} {ls : List (List Row)} {g : List Addr} (h : Lower H ns a bs ls g) : ls.length = bs.length := by
  induction h with
  | nil => rfl
  | cons _ _ _ _ _ _ _ ih => rw [List.length_cons, List.length_cons, ih]
theorem Lower.mem {H : Hp} {ns : List Str} {a : Addr} {bs : List Addr} {ls : List (List Row)} {g : List Addr} (h : Lower H ns a bs ls g) : ∀ l ∈ bs, l ∈ g := by
  induction h with
  | nil => intro l hl; exact nomatch hl
  | cons _ _ _ _ _ _ _ ih =>
    intro l hm
    rcases List.mem_cons.mp hm with rfl | hm
    · exact List.mem_cons_self
    · exact List.mem_cons_of_mem _ (List.mem_append_right _ (ih l hm))
def total : List (List Row) → Nat
  | [] => 0
  | r :: rs => cnts r + 1 + total rs
/-- the stack at S, the tests at T; a is the top's list, bs those below; n: as many rows at most; F: what stands since before -/
structure Zip (F H : Hp) (ns : List Str) (S T : Addr) (a : Addr) (bs : List Addr) (vs : List V) (ts : List Str) (n : Nat) : Prop where
  ex : ∃ (rs : List Row) (f : List Addr) (ls : List (List Row)) (g : List Addr), AllIn H vs rs f ∧ Lower H ns a bs ls g ∧ (S :: T :: a :: (f ++ g)).Nodup ∧ (∀ l ∈ S :: T :: a :: (f ++ g), F l = none) ∧ RowsOk ns rs ∧ deps rs + bs.length ≤ 3 ∧ cnts rs + total ls ≤ n
  hS : H S = some (.lst ((a :: bs).reverse.map V.ref))
  hT : H T = some (.lst (ts.map V.str))
  ha : H a = some (.lst vs)
  lt : ts.length = bs.length
  nm : ∀ s ∈ ts, s = "" ∨ s ∈ ns
  l3 : bs.length ≤ 3
  fh : Same F H
theorem Same.kept {fp : List Addr} {H H' : Hp} (e : Same H H') (h : ∀ l ∈ fp, ∃ xs, H l = some (.lst xs)) : Kept fp H H' := Kept.same e h
/-- more stands -/
theorem Zip.mono {F H H' : Hp} {ns : List Str} {S T a : Addr} {bs : List Addr} {vs : List V} {ts : List Str} {n : Nat} (z : Zip F H ns S T a bs vs ts n) (e : Same H H') : Zip F H' ns S T a bs vs ts n := by
  obtain ⟨rs, f, ls, g, h1, h2, h3, h4, h5⟩ := z.ex
  exact ⟨⟨rs, f, ls, g, h1.mono e, h2.keep (.same e h2.at), h3, h4, h5⟩, e _ _ z.hS, e _ _ z.hT, e _ _ z.ha, z.lt, z.nm, z.l3, fun b o q => e b o (z.fh b o q)⟩
theorem Zip.le {F H : Hp} {ns : List Str} {S T a : Addr} {bs : List Addr} {vs : List V} {ts : List Str} {n m : Nat} (z : Zip F H ns S T a bs vs ts n) (h : n ≤ m) : Zip F H ns S T a bs vs ts m := by
  obtain ⟨rs, f, ls, g, h1, h2, h3, h4, h5, h6, h7⟩ := z.ex
  exact ⟨⟨rs, f, ls, g, h1, h2, h3, h4, h5, h6, by omega⟩, z.hS, z.hT, z.ha, z.lt, z.nm, z.l3, z.fh⟩
theorem Same.mut' {F H : Hp} {q : Addr} {o : HO} (e : Same F H) (h : F q = none) : Same F (upd H q o) := Same.mut e h
/-- a let or say is put to the top -/
theorem Zip.add {F H : Hp} {ns : List Str} {S T a : Addr} {bs : List Addr} {vs : List V} {ts : List Str} {n : Nat} (z : Zip F H ns S T a bs vs ts n) {v : V} {r : Row} (h : RowIn H v r []) (ok : RowOk ns r) (hd : r.dep = 0) (hc : r.cnt = 1) :
    Zip F (upd H a (.lst (vs ++ [v]))) ns S T a bs (vs ++ [v]) ts (n + 1) := by
  obtain ⟨rs, f, ls, g, h1, h2, h3, h4, h5, h6, h7⟩ := z.ex
  have nd := h3
  rw [List.nodup_cons, List.nodup_cons, List.nodup_cons] at nd
  obtain ⟨n1, n2, n3, n4⟩ := nd
  have af : a ∉ f := fun q => n3 (List.mem_append_left _ q)
  have ag : a ∉ g := fun q => n3 (List.mem_append_right _ q)
  have Sa : S ≠ a := fun q => n1 (by rw [q]; exact List.mem_cons_of_mem _ List.mem_cons_self)
  have Ta : T ≠ a := fun q => n2 (by rw [q]; exact List.mem_cons_self)
  have e1 : AllIn H (vs ++ [v]) (rs ++ [r]) f := by
    have := h1.snoc h
    rw [List.append_nil] at this
    exact this
  have c1 : cnts (rs ++ [r]) = cnts rs + 1 := by rw [cnts_append, cnts, cnts, hc]
  have d1 : deps (rs ++ [r]) = deps rs := by rw [deps_append, deps, deps, hd]; simp
  refine ⟨⟨rs ++ [r], f, ls, g, e1.keep (Kept.upd z.ha af), h2.keep (Kept.upd z.ha ag), h3, h4, RowsOk_append h5 (RowsOk_one ok), by rw [d1]; exact h6, by rw [c1]; omega⟩, by rw [upd_ne Sa]; exact z.hS, by rw [upd_ne Ta]; exact z.hT, upd_same, z.lt, z.nm, z.l3, Same.mut z.fh (h4 a (by simp))⟩
/-- from H to H3 nothing changed but the lists at a, S, T -/
def But3 (a S T : Addr) (H H3 : Hp) : Prop := ∀ l o, l ≠ a → l ≠ S → l ≠ T → H l = some o → H3 l = some o
theorem But3.kept {a S T : Addr} {H H3 : Hp} {fp : List Addr} (k : But3 a S T H H3) (ha : ∃ xs, H a = some (.lst xs)) (hS : ∃ xs, H S = some (.lst xs)) (hT : ∃ xs, H T = some (.lst xs)) (h : ∀ l ∈ fp, (∃ xs, H l = some (.lst xs)) ∧ l ≠ a ∧ l ≠ S ∧ l ≠ T) : Kept fp H H3 := by
  obtain ⟨x1, ha⟩ := ha
  obtain ⟨x2, hS⟩ := hS
  obtain ⟨x3, hT⟩ := hT
  refine ⟨fun t xs q => k t _ (ne_of q ha fun z => nomatch z) (ne_of q hS fun z => nomatch z) (ne_of q hT fun z => nomatch z) q, fun l hl => ?_⟩
  obtain ⟨⟨xs, q⟩, h1, h2, h3⟩ := h l hl
  rw [q, k l _ h1 h2 h3 q]
/-- a block is opened: lets es and its row are put to the top, its list c is the new top -/
theorem Zip.open {F H H3 : Hp} {ns : List Str} {S T a : Addr} {bs : List Addr} {vs : List V} {ts : List Str} {n : Nat} (z : Zip F H ns S T a bs vs ts n) {t c : Addr} {kd : Kd} {s x : Str} {ws : List V} {es : List Row} (k : But3 a S T H H3)
    (hc : H c = none) (hc3 : H3 c = some (.lst [])) (ht : H3 t = some (.tup [.str kd.nm, .str s, .ref c])) (hs : s ∈ ns) (hx : x = "" ∨ x ∈ ns) (hl : bs.length < 3)
    (hA : H3 a = some (.lst (vs ++ ws ++ [.ref t]))) (he : AllIn H3 ws es []) (hok : RowsOk ns es) (hde : deps es = 0) (hS : H3 S = some (.lst ((c :: a :: bs).reverse.map V.ref))) (hT : H3 T = some (.lst ((ts ++ [x]).map V.str))) :
    Zip F H3 ns S T c (a :: bs) [] (ts ++ [x]) (n + cnts es + 1) := by
  obtain ⟨rs, f, ls, g, h1, h2, h3, h4, h5, h6, h7⟩ := z.ex
  have nd := h3
  rw [List.nodup_cons, List.nodup_cons, List.nodup_cons] at nd
  obtain ⟨n1, n2, n3, n4⟩ := nd
  have nS : ∀ l ∈ T :: a :: (f ++ g), l ≠ S := fun l hl q => n1 (q ▸ hl)
  have nT : ∀ l ∈ a :: (f ++ g), l ≠ T := fun l hl q => n2 (q ▸ hl)
  have na : ∀ l ∈ f ++ g, l ≠ a := fun l hl q => n3 (q ▸ hl)
  have at1 : ∀ l ∈ f ++ g, ∃ xs, H l = some (.lst xs) := fun l hl => (List.mem_append.mp hl).elim (h1.at l) (h2.at l)
  have K : Kept (f ++ g) H H3 := k.kept ⟨_, z.ha⟩ ⟨_, z.hS⟩ ⟨_, z.hT⟩ fun l hl => ⟨at1 l hl, na l hl, nS l (List.mem_cons_of_mem _ (List.mem_cons_of_mem _ hl)), nT l (List.mem_cons_of_mem _ hl)⟩
  have cn : ∀ l o, H l = some o → l ≠ c := fun l o q e => by rw [e, hc] at q; cases q
  have Fc : F c = none := z.fh.free hc
  have e1 : AllIn H3 (vs ++ ws) (rs ++ es) f := by
    have := (h1.keep K.left).append he
    rw [List.append_nil] at this
    exact this
  have d1 : deps (rs ++ es) = deps rs := by rw [deps_append, hde]; simp
  refine ⟨⟨[], [], (rs ++ es) :: ls, a :: (f ++ g), .nil, .cons hA ht hs e1 (RowsOk_append h5 hok) (by rw [d1]; exact h6) (h2.keep K.right), ?_, ?_, by rw [RowsOk]; trivial, by rw [deps, List.length_cons]; omega, ?_⟩, hS, hT, hc3, by rw [List.length_append, List.length_cons, z.lt]; rfl, ?_, by rw [List.length_cons]; omega, ?_⟩
  · rw [List.nil_append, List.nodup_cons, List.nodup_cons, List.nodup_cons]
    refine ⟨fun q => ?_, fun q => ?_, fun q => ?_, List.nodup_cons.mpr ⟨n3, n4⟩⟩
    · rcases List.mem_cons.mp q with q | q
      · exact n1 (q ▸ List.mem_cons_self)
      · rcases List.mem_cons.mp q with q | q
        · exact cn S _ z.hS q
        · exact n1 (List.mem_cons_of_mem _ q)
    · rcases List.mem_cons.mp q with q | q
      · exact cn T _ z.hT q
      · exact n2 q
    · rcases List.mem_cons.mp q with q | q
      · exact cn a _ z.ha q.symm
      · obtain ⟨xs, e⟩ := at1 c q
        exact cn c _ e rfl
  · intro l hl
    rcases List.mem_cons.mp hl with rfl | hl
    · exact h4 _ (by simp)
    rcases List.mem_cons.mp hl with rfl | hl
    · exact h4 _ (by simp)
    rcases List.mem_cons.mp hl with rfl | hl
    · exact Fc
    · exact h4 l (List.mem_cons_of_mem _ (List.mem_cons_of_mem _ hl))
  · rw [cnts, total, cnts_append]
    omega
  · intro y hy
    rcases List.mem_append.mp hy with hy | hy
    · exact z.nm y hy
    · rw [List.mem_singleton] at hy
      exact hy ▸ hx
  · intro b o q
    have nb : ∀ l ∈ S :: T :: a :: (f ++ g), b ≠ l := fun l hl e => by have := h4 l hl; rw [← e, q] at this; cases this
    exact k b o (nb a (by simp)) (nb S (by simp)) (nb T (by simp)) (z.fh b o q)
/-- a block is closed: lets es are put to the top, which is the row of the next list then -/
theorem Zip.close {F H H3 : Hp} {ns : List Str} {S T a b : Addr} {bs : List Addr} {vs : List V} {ts : List Str} {n : Nat} (z : Zip F H ns S T a (b :: bs) vs ts n) {ws : List V} {es : List Row} (k : But3 a S T H H3)
    (hA : H3 a = some (.lst (vs ++ ws))) (he : AllIn H3 ws es []) (hok : RowsOk ns es) (hde : deps es = 0) (hS : H3 S = some (.lst ((b :: bs).reverse.map V.ref))) (hT : H3 T = some (.lst (ts.dropLast.map V.str))) :
    ∃ us, Zip F H3 ns S T b bs us ts.dropLast (n + cnts es) := by
  obtain ⟨rs, f, ls, g, h1, h2, h3, h4, h5, h6, h7⟩ := z.ex
  have nd := h3
  rw [List.nodup_cons, List.nodup_cons, List.nodup_cons] at nd
  obtain ⟨n1, n2, n3, n4⟩ := nd
  have nS : ∀ l ∈ T :: a :: (f ++ g), l ≠ S := fun l hl q => n1 (q ▸ hl)
  have nT : ∀ l ∈ a :: (f ++ g), l ≠ T := fun l hl q => n2 (q ▸ hl)
  have na : ∀ l ∈ f ++ g, l ≠ a := fun l hl q => n3 (q ▸ hl)
  have at1 : ∀ l ∈ f ++ g, ∃ xs, H l = some (.lst xs) := fun l hl => (List.mem_append.mp hl).elim (h1.at l) (h2.at l)
  have K : Kept (f ++ g) H H3 := k.kept ⟨_, z.ha⟩ ⟨_, z.hS⟩ ⟨_, z.hT⟩ fun l hl => ⟨at1 l hl, na l hl, nS l (List.mem_cons_of_mem _ (List.mem_cons_of_mem _ hl)), nT l (List.mem_cons_of_mem _ hl)⟩
  have e1 : AllIn H3 (vs ++ ws) (rs ++ es) f := by
    have := (h1.keep K.left).append he
    rw [List.append_nil] at this
    exact this
  have d1 : deps (rs ++ es) = deps rs := by rw [deps_append, hde]; simp
  have lz := z.lt
  have l3 := z.l3
  have zn := z.nm
  rw [List.length_cons] at lz l3 h6
  cases h2 with
  | @cons _ _ t _ us kd s ss ls' g1 g' hb ht hs ha ok hd hl =>
    have hb3 : H3 b = some (.lst (us ++ [.ref t])) := by rw [K.right.2 b List.mem_cons_self]; exact hb
    have ht3 := K.1 _ _ ht
    have hrow : RowIn H3 (.ref t) (.blk kd s (rs ++ es)) (a :: f) := .blk ht3 (.mk hA e1)
    refine ⟨us ++ [.ref t], ⟨ss ++ [.blk kd s (rs ++ es)], g1 ++ (a :: f), ls', g', (ha.keep K.right.tail.left).snoc hrow, hl.keep K.right.tail.right, ?_, ?_, RowsOk_append ok (RowsOk_one (by rw [RowOk]; exact ⟨hs, RowsOk_append h5 hok⟩)), ?_, ?_⟩, hS, hT, hb3, by rw [List.length_dropLast, lz]; rfl, fun y hy => zn y (List.dropLast_subset _ hy), by omega, ?_⟩
    · refine (List.Perm.nodup_iff ?_).mp h3
      refine List.Perm.cons _ (List.Perm.cons _ ?_)
      have p1 : (a :: (f ++ b :: (g1 ++ g'))).Perm (b :: ((a :: f) ++ (g1 ++ g'))) := by
        rw [← List.cons_append]
        exact List.perm_middle
      refine p1.trans (List.Perm.cons _ ?_)
      rw [← List.append_assoc]
      exact List.Perm.append_right _ List.perm_append_comm
    · intro l hl
      refine h4 l ?_
      simp only [List.mem_cons, List.mem_append] at hl ⊢
      rcases hl with h | h | h | (h | h | h) | h <;> simp [h]
    · rw [deps_append, deps, deps, Row.dep, d1]
      simp only [Nat.max_zero, Nat.zero_max]
      omega
    · rw [cnts_append, cnts, cnts, Row.cnt, cnts_append]
      rw [total] at h7
      omega
    · intro c o q
      have nb : ∀ l ∈ S :: T :: a :: (f ++ b :: (g1 ++ g')), c ≠ l := fun l hl e => by have := h4 l hl; rw [← e, q] at this; cases this
      exact k c o (nb a (by simp)) (nb S (by simp)) (nb T (by simp)) (z.fh c o q)
/-- all is closed -/
theorem Zip.done {F H : Hp} {ns : List Str} {S T a : Addr} {vs : List V} {ts : List Str} {n : Nat} (z : Zip F H ns S T a [] vs ts n) : ∃ rs fp, RowsIn H a rs fp ∧ RowsOk ns rs ∧ deps rs ≤ 3 ∧ cnts rs ≤ n ∧ Same F H ∧ fp.Nodup ∧ ∀ l ∈ fp, F l = none := by
  obtain ⟨rs, f, ls, g, h1, h2, h3, h4, h5, h6, h7⟩ := z.ex
  refine ⟨rs, a :: f, .mk z.ha h1, h5, h6, by omega, z.fh, (List.nodup_append.mp (show ((a :: f) ++ g).Nodup from (List.nodup_cons.mp (List.nodup_cons.mp h3).2).2)).1, fun l hl => h4 l ?_⟩
  simp only [List.mem_cons, List.mem_append] at hl ⊢
  rcases hl with h | h <;> simp [h]
end LM
local macro_rules | `(tactic| wtm_at "lm.at") => `(tactic| (repeat (with_reducible first | exact LM.At.here | apply LM.At.there)))
local macro_rules | `(tactic| wtm_at "lm.put") => `(tactic| (repeat (with_reducible first | exact LM.Put.here | apply LM.Put.there)))
local macro_rules | `(tactic| wtm_at "lm.wip") => `(tactic| (repeat (with_reducible first | exact LM.Wip.here | apply LM.Wip.there)))
local macro_rules | `(tactic| wtm_at "lm.mem") => `(tactic| (repeat (with_reducible first | exact List.mem_cons_self | apply List.mem_cons_of_mem)))
local macro_rules | `(tactic| wtm_at "lm.h") => `(tactic| with_reducible first
  | assumption
  | exact L2.upd_same
  | (apply L2.SqL.of; wtm_at "lm.h"; done)
  | (apply L2.SqT.of; wtm_at "lm.h"; done)
  | (apply L2.Rd.of; wtm_at "lm.h"; done)
  | (apply LM.sq_all; assumption)
  | (apply L2.Same.seq; assumption; wtm_at "lm.h"; done)
  | (apply LM.Same.sqt; assumption; wtm_at "lm.h"; done)
  | (apply LM.Same.rd; assumption; wtm_at "lm.h"; done)
  | (apply LM.Same.at; assumption; wtm_at "lm.h"; done))
local macro_rules | `(tactic| wtm_at "lm.e") => `(tactic| with_reducible first
  | (refine' LM.w_name (by assumption) ?k1 ?k2 ?_; (case k1 => wtm_at "lm.at"); (case k2 => wtm_at "lm.mem"))
  | refine LM.w_int ?_
  | refine LM.w_str ?_
  | (refine' LM.w_globR (by assumption) ?k1 ?k2 ?_; (case k2 => assumption); (case k1 => wtm_at "lm.mem"))
  | (refine' LM.w_globI (by assumption) ?k1 ?k2 ?_; (case k2 => assumption); (case k1 => wtm_at "lm.mem"))
  | (refine' LM.w_globS (by assumption) ?k1 ?k2 ?_; (case k2 => assumption); (case k1 => wtm_at "lm.mem"))
  | (refine' LM.w_dix (L2.hu_of (by assumption)) ?k1 ?_; (case k1 => with_unfolding_all (refine LM.noSl_str)))
  | (refine' LM.w_ix ?k1 ?_; (case k1 => with_unfolding_all (intro _ _; rfl)))
  | refine LM.w_op ?_
  | (refine LM.w_cmp (L2.nomark _) ?_)
  | (refine' LM.w_cmp ?k1 ?_; (case k1 => with_unfolding_all rfl))
  | refine LM.w_slice ?_
  | refine LM.w_tup ?_
  | refine LM.w_lst ?_
  | (refine' LM.w_call (by assumption) ?k1 (by assumption) ?k2 ?k3 ?_ ?k4 ?k5; (case k1 => assumption); (case k2 => (first | omega | decide)); (case k3 => wtm_at "lm.mem"); (case k4 => with_unfolding_all rfl); (case k5 => with_unfolding_all rfl))
  | (refine' LM.w_callB (by assumption) ?k1 ?k2 ?k3 ?_ ?k4 ?k5; (case k3 => first | exact PySem.boot_len | exact PyProof.Rows.boot_isinstance | exact LM.boot_max | exact LM.boot_min | exact PyProof.Rows.boot_sorted | exact LM.boot_all | exact LM.boot_sum); (case k1 => wtm_at "lm.mem"); (case k2 => assumption); (case k4 => with_unfolding_all rfl); (case k5 => with_unfolding_all rfl))
  | (refine' LM.w_callTy (by assumption) ?k1 ?k2 ?k3 ?_ ?k4 ?k5; (case k3 => first | exact PyProof.Rows.boot_int | exact PyProof.Rows.boot_str | exact PyProof.Rows.boot_list | exact PyProof.Rows.boot_dict); (case k1 => wtm_at "lm.mem"); (case k2 => assumption); (case k4 => with_unfolding_all rfl); (case k5 => with_unfolding_all rfl))
  | (refine' LM.w_append ?_ ?k1 ?k2 ?k3 ?k4 ?k5; (case k1 => with_unfolding_all rfl); (case k2 => with_unfolding_all rfl); (case k3 => with_unfolding_all rfl); (case k4 => with_unfolding_all rfl); (case k5 => with_unfolding_all rfl))
  | (refine' LM.w_extend ?_ ?k1 ?k2 ?k3 ?k4 ?k5; (case k1 => with_unfolding_all rfl); (case k2 => with_unfolding_all rfl); (case k3 => with_unfolding_all rfl); (case k4 => with_unfolding_all rfl); (case k5 => with_unfolding_all rfl))
  | (refine' LM.w_meth0 (by assumption) (by assumption) (by assumption) ?k2 ?_ ?k3; (case k2 => (first | omega | decide)); (case k3 => with_unfolding_all rfl))
  | (refine' LM.w_meth (by assumption) (by assumption) (by assumption) ?k2 ?_ ?k3 ?k4 ?k5; (case k2 => (first | omega | decide)); (case k3 => with_unfolding_all rfl); (case k4 => with_unfolding_all rfl); (case k5 => with_unfolding_all rfl))
  | (refine' LM.w_fld ?_ ?k1; (case k1 => with_unfolding_all rfl))
  | (refine' LM.w_get2 (L2.hu_of (by assumption)) ?_ ?k1; (case k1 => with_unfolding_all exact ⟨rfl, rfl, rfl, rfl⟩))
  | (refine' LM.w_pop ?_ ?k1 ?k2; (case k1 => with_unfolding_all rfl); (case k2 => with_unfolding_all rfl))
  | (refine' LM.w_ty (by assumption) ?k1 ?k2 ?k3 ?_; (case k3 => first | exact PyProof.Rows.boot_int | exact PyProof.Rows.boot_str | exact PyProof.Rows.boot_list | exact PyProof.Rows.boot_tuple | exact PyProof.Rows.boot_bool | exact PyProof.Rows.boot_dict); (case k1 => wtm_at "lm.mem"); (case k2 => assumption))
  | refine LM.w_bl ?_
  | refine LM.w_non ?_
  | refine LM.w_dict0 ?_
  | refine LM.w_neg ?_
  | refine LM.w_not ?_
  | refine LM.w_and ?_
  | refine LM.w_or ?_
  | refine LM.w_one ?_
  | refine LM.w_ifExp ?_
  | (refine' LM.w_join ?_ ?k1 ?k2 ?k3; (case k1 => with_unfolding_all rfl); (case k2 => with_unfolding_all rfl); (case k3 => with_unfolding_all rfl))
)
local macro_rules | `(tactic| wtm_at "lm.t") => `(tactic| with_reducible first
  | (refine LM.t_cmp (L2.nomark _) ?_)
  | (refine' LM.t_cmp ?k1 ?_; (case k1 => with_unfolding_all rfl))
  | refine LM.t_not ?_
  | refine LM.t_bool ?_
  | (refine' LM.t_truth ?k1 ?_; (case k1 => with_unfolding_all (intro _; rfl)))
)
local macro_rules | `(tactic| wtm_at "lm.ww") => `(tactic| with_reducible first
  | refine LM.ww_and ?_
  | refine LM.ww_and1 ?_
  | refine LM.ww_or ?_
  | refine LM.ww_or1 ?_
)
local macro_rules | `(tactic| wtm_at "lm.b") => `(tactic| with_reducible first
  | refine LM.b_add ?_
  | refine LM.b_sub ?_
  | (refine LM.b_mod (by decide) ?_)
  | (refine' LM.b_div ?k1 ?_; (case k1 => with_unfolding_all exact ⟨by decide, by decide⟩))
  | (refine' LM.b_mul ?k1 ?_; (case k1 => with_unfolding_all first | exact .inl (by decide) | exact .inr (by decide)))
)
local macro_rules | `(tactic| wtm_at "lm.cm") => `(tactic| with_reducible first
  | refine LM.c_lt ?_
  | refine LM.c_gt ?_
  | refine LM.c_le ?_
  | refine LM.c_ge ?_
  | refine LM.c_eqI ?_
  | refine LM.c_neI ?_
  | refine LM.c_eqS ?_
  | refine LM.c_neS ?_
  | (refine' LM.c_inT ?k1 ?k2 ?k3 ?_; (case k1 => wtm_at "lm.h"); (case k2 => with_unfolding_all rfl); (case k3 => with_unfolding_all rfl))
)
local macro_rules | `(tactic| wtm_at "lm.ki") => `(tactic| with_reducible first
  | refine LM.ki_str_str ?_
  | refine LM.ki_str_int ?_
  | refine LM.ki_str_bool ?_
  | refine LM.ki_str_list ?_
  | refine LM.ki_str_tuple ?_
  | refine LM.ki_str_dict ?_
  | refine LM.ki_int_str ?_
  | refine LM.ki_int_int ?_
  | refine LM.ki_int_bool ?_
  | refine LM.ki_int_list ?_
  | refine LM.ki_int_tuple ?_
  | refine LM.ki_int_dict ?_
  | refine LM.ki_bool_str ?_
  | refine LM.ki_bool_int ?_
  | refine LM.ki_bool_bool ?_
  | refine LM.ki_bool_list ?_
  | refine LM.ki_bool_tuple ?_
  | refine LM.ki_bool_dict ?_
  | refine LM.ki_NoneType_str ?_
  | refine LM.ki_NoneType_int ?_
  | refine LM.ki_NoneType_bool ?_
  | refine LM.ki_NoneType_list ?_
  | refine LM.ki_NoneType_tuple ?_
  | refine LM.ki_NoneType_dict ?_
  | (refine' LM.ki_list_str ?k1 ?_; (case k1 => wtm_at "lm.h"))
  | (refine' LM.ki_list_int ?k1 ?_; (case k1 => wtm_at "lm.h"))
  | (refine' LM.ki_list_bool ?k1 ?_; (case k1 => wtm_at "lm.h"))
  | (refine' LM.ki_list_list ?k1 ?_; (case k1 => wtm_at "lm.h"))
  | (refine' LM.ki_list_tuple ?k1 ?_; (case k1 => wtm_at "lm.h"))
  | (refine' LM.ki_list_dict ?k1 ?_; (case k1 => wtm_at "lm.h"))
  | (refine' LM.ki_tuple_str ?k1 ?_; (case k1 => wtm_at "lm.h"))
  | (refine' LM.ki_tuple_int ?k1 ?_; (case k1 => wtm_at "lm.h"))
  | (refine' LM.ki_tuple_bool ?k1 ?_; (case k1 => wtm_at "lm.h"))
  | (refine' LM.ki_tuple_list ?k1 ?_; (case k1 => wtm_at "lm.h"))
  | (refine' LM.ki_tuple_tuple ?k1 ?_; (case k1 => wtm_at "lm.h"))
  | (refine' LM.ki_tuple_dict ?k1 ?_; (case k1 => wtm_at "lm.h"))
  | (refine' LM.ki_dict_str ?k1 ?_; (case k1 => wtm_at "lm.h"))
  | (refine' LM.ki_dict_int ?k1 ?_; (case k1 => wtm_at "lm.h"))
  | (refine' LM.ki_dict_bool ?k1 ?_; (case k1 => wtm_at "lm.h"))
  | (refine' LM.ki_dict_list ?k1 ?_; (case k1 => wtm_at "lm.h"))
  | (refine' LM.ki_dict_tuple ?k1 ?_; (case k1 => wtm_at "lm.h"))
  | (refine' LM.ki_dict_dict ?k1 ?_; (case k1 => wtm_at "lm.h"))
)
local macro_rules | `(tactic| wtm_at "lm.k") => `(tactic| with_reducible first
  | (refine' LM.k_lenL ?k1 ?_; (case k1 => wtm_at "lm.h"))
  | (refine' LM.k_lenT ?k1 ?_; (case k1 => wtm_at "lm.h"))
  | refine LM.k_intb ?_
  | (refine LM.k_max (by assumption) ?_)
  | (refine LM.k_min (by assumption) ?_)
)
local macro_rules | `(tactic| wtm_at "lm.a") => `(tactic| with_reducible first
  | refine LM.a_nil ?_
  | (refine' LM.a_cons ?_ ?k1; (case k1 => with_unfolding_all rfl))
)
local macro_rules | `(tactic| wtm_at "lm.x") => `(tactic| with_reducible first
  | (refine' LM.ex_put ?k1 ?_; (case k1 => wtm_at "lm.put"))
  | (refine' LM.ex_len ?k1 ?_; (case k1 => with_unfolding_all rfl))
  | (refine' LM.o_int ?_)
  | refine LM.x_bl ?_
  | refine LM.x_str ?_
  | refine LM.x_int ?_
  | refine LM.x_tbl ?_
  | (refine' LM.x_sq ?k1 ?_; (case k1 => wtm_at "lm.h"))
  | (refine' LM.x_st ?k1 ?_; (case k1 => wtm_at "lm.h"))
  | refine LM.ite_T ?_
  | refine LM.ite_F ?_
  | refine LM.ite_nT ?_
  | refine LM.ite_nF ?_
  | refine LM.nx_mk ?_
  | refine LM.rt_mk ?_
  | (refine' LM.ite_bT ?k1 ?_; (case k1 => first | exact LM.in_blocks _ | with_unfolding_all decide +kernel))
  | (refine' LM.ite_bF ?k1 ?_; (case k1 => first | exact LM.kd_let _ | exact LM.kd_say _ | with_unfolding_all decide +kernel))
  | (refine' LM.ite_lenT ?k1 ?_; (case k1 => with_unfolding_all rfl))
  | (refine' LM.ite_lenF ?k1 ?_; (case k1 => with_unfolding_all rfl))
  | (refine' LM.ite_nlT ?k1 ?_; (case k1 => with_unfolding_all rfl))
  | (refine' LM.ite_nlF ?k1 ?_; (case k1 => with_unfolding_all rfl))
)
local macro_rules | `(tactic| wtm_at "lm.ix") => `(tactic| with_reducible first
  | (refine' LM.i_tup ?k1 ?k2 ?_; (case k1 => wtm_at "lm.h"); (case k2 => with_unfolding_all rfl))
  | (refine' LM.i_lst ?k1 ?k2 ?_; (case k1 => wtm_at "lm.h"); (case k2 => with_unfolding_all rfl))
)
local macro_rules | `(tactic| wtm_at "lm.s") => `(tactic| with_reducible first
  | refine LM.s_if ?_
  | refine LM.s_ret ?_
  | (refine' LM.s_set (by assumption) ?k1 ?_ ?k2; (case k1 => wtm_at "lm.mem"); (case k2 => with_unfolding_all rfl))
  | (refine' LM.s_for (by assumption) ?k1 ?_ ?k2; (case k1 => wtm_at "lm.mem"); (case k2 => with_unfolding_all (intro _; rfl)))
  | (refine' LM.s_expr ?_ ?k1; (case k1 => with_unfolding_all rfl))
  | (refine' LM.s_fld ?_ ?k1; (case k1 => with_unfolding_all rfl))
  | (refine' LM.s_sub ?_ ?k1 ?k2 ?k3 ?k4; (case k1 => with_unfolding_all (intro _; rfl)); (case k2 => with_unfolding_all rfl); (case k3 => with_unfolding_all rfl); (case k4 => with_unfolding_all rfl))
  | refine LM.s_pass ?_
  | refine LM.s_retN ?_
)
local macro_rules | `(tactic| wtm_at "lm.ss") => `(tactic| with_reducible first
  | refine LM.s_nil ?_
  | refine LM.s_one ?_
)
local macro_rules | `(tactic| wtm_at "lm.w") => `(tactic| with_reducible first
  | (refine' LM.wi_range (by assumption) ?k1 ?k2 ?_ ?k3; (case k1 => wtm_at "lm.mem"); (case k2 => assumption); (case k3 => with_unfolding_all rfl))
)
local macro_rules | `(tactic| wtm_at "lms") => `(tactic| (repeat (first
  | (guard_target = LM.WE _ _ _ _ _; wtm_at "lm.e")
  | (guard_target = LM.WA _ _ _ _ _; wtm_at "lm.a")
  | (guard_target = LM.WB _ _ _ _ _ _; wtm_at "lm.b")
  | (guard_target = LM.WC _ _ _ _ _ _; wtm_at "lm.cm")
  | (guard_target = LM.WS _ _ _ _ _; wtm_at "lm.s")
  | (guard_target = LM.WSs _ _ _ _ _; wtm_at "lm.ss")
  | (guard_target = LM.WT _ _ _ _ _; wtm_at "lm.t")
  | (guard_target = LM.WW _ _ _ _ _; wtm_at "lm.ww")
  | (guard_target = LM.WB1 _ (PySem.Value.builtin "isinstance") _ _ _; wtm_at "lm.ki")
  | (guard_target = LM.WB1 _ _ _ _ _; wtm_at "lm.k")
  | (guard_target = LM.WO _ _ _ _ _; with_reducible first | refine LM.o_none ?_ | refine LM.o_some ?_)
  | (guard_target = LM.WI _ _ _ _ _; wtm_at "lm.ix")
  | (guard_target = LM.WI1 _ _ _ _ _ _; wtm_at "lm.w")
  | wtm_at "lm.x")))
local macro_rules | `(tactic| wtm_at "lm") => `(tactic| (repeat (first
  | (guard_target = LM.WE _ _ _ _ _; wtm_at "lm.e")
  | (guard_target = LM.WA _ _ _ _ _; wtm_at "lm.a")
  | (guard_target = LM.WB _ _ _ _ _ _; wtm_at "lm.b")
  | (guard_target = LM.WC _ _ _ _ _ _; wtm_at "lm.cm")
  | (guard_target = LM.WS _ _ _ _ _; wtm_at "lm.s")
  | (guard_target = LM.WSs _ _ _ _ _; (first | wtm_at "lm.ss" | (with_reducible refine LM.s_cons ?_)))
  | (guard_target = LM.WT _ _ _ _ _; wtm_at "lm.t")
  | (guard_target = LM.WW _ _ _ _ _; wtm_at "lm.ww")
  | (guard_target = LM.WB1 _ (PySem.Value.builtin "isinstance") _ _ _; wtm_at "lm.ki")
  | (guard_target = LM.WB1 _ _ _ _ _; wtm_at "lm.k")
  | (guard_target = LM.WO _ _ _ _ _; with_reducible first | refine LM.o_none ?_ | refine LM.o_some ?_)
  | (guard_target = LM.WI _ _ _ _ _; wtm_at "lm.ix")
  | (guard_target = LM.WI1 _ _ _ _ _ _; wtm_at "lm.w")
  | wtm_at "lm.x")))
namespace LM
open PySem PySem.Spec PyProof.Rows L2
def top (i : Nat) : Stmt := PySem.Challenge.pw_loopmover_k06_long_runs.main.body.getD i (.Pass ⟨0, 0, 0, 0⟩)
abbrev s_p_reckoned : Stmt := top 3
abbrev s_p_run : Stmt := top 4
abbrev s_l_cell_at : Stmt := top 6
abbrev s_l_names : Stmt := top 7
abbrev s_l_whole : Stmt := top 8
abbrev s_l_alike : Stmt := top 9
abbrev s_l_same_values : Stmt := top 10
abbrev s_l_sums : Stmt := top 11
abbrev s_law : Stmt := top 12
abbrev s_Runner___init__ : Stmt := inClass (top 2) 0
abbrev s_Runner_stepped : Stmt := inClass (top 2) 1
abbrev s_Runner_value : Stmt := inClass (top 2) 2
abbrev s_Runner_asked : Stmt := inClass (top 2) 3
abbrev s_Runner_all_done : Stmt := inClass (top 2) 4
abbrev s_Runner_row_done : Stmt := inClass (top 2) 5
abbrev s_Runner_let_done : Stmt := inClass (top 2) 6
structure K_Runner (K : PySem.W.Frag) (mg : Str → Option Value) (C : Addr) : Prop where
  at_ : mg "Runner" = some (.ref C)
  cl : Cls K C
  mks : PySem.W.makesIn K C = true
  kp : PySem.W.keepIn K (.ref C) = true
  m___init__ : MDef K C "__init__" "Runner.__init__" s_Runner___init__ ["self", "given", "most"]
  m_stepped : MDef K C "stepped" "Runner.stepped" s_Runner_stepped ["self"]
  m_value : MDef K C "value" "Runner.value" s_Runner_value ["self", "thing"]
  m_asked : MDef K C "asked" "Runner.asked" s_Runner_asked ["self", "test"]
  m_all_done : MDef K C "all_done" "Runner.all_done" s_Runner_all_done ["self", "rows"]
  m_row_done : MDef K C "row_done" "Runner.row_done" s_Runner_row_done ["self", "row"]
  m_let_done : MDef K C "let_done" "Runner.let_done" s_Runner_let_done ["self", "row"]
  n_names : NoAttr K C "names"
  n_said : NoAttr K C "said"
  n_steps : NoAttr K C "steps"
  n_most : NoAttr K C "most"
  n_ending : NoAttr K C "ending"
/-- what the module holds: its defs, its constants; the built-in names that it leaves alone -/
structure Txt (K : PySem.W.Frag) (mg : Str → Option Value) : Prop where
  d_p_reckoned : Def K mg "reckoned" s_p_reckoned ["sign", "one", "other"]
  d_p_run : Def K mg "run" s_p_run ["rows", "given", "most"]
  d_l_cell_at : Def K mg "_law_cell_at" s_l_cell_at ["_law_script", "_law_k"]
  d_l_names : Def K mg "_law_names" s_l_names ["_law_cell"]
  d_l_whole : Def K mg "_law_whole" s_l_whole ["_law_found"]
  d_l_alike : Def K mg "_law_alike" s_l_alike ["_law_found", "_law_due"]
  d_l_same_values : Def K mg "_law_same_values" s_l_same_values ["_law_found", "_law_due"]
  d_l_sums : Def K mg "_law_sums" s_l_sums ["_law_start", "_law_count", "_law_many"]
  b_all : mg "all" = none
  b_bool : mg "bool" = none
  b_dict : mg "dict" = none
  b_int : mg "int" = none
  b_isinstance : mg "isinstance" = none
  b_len : mg "len" = none
  b_list : mg "list" = none
  b_max : mg "max" = none
  b_min : mg "min" = none
  b_range : mg "range" = none
  b_str : mg "str" = none
  b_tuple : mg "tuple" = none
  c_GREATEST : ∃ t, mg "GREATEST" = some (.int 999999 t)
  k_Runner : ∃ C, K_Runner K mg C
section
variable {P : Program} {w : World} {K : PySem.W.Frag} {mg : Str → Option Value} {base : Heap}
theorem go_Runner___init__ {k : Nat} {sp : Sp} {C : Addr} (F : MDef K C "__init__" "Runner.__init__" s_Runner___init__ ["self", "given", "most"]) (len : ∀ vs H Q E, sp vs H Q E → vs.length = 3)
    (hbody : ∀ X : Cx, X.prog = P → X.w = w → X.K = K → X.mg = mg → X.base = base → Fr X ["self", "given", "most"] ["self", "given", "most"] ["self", "given", "most"] ["dict"] → X.env.scope = defScope s_Runner___init__ → Room k X.A → ∀ (vs : List V) (H : Hp) (Q : VK) (E : XK), sp vs H Q E → WSs X (defBody s_Runner___init__) { nx := fun _ H' => Q .non H', rt := Q } (start ["self", "given", "most"] vs) H) :
    MOk P w K mg base (k + 1) C "__init__" ["self", "given", "most"] sp := F.ok ⟨rfl, rfl, rfl, by decide +kernel, rfl, by decide +kernel, by decide +kernel⟩ (by decide +kernel) len hbody
theorem go_Runner_stepped {k : Nat} {sp : Sp} {C : Addr} (F : MDef K C "stepped" "Runner.stepped" s_Runner_stepped ["self"]) (len : ∀ vs H Q E, sp vs H Q E → vs.length = 1)
    (hbody : ∀ X : Cx, X.prog = P → X.w = w → X.K = K → X.mg = mg → X.base = base → Fr X ["self"] ["self"] ["self"] [] → X.env.scope = defScope s_Runner_stepped → Room k X.A → ∀ (vs : List V) (H : Hp) (Q : VK) (E : XK), sp vs H Q E → WSs X (defBody s_Runner_stepped) { nx := fun _ H' => Q .non H', rt := Q } (start ["self"] vs) H) :
    MOk P w K mg base (k + 1) C "stepped" ["self"] sp := F.ok ⟨rfl, rfl, rfl, by decide +kernel, rfl, by decide +kernel, by decide +kernel⟩ (by decide +kernel) len hbody
theorem go_Runner_value {k : Nat} {sp : Sp} {C : Addr} (F : MDef K C "value" "Runner.value" s_Runner_value ["self", "thing"]) (len : ∀ vs H Q E, sp vs H Q E → vs.length = 2)
    (hbody : ∀ X : Cx, X.prog = P → X.w = w → X.K = K → X.mg = mg → X.base = base → Fr X ["self", "thing"] ["self", "thing"] ["self", "thing"] ["isinstance", "str"] → X.env.scope = defScope s_Runner_value → Room k X.A → ∀ (vs : List V) (H : Hp) (Q : VK) (E : XK), sp vs H Q E → WSs X (defBody s_Runner_value) { nx := fun _ H' => Q .non H', rt := Q } (start ["self", "thing"] vs) H) :
    MOk P w K mg base (k + 1) C "value" ["self", "thing"] sp := F.ok ⟨rfl, rfl, rfl, by decide +kernel, rfl, by decide +kernel, by decide +kernel⟩ (by decide +kernel) len hbody
theorem go_Runner_asked {k : Nat} {sp : Sp} {C : Addr} (F : MDef K C "asked" "Runner.asked" s_Runner_asked ["self", "test"]) (len : ∀ vs H Q E, sp vs H Q E → vs.length = 2)
    (hbody : ∀ X : Cx, X.prog = P → X.w = w → X.K = K → X.mg = mg → X.base = base → Fr X ["self", "test"] ["self", "test"] ["self", "test"] [] → X.env.scope = defScope s_Runner_asked → Room k X.A → ∀ (vs : List V) (H : Hp) (Q : VK) (E : XK), sp vs H Q E → WSs X (defBody s_Runner_asked) { nx := fun _ H' => Q .non H', rt := Q } (start ["self", "test"] vs) H) :
    MOk P w K mg base (k + 1) C "asked" ["self", "test"] sp := F.ok ⟨rfl, rfl, rfl, by decide +kernel, rfl, by decide +kernel, by decide +kernel⟩ (by decide +kernel) len hbody
theorem go_Runner_all_done {k : Nat} {sp : Sp} {C : Addr} (F : MDef K C "all_done" "Runner.all_done" s_Runner_all_done ["self", "rows"]) (len : ∀ vs H Q E, sp vs H Q E → vs.length = 2)
    (hbody : ∀ X : Cx, X.prog = P → X.w = w → X.K = K → X.mg = mg → X.base = base → Fr X ["self", "rows", "row"] ["self", "rows", "row"] ["self", "rows", "row"] [] → X.env.scope = defScope s_Runner_all_done → Room k X.A → ∀ (vs : List V) (H : Hp) (Q : VK) (E : XK), sp vs H Q E → WSs X (defBody s_Runner_all_done) { nx := fun _ H' => Q .non H', rt := Q } (start ["self", "rows", "row"] vs) H) :
    MOk P w K mg base (k + 1) C "all_done" ["self", "rows"] sp := F.ok ⟨rfl, rfl, rfl, by decide +kernel, rfl, by decide +kernel, by decide +kernel⟩ (by decide +kernel) len hbody
theorem go_Runner_row_done {k : Nat} {sp : Sp} {C : Addr} (F : MDef K C "row_done" "Runner.row_done" s_Runner_row_done ["self", "row"]) (len : ∀ vs H Q E, sp vs H Q E → vs.length = 2)
    (hbody : ∀ X : Cx, X.prog = P → X.w = w → X.K = K → X.mg = mg → X.base = base → Fr X ["self", "row"] ["self", "row"] ["self", "row"] [] → X.env.scope = defScope s_Runner_row_done → Room k X.A → ∀ (vs : List V) (H : Hp) (Q : VK) (E : XK), sp vs H Q E → WSs X (defBody s_Runner_row_done) { nx := fun _ H' => Q .non H', rt := Q } (start ["self", "row"] vs) H) :
    MOk P w K mg base (k + 1) C "row_done" ["self", "row"] sp := F.ok ⟨rfl, rfl, rfl, by decide +kernel, rfl, by decide +kernel, by decide +kernel⟩ (by decide +kernel) len hbody
theorem go_Runner_let_done {k : Nat} {sp : Sp} {C : Addr} (F : MDef K C "let_done" "Runner.let_done" s_Runner_let_done ["self", "row"]) (len : ∀ vs H Q E, sp vs H Q E → vs.length = 2)
    (hbody : ∀ X : Cx, X.prog = P → X.w = w → X.K = K → X.mg = mg → X.base = base → Fr X ["self", "row", "one", "other"] ["self", "row", "one", "other"] ["self", "row", "one", "other"] ["reckoned"] → X.env.scope = defScope s_Runner_let_done → Room k X.A → ∀ (vs : List V) (H : Hp) (Q : VK) (E : XK), sp vs H Q E → WSs X (defBody s_Runner_let_done) { nx := fun _ H' => Q .non H', rt := Q } (start ["self", "row", "one", "other"] vs) H) :
    MOk P w K mg base (k + 1) C "let_done" ["self", "row"] sp := F.ok ⟨rfl, rfl, rfl, by decide +kernel, rfl, by decide +kernel, by decide +kernel⟩ (by decide +kernel) len hbody
abbrev ps_p_reckoned : List Str := ["sign", "one", "other"]
abbrev G_p_reckoned : List Str := ["int", "GREATEST"]
theorem go_p_reckoned {k : Nat} {sp : Sp} (F : Def K mg "reckoned" s_p_reckoned ["sign", "one", "other"]) (len : ∀ vs H Q E, sp vs H Q E → vs.length = 3)
    (hbody : ∀ X : Cx, X.prog = P → X.w = w → X.K = K → X.mg = mg → X.base = base → Fr X ["sign", "one", "other"] ["sign", "one", "other"] ["sign", "one", "other"] ["int", "GREATEST"] → X.env.scope = defScope s_p_reckoned → Room k X.A → ∀ (vs : List V) (H : Hp) (Q : VK) (E : XK), sp vs H Q E → WSs X (defBody s_p_reckoned) { nx := fun _ H' => Q .non H', rt := Q } (start ["sign", "one", "other"] vs) H) :
    CallOk P w K mg base (k + 1) "reckoned" ["sign", "one", "other"] sp := F.ok ⟨rfl, rfl, rfl, by decide +kernel, rfl, by decide +kernel, by decide +kernel⟩ (by decide +kernel) len hbody
abbrev ps_p_run : List Str := ["rows", "given", "most"]
abbrev G_p_run : List Str := ["Runner"]
theorem go_p_run {k : Nat} {sp : Sp} (F : Def K mg "run" s_p_run ["rows", "given", "most"]) (len : ∀ vs H Q E, sp vs H Q E → vs.length = 3)
    (hbody : ∀ X : Cx, X.prog = P → X.w = w → X.K = K → X.mg = mg → X.base = base → Fr X ["rows", "given", "most", "runner"] ["rows", "given", "most", "runner"] ["rows", "given", "most", "runner"] ["Runner"] → X.env.scope = defScope s_p_run → Room k X.A → ∀ (vs : List V) (H : Hp) (Q : VK) (E : XK), sp vs H Q E → WSs X (defBody s_p_run) { nx := fun _ H' => Q .non H', rt := Q } (start ["rows", "given", "most", "runner"] vs) H) :
    CallOk P w K mg base (k + 1) "run" ["rows", "given", "most"] sp := F.ok ⟨rfl, rfl, rfl, by decide +kernel, rfl, by decide +kernel, by decide +kernel⟩ (by decide +kernel) len hbody
abbrev ps_l_cell_at : List Str := ["_law_script", "_law_k"]
abbrev G_l_cell_at : List Str := ["len"]
theorem go_l_cell_at {k : Nat} {sp : Sp} (F : Def K mg "_law_cell_at" s_l_cell_at ["_law_script", "_law_k"]) (len : ∀ vs H Q E, sp vs H Q E → vs.length = 2)
    (hbody : ∀ X : Cx, X.prog = P → X.w = w → X.K = K → X.mg = mg → X.base = base → Fr X ["_law_script", "_law_k"] ["_law_script", "_law_k"] ["_law_script", "_law_k"] ["len"] → X.env.scope = defScope s_l_cell_at → Room k X.A → ∀ (vs : List V) (H : Hp) (Q : VK) (E : XK), sp vs H Q E → WSs X (defBody s_l_cell_at) { nx := fun _ H' => Q .non H', rt := Q } (start ["_law_script", "_law_k"] vs) H) :
    CallOk P w K mg base (k + 1) "_law_cell_at" ["_law_script", "_law_k"] sp := F.ok ⟨rfl, rfl, rfl, by decide +kernel, rfl, by decide +kernel, by decide +kernel⟩ (by decide +kernel) len hbody
abbrev ps_l_names : List Str := ["_law_cell"]
abbrev G_l_names : List Str := ["range"]
theorem go_l_names {k : Nat} {sp : Sp} (F : Def K mg "_law_names" s_l_names ["_law_cell"]) (len : ∀ vs H Q E, sp vs H Q E → vs.length = 1)
    (hbody : ∀ X : Cx, X.prog = P → X.w = w → X.K = K → X.mg = mg → X.base = base → Fr X ["_law_cell", "_law_letters", "_law_some", "_law_size", "_law_j", "_law_tail", "_law_k", "_law_word", "_law_place", "_law_words"] ["_law_cell", "_law_letters", "_law_some", "_law_size", "_law_j", "_law_tail", "_law_k", "_law_word", "_law_place", "_law_words"] ["_law_cell", "_law_letters", "_law_some", "_law_size", "_law_j", "_law_tail", "_law_k", "_law_word", "_law_place", "_law_words"] ["range"] → X.env.scope = defScope s_l_names → Room k X.A → ∀ (vs : List V) (H : Hp) (Q : VK) (E : XK), sp vs H Q E → WSs X (defBody s_l_names) { nx := fun _ H' => Q .non H', rt := Q } (start ["_law_cell", "_law_letters", "_law_some", "_law_size", "_law_j", "_law_tail", "_law_k", "_law_word", "_law_place", "_law_words"] vs) H) :
    CallOk P w K mg base (k + 1) "_law_names" ["_law_cell"] sp := F.ok ⟨rfl, rfl, rfl, by decide +kernel, rfl, by decide +kernel, by decide +kernel⟩ (by decide +kernel) len hbody
abbrev ps_l_whole : List Str := ["_law_found"]
abbrev G_l_whole : List Str := ["isinstance", "int", "bool"]
theorem go_l_whole {k : Nat} {sp : Sp} (F : Def K mg "_law_whole" s_l_whole ["_law_found"]) (len : ∀ vs H Q E, sp vs H Q E → vs.length = 1)
    (hbody : ∀ X : Cx, X.prog = P → X.w = w → X.K = K → X.mg = mg → X.base = base → Fr X ["_law_found"] ["_law_found"] ["_law_found"] ["isinstance", "int", "bool"] → X.env.scope = defScope s_l_whole → Room k X.A → ∀ (vs : List V) (H : Hp) (Q : VK) (E : XK), sp vs H Q E → WSs X (defBody s_l_whole) { nx := fun _ H' => Q .non H', rt := Q } (start ["_law_found"] vs) H) :
    CallOk P w K mg base (k + 1) "_law_whole" ["_law_found"] sp := F.ok ⟨rfl, rfl, rfl, by decide +kernel, rfl, by decide +kernel, by decide +kernel⟩ (by decide +kernel) len hbody
abbrev ps_l_alike : List Str := ["_law_found", "_law_due"]
abbrev G_l_alike : List Str := ["isinstance", "list", "tuple", "len", "all", "range", "str", "_law_whole"]
theorem go_l_alike {k : Nat} {sp : Sp} (F : Def K mg "_law_alike" s_l_alike ["_law_found", "_law_due"]) (len : ∀ vs H Q E, sp vs H Q E → vs.length = 2)
    (hbody : ∀ X : Cx, X.prog = P → X.w = w → X.K = K → X.mg = mg → X.base = base → Fr X ["_law_found", "_law_due", "_law_k"] ["_law_found", "_law_due"] ["_law_found", "_law_due"] ["isinstance", "list", "tuple", "len", "all", "range", "str", "_law_whole"] → X.env.scope = defScope s_l_alike → Room k X.A → ∀ (vs : List V) (H : Hp) (Q : VK) (E : XK), sp vs H Q E → WSs X (defBody s_l_alike) { nx := fun _ H' => Q .non H', rt := Q } (start ["_law_found", "_law_due", "_law_k"] vs) H) :
    CallOk P w K mg base (k + 1) "_law_alike" ["_law_found", "_law_due"] sp := F.ok ⟨rfl, rfl, rfl, by decide +kernel, rfl, by decide +kernel, by decide +kernel⟩ (by decide +kernel) len hbody
abbrev ps_l_same_values : List Str := ["_law_found", "_law_due"]
abbrev G_l_same_values : List Str := ["isinstance", "dict", "len", "_law_whole"]
theorem go_l_same_values {k : Nat} {sp : Sp} (F : Def K mg "_law_same_values" s_l_same_values ["_law_found", "_law_due"]) (len : ∀ vs H Q E, sp vs H Q E → vs.length = 2)
    (hbody : ∀ X : Cx, X.prog = P → X.w = w → X.K = K → X.mg = mg → X.base = base → Fr X ["_law_found", "_law_due", "_law_name"] ["_law_found", "_law_due", "_law_name"] ["_law_found", "_law_due", "_law_name"] ["isinstance", "dict", "len", "_law_whole"] → X.env.scope = defScope s_l_same_values → Room k X.A → ∀ (vs : List V) (H : Hp) (Q : VK) (E : XK), sp vs H Q E → WSs X (defBody s_l_same_values) { nx := fun _ H' => Q .non H', rt := Q } (start ["_law_found", "_law_due", "_law_name"] vs) H) :
    CallOk P w K mg base (k + 1) "_law_same_values" ["_law_found", "_law_due"] sp := F.ok ⟨rfl, rfl, rfl, by decide +kernel, rfl, by decide +kernel, by decide +kernel⟩ (by decide +kernel) len hbody
abbrev ps_l_sums : List Str := ["_law_start", "_law_count", "_law_many"]
abbrev G_l_sums : List Str := ["range"]
theorem go_l_sums {k : Nat} {sp : Sp} (F : Def K mg "_law_sums" s_l_sums ["_law_start", "_law_count", "_law_many"]) (len : ∀ vs H Q E, sp vs H Q E → vs.length = 3)
    (hbody : ∀ X : Cx, X.prog = P → X.w = w → X.K = K → X.mg = mg → X.base = base → Fr X ["_law_start", "_law_count", "_law_many", "_law_said", "_law_k"] ["_law_start", "_law_count", "_law_many", "_law_said", "_law_k"] ["_law_start", "_law_count", "_law_many", "_law_said", "_law_k"] ["range"] → X.env.scope = defScope s_l_sums → Room k X.A → ∀ (vs : List V) (H : Hp) (Q : VK) (E : XK), sp vs H Q E → WSs X (defBody s_l_sums) { nx := fun _ H' => Q .non H', rt := Q } (start ["_law_start", "_law_count", "_law_many", "_law_said", "_law_k"] vs) H) :
    CallOk P w K mg base (k + 1) "_law_sums" ["_law_start", "_law_count", "_law_many"] sp := F.ok ⟨rfl, rfl, rfl, by decide +kernel, rfl, by decide +kernel, by decide +kernel⟩ (by decide +kernel) len hbody
abbrev ps_law : List Str := ["_law_script"]
abbrev G_law : List Str := ["_law_names", "_law_cell_at", "max", "run", "isinstance", "tuple", "len", "_law_sums", "min", "_law_alike", "_law_same_values"]
theorem go_law {k : Nat} {sp : Sp} {f : Addr} {fd : FuncData} (F : Fun K "law" "law" s_law f fd) (len : ∀ vs H Q E, sp vs H Q E → vs.length = 1)
    (hbody : ∀ X : Cx, X.prog = P → X.w = w → X.K = K → X.mg = mg → X.base = base → Fr X ["_law_script", "_law_names_here", "_law_first", "_law_other", "_law_start", "_law_kind", "_law_aloud", "_law_count", "_law_steps", "_law_body", "_law_rows", "_law_most", "_law_found", "_law_said", "_law_total"] ["_law_script", "_law_names_here", "_law_first", "_law_other", "_law_start", "_law_kind", "_law_aloud", "_law_count", "_law_steps", "_law_body", "_law_rows", "_law_most", "_law_found", "_law_said", "_law_total"] ["_law_script", "_law_names_here", "_law_first", "_law_other", "_law_start", "_law_kind", "_law_aloud", "_law_count", "_law_steps", "_law_body", "_law_rows", "_law_most", "_law_found", "_law_said", "_law_total"] ["_law_names", "_law_cell_at", "max", "run", "isinstance", "tuple", "len", "_law_sums", "min", "_law_alike", "_law_same_values"] → X.env.scope = defScope s_law → Room k X.A → ∀ (vs : List V) (H : Hp) (Q : VK) (E : XK), sp vs H Q E → WSs X (defBody s_law) { nx := fun _ H' => Q .non H', rt := Q } (start ["_law_script", "_law_names_here", "_law_first", "_law_other", "_law_start", "_law_kind", "_law_aloud", "_law_count", "_law_steps", "_law_body", "_law_rows", "_law_most", "_law_found", "_law_said", "_law_total"] vs) H) :
    FnOk P w K mg base CX0 (k + 1) f fd ["_law_script"] sp := LM.Fun.okW F ⟨rfl, rfl, rfl, by decide +kernel, rfl, by decide +kernel, by decide +kernel⟩ (by decide +kernel) len hbody
end
/-! ### texts by their codes; what is a name; _law_names -/
def tx (l : List Nat) : Str := ⟨l.toArray⟩
theorem tx_append (l m : List Nat) : tx l ++ tx m = tx (l ++ m) := by
  show (⟨l.toArray ++ m.toArray⟩ : Str) = ⟨(l ++ m).toArray⟩
  rw [List.append_toArray]
theorem tx_length (l : List Nat) : (tx l).length = l.length := List.size_toArray
theorem tx_inj {l m : List Nat} (h : tx l = tx m) : l = m := by
  have e : l.toArray = m.toArray := congrArg Str.cps h
  have := congrArg Array.toList e
  simpa using this
theorem tx_of (s : Str) : s = tx s.cps.toList := by
  show s = (⟨s.cps.toList.toArray⟩ : Str)
  rw [Array.toArray_toList]
theorem cut_to (l : List Nat) (n : Nat) : cutS (tx l) none (some (n : Int)) = tx (l.take n) := by
  unfold cutS
  have e : (tx l).cps.toList = l := by simp [tx]
  rw [e, tx_length, HT.sIx_none, HT.sIx_nat]
  show tx ((l.drop 0).take (min n l.length - 0)) = tx (l.take n)
  rw [List.drop_zero, Nat.sub_zero]
  congr 1
  by_cases h : n ≤ l.length
  · rw [Nat.min_eq_left h]
  · rw [Nat.min_eq_right (by omega), List.take_of_length_le (by omega), List.take_of_length_le (by omega)]
theorem cut_from_to (l : List Nat) (a b : Nat) (ha : a ≤ l.length) (hb : b ≤ l.length) : cutS (tx l) (some (a : Int)) (some (b : Int)) = tx ((l.drop a).take (b - a)) := by
  unfold cutS
  have e : (tx l).cps.toList = l := by simp [tx]
  rw [e, tx_length, HT.sIx_nat, HT.sIx_nat, Nat.min_eq_left ha, Nat.min_eq_left hb]
  rfl
/-- the words of the rows -/
def reserved : List (List Nat) := [[115, 97, 121], [119, 104, 101, 110], [108, 111, 111, 112], [97, 103, 97, 105, 110], [101, 110, 100]]
def nameL (l : List Nat) : Bool := Nat.ble 1 l.length && Nat.ble l.length 6 && l.all (fun c => Nat.ble 97 c && Nat.ble c 122) && !(reserved.any fun r => r == l)
def isName (s : Str) : Bool := nameL s.cps.toList
theorem isName_tx (l : List Nat) : isName (tx l) = nameL l := by
  unfold isName
  simp [tx]
def letter (i : Int) : Nat := 97 + (i % 26).toNat
theorem atI_letter (i : Int) : ∃ c, atI ("abcdefghijklmnopqrstuvwxyz" : Str).cps.toList (i % 26) = some c ∧ (⟨#[c]⟩ : Str) = tx [letter i] := by
  have e : ("abcdefghijklmnopqrstuvwxyz" : Str).cps.toList = (List.range 26).map (97 + ·) := by decide +kernel
  rw [e]
  have h0 : 0 ≤ i % 26 := Int.emod_nonneg _ (by decide)
  have h1 : i % 26 < 26 := Int.emod_lt_of_pos _ (by decide)
  obtain ⟨k, hk⟩ : ∃ k : Nat, i % 26 = k := ⟨(i % 26).toNat, by omega⟩
  have hk2 : k < 26 := by omega
  refine ⟨97 + k, ?_, ?_⟩
  · rw [hk]
    refine atI_nat ?_
    rw [List.getElem?_map, List.getElem?_range hk2]
    rfl
  · unfold letter
    rw [hk]
    rfl
theorem letter_lt (i : Int) : ∃ d : Nat, d < 26 ∧ letter i = 97 + d := ⟨(i % 26).toNat, by omega, rfl⟩
theorem join_empty : ∀ ls : List (List Nat), Txt.join ("" : Str) (ls.map tx) = tx ls.flatten := by
  have z : ("" : Str) = tx [] := by decide +kernel
  intro ls
  rw [show ∀ (y : Str) ps, Txt.join y ps = Str.join y ps from fun y ps => PySem.StrLaws.glued_eq_join y ps, z]
  induction ls with
  | nil => rfl
  | cons l r ih =>
    cases r with
    | nil =>
      show tx l = tx (l ++ [])
      rw [List.append_nil]
    | cons m r =>
      show tx l ++ tx [] ++ Str.join (tx []) (List.map tx (m :: r)) = tx (l ++ (m :: r).flatten)
      rw [ih, tx_append, tx_append, List.append_nil]
/-- the tail of letters that begins by d -/
def tailL (d : Nat) : List Nat := (List.range 6).map fun j => 97 + (d + 5 * j + 1) % 26
theorem nameL_of {l : List Nat} (h1 : 1 ≤ l.length) (h2 : l.length ≤ 6) (h3 : ∀ c ∈ l, 97 ≤ c ∧ c ≤ 122) (h4 : ∀ r ∈ reserved, r ≠ l) : nameL l = true := by
  unfold nameL
  rw [Bool.and_eq_true, Bool.and_eq_true, Bool.and_eq_true]
  refine ⟨⟨⟨Nat.ble_eq_true_of_le h1, Nat.ble_eq_true_of_le h2⟩, List.all_eq_true.mpr fun c hc => ?_⟩, ?_⟩
  · rw [Nat.ble_eq_true_of_le (h3 c hc).1, Nat.ble_eq_true_of_le (h3 c hc).2]
    rfl
  · have : reserved.any (fun r => r == l) = false := by
      rw [List.any_eq_false]
      intro r hr
      rw [beq_iff_eq]
      exact h4 r hr
    rw [this]
    rfl
theorem tail_rng (d : Nat) : ∀ c ∈ tailL d, 97 ≤ c ∧ c ≤ 122 := fun c hc => by
  obtain ⟨j, _, rfl⟩ := List.mem_map.mp hc
  constructor <;> omega
theorem tail_len (d : Nat) : (tailL d).length = 6 := rfl
/-- words of the three kinds are none of the rows' words -/
def okA : Bool := (List.range 26).all fun d => reserved.all fun r => (List.range r.length).all fun pl => !(((tailL d).take r.length).eraseIdx pl == r.eraseIdx pl)
def okB : Bool := (List.range 26).all fun d => reserved.all fun r => (List.range 6).all fun m => !((tailL d).take m == r.drop 1)
def okC : Bool := (List.range 26).all fun b => reserved.all fun r => (List.range 6).all fun m => !(((List.range m).map fun j => 97 + (b + 3 * j) % 26) == r.drop 1)
theorem okA_all : okA = true := by decide +kernel
theorem okB_all : okB = true := by decide +kernel
theorem okC_all : okC = true := by decide +kernel
theorem okA_at {d a sz pl : Nat} (h1 : d < 26) (h2 : a < 26) (h3 : sz < 7) (h4 : pl < sz) : nameL ((tailL d).take pl ++ [97 + a] ++ ((tailL d).drop (pl + 1)).take (sz - (pl + 1))) = true := by
  have hl := tail_len d
  have l1 : ((tailL d).take pl).length = pl := by rw [List.length_take]; omega
  have l2 : (((tailL d).drop (pl + 1)).take (sz - (pl + 1))).length = sz - (pl + 1) := by rw [List.length_take, List.length_drop]; omega
  have hlen : ((tailL d).take pl ++ [97 + a] ++ ((tailL d).drop (pl + 1)).take (sz - (pl + 1))).length = sz := by
    rw [List.length_append, List.length_append, l1, l2, List.length_singleton]; omega
  refine nameL_of (by omega) (by omega) (fun c hc => ?_) fun r hr e => ?_
  · rcases List.mem_append.mp hc with hc | hc
    · rcases List.mem_append.mp hc with hc | hc
      · exact tail_rng d c (List.mem_of_mem_take hc)
      · rw [List.mem_singleton] at hc
        omega
    · exact tail_rng d c (List.mem_of_mem_drop (List.mem_of_mem_take hc))
  · have hrl : r.length = sz := by rw [e, hlen]
    have h := okA_all
    unfold okA at h
    have h := List.all_eq_true.mp (List.all_eq_true.mp (List.all_eq_true.mp h d (List.mem_range.mpr h1)) r hr) pl (List.mem_range.mpr (by omega))
    have e1 : ((tailL d).take sz).eraseIdx pl = ((tailL d).take pl ++ [97 + a] ++ ((tailL d).drop (pl + 1)).take (sz - (pl + 1))).eraseIdx pl := by
      rw [List.eraseIdx_eq_take_drop_succ, List.eraseIdx_eq_take_drop_succ, List.take_take, Nat.min_eq_left (by omega), List.append_assoc, List.take_append_of_le_length (Nat.le_of_eq l1.symm), List.take_of_length_le (Nat.le_of_eq l1), List.drop_append, l1, List.drop_of_length_le (by omega : ((tailL d).take pl).length ≤ pl + 1),
        show pl + 1 - pl = 1 by omega, List.nil_append, List.drop_take]
      rfl
    rw [← e, ← hrl] at e1
    rw [e1] at h
    simp at h
theorem okB_at {d a m : Nat} (h1 : d < 26) (h2 : a < 26) (h3 : m < 6) : nameL ([97 + a] ++ (tailL d).take m) = true := by
  have hl := tail_len d
  refine nameL_of (by simp) (by rw [List.length_append, List.length_take, List.length_singleton]; omega) (fun c hc => ?_) fun r hr e => ?_
  · rcases List.mem_append.mp hc with hc | hc
    · rw [List.mem_singleton] at hc
      omega
    · exact tail_rng d c (List.mem_of_mem_take hc)
  · have h := okB_all
    unfold okB at h
    have h := List.all_eq_true.mp (List.all_eq_true.mp (List.all_eq_true.mp h d (List.mem_range.mpr h1)) r hr) m (List.mem_range.mpr h3)
    rw [e] at h
    simp at h
theorem okC_at {b a m : Nat} (h1 : b < 26) (h2 : a < 26) (h3 : m < 6) : nameL ((97 + a) :: (List.range m).map fun j => 97 + (b + 3 * j) % 26) = true := by
  refine nameL_of (by simp) (by rw [List.length_cons, List.length_map, List.length_range]; omega) (fun c hc => ?_) fun r hr e => ?_
  · rcases List.mem_cons.mp hc with hc | hc
    · omega
    · obtain ⟨j, _, rfl⟩ := List.mem_map.mp hc
      constructor <;> omega
  · have h := okC_all
    unfold okC at h
    have h := List.all_eq_true.mp (List.all_eq_true.mp (List.all_eq_true.mp h b (List.mem_range.mpr h1)) r hr) m (List.mem_range.mpr h3)
    rw [e] at h
    simp at h
theorem letter_add (i : Int) (j : Nat) : letter (i + j) = 97 + ((i % 26).toNat + j) % 26 := by
  unfold letter
  omega
/-! ### _law_cell_at, _law_mixed, _law_value, _law_let -/
section
variable {P : Program} {w : World} {K : PySem.W.Frag} {mg : Str → Option Value} {base : Heap}
theorem atI_map {ns : List Int} {k : Nat} (h : k < ns.length) : atI (ns.map V.int) (k : Int) = some (.int (ns.getD k 0)) := by
  refine atI_nat ?_
  rw [List.getElem?_map, List.getElem?_eq_getElem h]
  simp [List.getD, h]
theorem atI_strs {ns : List Str} {i : Int} (h0 : 0 ≤ i) (h : i < ns.length) : ∃ s, s ∈ ns ∧ atI (ns.map V.str) i = some (.str s) := by
  obtain ⟨k, rfl⟩ : ∃ k : Nat, i = k := ⟨i.toNat, by omega⟩
  have hk : k < ns.length := by omega
  refine ⟨ns[k], List.getElem_mem hk, atI_nat ?_⟩
  rw [List.getElem?_map, List.getElem?_eq_getElem hk]
  rfl
def spCellAt (K : PySem.W.Frag) : Sp := fun vs H Q _ => ∃ (a : Addr) (ns : List Int) (k : Nat), vs = [.ref a, .int k] ∧ SqL K H a (ns.map V.int) ∧ Q (.int (ns.getD k 0)) H
theorem ok_cell_at (T : Txt K mg) : CallOk P w K mg base 1 "_law_cell_at" ["_law_script", "_law_k"] (spCellAt K) := by
  refine go_l_cell_at T.d_l_cell_at (fun vs H Q E h => ?_) ?_
  · obtain ⟨a, ns, k, rfl, _⟩ := h
    rfl
  intro X e1 e2 e3 e4 e5 C sc hr vs H Q E h
  subst e1 e2 e3 e4 e5
  obtain ⟨a, ns, k, rfl, hS, q⟩ := h
  show WSs X _ _ [some (.ref a), some (.int k)] H
  refine s_cons ?_
  have b1 := T.b_len
  wtm_at "lm"
  refine ite_dec (fun c => ?_) (fun c => ?_)
  · wtm_at "lm"
    rw [List.length_map] at c
    exact i_lst hS (atI_map (by omega)) q
  · wtm_at "lm"
    rw [List.length_map] at c
    rw [List.getD_eq_getElem?_getD, List.getElem?_eq_none (by omega)] at q
    exact q
def mixed (c k : Int) : Int := ((c + 7 * k + 3) * 48271 % 2147483647) * ((c + 7 * k + 3) * 48271 % 2147483647) % 2147483647
theorem mixed_lo (c k : Int) : 0 ≤ mixed c k := Int.emod_nonneg _ (by decide)
theorem mixed_hi (c k : Int) : mixed c k < 2147483647 := Int.emod_lt_of_pos _ (by decide)
def spMixed : Sp := fun vs H Q _ => ∃ c k : Int, vs = [.int c, .int k] ∧ Q (.int (mixed c k)) H
def spValue (K : PySem.W.Frag) : Sp := fun vs H Q _ => ∃ (kd n : Int) (a : Addr) (ns : List Str), vs = [.int kd, .int n, .ref a] ∧ 0 ≤ kd ∧ SqL K H a (ns.map V.str) ∧ ns.length = 16 ∧ kd < 16 ∧ ∀ k, KeyOk ns k → Q (kV k) H
theorem sg_of (i : Int) (h0 : 0 ≤ i) (h1 : i < 5) : ∃ sg : Sg, ∃ c, atI ("+-*</" : Str).cps.toList i = some c ∧ (⟨#[c]⟩ : Str) = sg.nm := by
  have : i = 0 ∨ i = 1 ∨ i = 2 ∨ i = 3 ∨ i = 4 := by omega
  rcases this with rfl | rfl | rfl | rfl | rfl
  · exact ⟨.add, 43, by decide +kernel, by decide +kernel⟩
  · exact ⟨.sub, 45, by decide +kernel, by decide +kernel⟩
  · exact ⟨.mul, 42, by decide +kernel, by decide +kernel⟩
  · exact ⟨.lss, 60, by decide +kernel, by decide +kernel⟩
  · exact ⟨.div, 47, by decide +kernel, by decide +kernel⟩
def spLet (K : PySem.W.Frag) : Sp := fun vs H Q _ => ∃ (n : Int) (a : Addr) (ns : List Str), vs = [.int n, .ref a] ∧ SqL K H a (ns.map V.str) ∧ ns.length = 16 ∧
  ∀ (t : Addr) (H' : Hp) (to : Str) (sg : Sg) (x y : Key), Same H H' → H' t = some (.tup [.str "let", .str to, .str sg.nm, kV x, kV y]) → to ∈ ns → KeyOk ns x → KeyOk ns y → Q (.ref t) H'
end
/-! ### the sixteen names, told: no two alike -/
/-- the k-th name of a cell, by its letters -/
def nameAt (c : Int) (k : Nat) : List Nat :=
  if c % 3 = 1 then (tailL (c / 72 % 26).toNat).take (c / 18 % (1 + c / 3 % 6)).toNat ++ [letter (c / 72 + 5 * k)] ++ ((tailL (c / 72 % 26).toNat).drop ((c / 18 % (1 + c / 3 % 6)).toNat + 1)).take ((1 + c / 3 % 6).toNat - ((c / 18 % (1 + c / 3 % 6)).toNat + 1))
  else if c % 3 = 2 then [letter (c / 72 + 7 * (k / 4 : Nat))] ++ (tailL (c / 72 % 26).toNat).take ((k : Int) % 4 + c / 18 % 3).toNat
  else letter (c / 72 + 5 * k) :: (List.range ((c / 26 + k) % 6).toNat).map fun j => 97 + (((c / 7 + k) % 26).toNat + 3 * j) % 26
theorem letter_rng (i : Int) : letter i = 97 + (i % 26).toNat := rfl
theorem letter_inj {i j : Int} (h : letter i = letter j) : i % 26 = j % 26 := by
  unfold letter at h
  omega
theorem nameAt_ok (c : Int) (k : Nat) : nameL (nameAt c k) = true := by
  unfold nameAt
  have hd : (c / 72 % 26).toNat < 26 := by omega
  split
  · have h1 : 0 ≤ c / 18 % (1 + c / 3 % 6) := Int.emod_nonneg _ (by omega)
    have h2 : c / 18 % (1 + c / 3 % 6) < 1 + c / 3 % 6 := Int.emod_lt_of_pos _ (by omega)
    rw [letter_rng]
    exact okA_at hd (by omega) (by omega) (by omega)
  · split
    · rw [letter_rng]
      exact okB_at hd (by omega) (by omega)
    · rw [letter_rng]
      exact okC_at (by omega) (by omega) (by omega)
theorem nameAt_inj {c : Int} {k l : Nat} (hk : k < 16) (hl : l < 16) (h : nameAt c k = nameAt c l) : k = l := by
  unfold nameAt at h
  split at h
  · rw [List.append_assoc, List.append_assoc] at h
    have h3 := List.append_cancel_left h
    simp only [List.cons_append, List.nil_append, List.cons.injEq] at h3
    have := letter_inj h3.1
    omega
  · split at h
    · rw [List.cons_append, List.cons_append, List.cons.injEq] at h
      have h1 := letter_inj h.1
      have h2 := congrArg List.length h.2
      rw [List.nil_append, List.nil_append, List.length_take, List.length_take, tail_len] at h2
      omega
    · rw [List.cons.injEq] at h
      have := letter_inj h.1
      omega
def words10 : List (List Nat) := [[119, 104, 101, 110, 115], [101, 115, 115, 97, 121], [114, 101, 108, 111, 111, 112], [108, 101, 116], [101, 110, 100, 115], [115, 97, 121, 101, 114], [108, 111, 111, 112, 115], [115, 101, 110, 100], [97, 103, 97, 105, 110, 115], [97, 119, 104, 101, 110]]
def noA : Bool := (List.range 26).all fun d => words10.all fun r => (List.range r.length).all fun pl => !(((tailL d).take r.length).eraseIdx pl == r.eraseIdx pl)
def noB : Bool := (List.range 26).all fun d => words10.all fun r => (List.range 6).all fun m => !((tailL d).take m == r.drop 1)
def noC : Bool := (List.range 26).all fun b => words10.all fun r => (List.range 6).all fun m => !(((List.range m).map fun j => 97 + (b + 3 * j) % 26) == r.drop 1)
theorem noA_all : noA = true := by decide +kernel
theorem noB_all : noB = true := by decide +kernel
theorem noC_all : noC = true := by decide +kernel
theorem noA_at {d a sz pl : Nat} {r : List Nat} (hr : r ∈ words10) (h1 : d < 26) (h3 : sz < 7) (h4 : pl < sz) : r ≠ (tailL d).take pl ++ [a] ++ ((tailL d).drop (pl + 1)).take (sz - (pl + 1)) := fun e => by
  have hl := tail_len d
  have l1 : ((tailL d).take pl).length = pl := by rw [List.length_take]; omega
  have l2 : (((tailL d).drop (pl + 1)).take (sz - (pl + 1))).length = sz - (pl + 1) := by rw [List.length_take, List.length_drop]; omega
  have hlen : ((tailL d).take pl ++ [a] ++ ((tailL d).drop (pl + 1)).take (sz - (pl + 1))).length = sz := by
    rw [List.length_append, List.length_append, l1, l2, List.length_singleton]; omega
  have hrl : r.length = sz := by rw [e, hlen]
  have h := noA_all
  unfold noA at h
  have h := List.all_eq_true.mp (List.all_eq_true.mp (List.all_eq_true.mp h d (List.mem_range.mpr h1)) r hr) pl (List.mem_range.mpr (by omega))
  have e1 : ((tailL d).take sz).eraseIdx pl = ((tailL d).take pl ++ [a] ++ ((tailL d).drop (pl + 1)).take (sz - (pl + 1))).eraseIdx pl := by
    rw [List.eraseIdx_eq_take_drop_succ, List.eraseIdx_eq_take_drop_succ, List.take_take, Nat.min_eq_left (by omega), List.append_assoc, List.take_append_of_le_length (Nat.le_of_eq l1.symm), List.take_of_length_le (Nat.le_of_eq l1), List.drop_append, l1, List.drop_of_length_le (by omega : ((tailL d).take pl).length ≤ pl + 1),
      show pl + 1 - pl = 1 by omega, List.nil_append, List.drop_take]
    rfl
  rw [← e, ← hrl] at e1
  rw [e1] at h
  simp at h
theorem nameAt_word {c : Int} {k : Nat} {r : List Nat} (hr : r ∈ words10) : r ≠ nameAt c k := by
  unfold nameAt
  have hd : (c / 72 % 26).toNat < 26 := by omega
  split
  · have h1 : 0 ≤ c / 18 % (1 + c / 3 % 6) := Int.emod_nonneg _ (by omega)
    have h2 : c / 18 % (1 + c / 3 % 6) < 1 + c / 3 % 6 := Int.emod_lt_of_pos _ (by omega)
    exact noA_at hr hd (by omega) (by omega)
  · split
    · intro e
      have h := noB_all
      unfold noB at h
      have h := List.all_eq_true.mp (List.all_eq_true.mp (List.all_eq_true.mp h _ (List.mem_range.mpr hd)) r hr) ((k : Int) % 4 + c / 18 % 3).toNat (List.mem_range.mpr (by omega))
      rw [e] at h
      simp at h
    · intro e
      have h := noC_all
      unfold noC at h
      have h := List.all_eq_true.mp (List.all_eq_true.mp (List.all_eq_true.mp h ((c / 7 + k) % 26).toNat (List.mem_range.mpr (by omega))) r hr) ((c / 26 + k) % 6).toNat (List.mem_range.mpr (by omega))
      rw [e] at h
      simp at h
theorem tail_at (d : Nat) {i : Nat} (h : i < 6) : (tailL d)[i]? = some (97 + (d + 5 * i + 1) % 26) := by
  unfold tailL
  rw [List.getElem?_map, List.getElem?_range h]
  rfl
/-- the last name does not end by zz as one of three letters -/
theorem nameAt_zz {c : Int} {x : Nat} : nameAt c 15 ≠ [x, 122, 122] := by
  unfold nameAt
  have hd : (c / 72 % 26).toNat < 26 := by omega
  split
  · have h1 : 0 ≤ c / 18 % (1 + c / 3 % 6) := Int.emod_nonneg _ (by omega)
    have h2 : c / 18 % (1 + c / 3 % 6) < 1 + c / 3 % 6 := Int.emod_lt_of_pos _ (by omega)
    intro e
    generalize hn : (1 + c / 3 % 6).toNat = n at e
    generalize hp : (c / 18 % (1 + c / 3 % 6)).toNat = pl at e
    have hl := tail_len (c / 72 % 26).toNat
    have l1 : ((tailL (c / 72 % 26).toNat).take pl).length = pl := by rw [List.length_take]; omega
    have l2 : (((tailL (c / 72 % 26).toNat).drop (pl + 1)).take (n - (pl + 1))).length = n - (pl + 1) := by rw [List.length_take, List.length_drop]; omega
    have hlen := congrArg List.length e
    rw [List.length_append, List.length_append, l1, l2, List.length_singleton] at hlen
    have hn3 : n = 3 := by
      have : ([x, 122, 122] : List Nat).length = 3 := rfl
      omega
    subst hn3
    have g1 := congrArg (fun l => l[1]?) e
    have g2 := congrArg (fun l => l[2]?) e
    have hpl : pl = 0 ∨ pl = 1 ∨ pl = 2 := by omega
    have t0 := tail_at (c / 72 % 26).toNat (i := 0) (by decide)
    have t1 := tail_at (c / 72 % 26).toNat (i := 1) (by decide)
    have t2 := tail_at (c / 72 % 26).toNat (i := 2) (by decide)
    rcases hpl with rfl | rfl | rfl
    · replace g1 : some (97 + ((c / 72 % 26).toNat + 5 * 1 + 1) % 26) = some 122 := g1
      replace g2 : some (97 + ((c / 72 % 26).toNat + 5 * 2 + 1) % 26) = some 122 := g2
      rw [Option.some.injEq] at g1 g2
      omega
    · replace g1 : some (letter (c / 72 + 5 * (15 : Nat))) = some 122 := g1
      replace g2 : some (97 + ((c / 72 % 26).toNat + 5 * 2 + 1) % 26) = some 122 := g2
      rw [Option.some.injEq] at g1 g2
      unfold letter at g1
      omega
    · replace g1 : some (97 + ((c / 72 % 26).toNat + 5 * 1 + 1) % 26) = some 122 := g1
      replace g2 : some (letter (c / 72 + 5 * (15 : Nat))) = some 122 := g2
      rw [Option.some.injEq] at g1 g2
      unfold letter at g2
      omega
  · split
    · intro e
      have := congrArg List.length e
      rw [List.length_append, List.length_take, tail_len] at this
      have h3 : ([x, 122, 122] : List Nat).length = 3 := rfl
      have h1 : ([letter (c / 72 + 7 * (15 / 4 : Nat))] : List Nat).length = 1 := rfl
      omega
    · intro e
      rw [List.cons.injEq] at e
      have e2 := e.2
      have hl := congrArg List.length e2
      rw [List.length_map, List.length_range] at hl
      replace hl : ((c / 26 + (15 : Nat)) % 6).toNat = 2 := hl
      rw [hl] at e2
      replace e2 : [97 + (((c / 7 + (15 : Nat)) % 26).toNat + 3 * 0) % 26, 97 + (((c / 7 + (15 : Nat)) % 26).toNat + 3 * 1) % 26] = [122, 122] := e2
      rw [List.cons.injEq, List.cons.injEq] at e2
      omega
/-- what is used of the names -/
structure NamesOk (ns : List Str) : Prop where
  nd : ns.Nodup
  zz : ∀ x, ns[15]? ≠ some (tx [x, 122, 122])
theorem words_tx : ∀ s ∈ (["whens", "essay", "reloop", "let", "ends", "sayer", "loops", "send", "agains", "awhen"] : List Str), ∃ r, r ∈ words10 ∧ s = tx r := fun s hs => by
  simp only [List.mem_cons, List.not_mem_nil, or_false] at hs
  rcases hs with rfl | rfl | rfl | rfl | rfl | rfl | rfl | rfl | rfl | rfl
  · exact ⟨[119, 104, 101, 110, 115], by decide, by decide +kernel⟩
  · exact ⟨[101, 115, 115, 97, 121], by decide, by decide +kernel⟩
  · exact ⟨[114, 101, 108, 111, 111, 112], by decide, by decide +kernel⟩
  · exact ⟨[108, 101, 116], by decide, by decide +kernel⟩
  · exact ⟨[101, 110, 100, 115], by decide, by decide +kernel⟩
  · exact ⟨[115, 97, 121, 101, 114], by decide, by decide +kernel⟩
  · exact ⟨[108, 111, 111, 112, 115], by decide, by decide +kernel⟩
  · exact ⟨[115, 101, 110, 100], by decide, by decide +kernel⟩
  · exact ⟨[97, 103, 97, 105, 110, 115], by decide, by decide +kernel⟩
  · exact ⟨[97, 119, 104, 101, 110], by decide, by decide +kernel⟩
theorem base_nd (c : Int) : ((List.range 16).map fun k => tx (nameAt c k)).Nodup := by
  rw [List.Nodup, List.pairwise_map]
  refine List.Pairwise.imp_of_mem (R := fun a b => a ≠ b) (fun {a b} ha hb h e => h ?_) List.nodup_range
  exact nameAt_inj (List.mem_range.mp ha) (List.mem_range.mp hb) (tx_inj e)
theorem base_ok (c : Int) : NamesOk ((List.range 16).map fun k => tx (nameAt c k)) := ⟨base_nd c, fun x e => by
  rw [List.getElem?_map, List.getElem?_range (by decide)] at e
  exact nameAt_zz (c := c) (tx_inj (Option.some.inj e))⟩
theorem set_nd {l : List Str} {k : Nat} {s : Str} (h : l.Nodup) (hs : s ∉ l) : (l.set k s).Nodup := by
  rw [List.Nodup, List.pairwise_iff_getElem] at h ⊢
  intro i j hi hj hij
  rw [List.length_set] at hi hj
  rw [List.getElem_set, List.getElem_set]
  split
  · split
    · omega
    · exact fun e => hs (e ▸ List.getElem_mem hj)
  · split
    · exact fun e => hs (e ▸ List.getElem_mem hi)
    · exact h i j hi hj hij
theorem set_ok (c : Int) {k : Nat} {s : Str} (hk : k < 8) (hs : s ∈ (["whens", "essay", "reloop", "let", "ends", "sayer", "loops", "send", "agains", "awhen"] : List Str)) : NamesOk (((List.range 16).map fun k => tx (nameAt c k)).set k s) := by
  obtain ⟨r, hr, rfl⟩ := words_tx s hs
  refine ⟨set_nd (base_nd c) fun hm => ?_, fun x e => ?_⟩
  · obtain ⟨k', _, e⟩ := List.mem_map.mp hm
    exact nameAt_word (c := c) (k := k') hr (tx_inj e.symm)
  · rw [List.getElem?_set_ne (by omega)] at e
    exact (base_ok c).zz x e
theorem base_is (c : Int) : ∀ s ∈ ((List.range 16).map fun k => tx (nameAt c k)), isName s = true := fun s hs => by
  obtain ⟨k, _, rfl⟩ := List.mem_map.mp hs
  rw [isName_tx]
  exact nameAt_ok c k
section
variable {P : Program} {w : World} {K : PySem.W.Frag} {mg : Str → Option Value} {base : Heap}
def spNames : Sp := fun vs H Q _ => ∃ c : Int, vs = [.int c] ∧ ∀ (p : Addr) (H' : Hp) (ns : List Str), Same H H' → H p = none → H' p = some (.lst (ns.map V.str)) → ns.length = 16 → (∀ s ∈ ns, isName s = true) → NamesOk ns → Q (.ref p) H'
theorem other_words : ∀ s ∈ (["whens", "essay", "reloop", "let", "ends", "sayer", "loops", "send", "agains", "awhen"] : List Str), isName s = true := by decide +kernel
theorem ok_names (T : Txt K mg) : CallOk P w K mg base 1 "_law_names" ["_law_cell"] spNames := by
  refine go_l_names T.d_l_names (fun vs H Q E h => ?_) ?_
  · obtain ⟨c, rfl, _⟩ := h
    rfl
  intro X e1 e2 e3 e4 e5 C sc hr vs H Q E h
  subst e1 e2 e3 e4 e5
  obtain ⟨c, rfl, q⟩ := h
  show WSs X _ _ [some (.int c), none, none, none, none, none, none, none, none, none] H
  have b1 := T.b_range
  refine s_cons ?_
  wtm_at "lm"
  intro p H1 hp s1 h1
  wtm_at "lm"
  refine w_lc (i := 4) C (by decide +kernel) (by rw [sc]; exact blkOk_by (by decide +kernel)) rfl (by wtm_at "lm.wip") (wi_range C (by wtm_at "lm.mem") b1 ?_)
  wtm_at "lm"
  refine ⟨by decide, by decide, ?_⟩
  refine lc_vals (f := fun i v => v = .int (0 + i)) (walk_range (lo := 0) (n := 6)) (fun j => .str (tx [letter (c / 72 + 5 * j + 1)])) (by decide) (fun _ _ => trivial) (fun j y H2 hj hy s2 => ?_) fun l H2 hl s2 h2 => ?_
  · subst hy
    rw [Int.zero_add]
    refine ⟨_, by wtm_at "lm.put", fun Y hY => ?_⟩
    have CY := hY.fr (L' := ["_law_j"]) (Vs' := ["_law_cell", "_law_letters", "_law_j"]) (G' := []) C (by decide +kernel)
    wtm_at "lm"
    obtain ⟨d, e1, e2⟩ := atI_letter (c / 72 + 5 * j + 1)
    exact i_str (by decide +kernel) e1 ⟨Same.refl _, by rw [e2]⟩
  have hm : (List.range 6).map (fun j : Nat => V.str (tx [letter (c / 72 + 5 * j + 1)])) = ((List.range 6).map fun j : Nat => tx [letter (c / 72 + 5 * j + 1)]).map V.str := by rw [List.map_map]; rfl
  rw [hm] at h2
  have ht : Txt.join ("" : Str) ((List.range 6).map fun j : Nat => tx [letter (c / 72 + 5 * j + 1)]) = tx (tailL (c / 72 % 26).toNat) := by
    have := join_empty ((List.range 6).map fun j : Nat => [letter (c / 72 + 5 * j + 1)])
    rw [List.map_map] at this
    refine this.trans ?_
    congr 1
    show [letter _, letter _, letter _, letter _, letter _, letter _] = [_, _, _, _, _, _]
    unfold letter
    simp only [List.cons.injEq, and_true]
    refine ⟨?_, ?_, ?_, ?_, ?_, ?_⟩ <;> (show 97 + _ = 97 + _; omega)
  refine ⟨l, _, rfl, SqL.of h2, by show 6 + 6 * 0 ≤ 16777216; decide, ?_⟩
  rw [ht]
  have hd : (c / 72 % 26).toNat < 26 := by omega
  generalize hdd : (c / 72 % 26).toNat = d at hd ⊢
  have p2 := s2 _ _ h1
  have tl := tail_len d
  obtain ⟨n, hsz, hn0, hn1⟩ : ∃ n : Nat, 1 + c / 3 % 6 = (n : Int) ∧ 0 < n ∧ n < 7 := ⟨(1 + c / 3 % 6).toNat, by omega, by omega, by omega⟩
  rw [hsz]
  wtm_at "lm"
  refine ⟨by decide, by decide, ?_⟩
  refine for_r (fun i σ H3 => ∃ (ns : List Str) (o4 o6 o7 o8 : Option V), σ = [some (.int c), some (.str "abcdefghijklmnopqrstuvwxyz"), some (.ref p), some (.int n), o4, some (.str (tx (tailL d))), o6, o7, o8, none] ∧
    ns = (List.range i).map (fun k => tx (nameAt c k)) ∧ Same H H3 ∧ H3 p = some (.lst (ns.map V.str))) ⟨[], _, _, _, _, rfl, rfl, s1.trans s2, p2⟩ ?_ ?_
  · rintro k σ H3 hk ⟨ns, o4, o6, o7, o8, rfl, hns, s3, p3⟩
    have hl3 : ns.length = k := by rw [hns, List.length_map, List.length_range]
    refine ⟨_, by wtm_at "lm.put", ?_⟩
    refine s_cons ?_
    wtm_at "lms"
    obtain ⟨a, e1, e2⟩ := atI_letter (c / 72 + 5 * k)
    refine i_str (by decide +kernel) e1 ?_
    rw [e2]
    wtm_at "lms"
    refine s_cut (fun σ' H' => ∃ (s : Str) (o4 o8 : Option V), σ' = [some (.int c), some (.str "abcdefghijklmnopqrstuvwxyz"), some (.ref p), some (.int n), o4, some (.str (tx (tailL d))), some (.int k), some (.str s), o8, none] ∧ s = tx (nameAt c k) ∧ H' = H3) ?_ ?_
    · wtm_at "lm"
      refine ite_dec (fun c1 => ?_) (fun c1 => ?_)
      · wtm_at "lm"
        refine b_mod (by omega) ?_
        obtain ⟨pl, hpl, hpl1⟩ : ∃ pl : Nat, c / 18 % (n : Int) = (pl : Int) ∧ pl < n := by
          have h1 : 0 ≤ c / 18 % (n : Int) := Int.emod_nonneg _ (by omega)
          have h2 : c / 18 % (n : Int) < n := Int.emod_lt_of_pos _ (by omega)
          exact ⟨(c / 18 % (n : Int)).toNat, by omega, by omega⟩
        rw [hpl]
        wtm_at "lm"
        refine l_str (by rw [tx_length, tl]; decide) ?_
        rw [cut_to]
        wtm_at "lm"
        refine b_adds (by rw [tx_length, tx_length, List.length_take, tl]; exact sz (by simp; omega)) ?_
        rw [tx_append]
        wtm_at "lm"
        rw [show (pl : Int) + 1 = ((pl + 1 : Nat) : Int) from rfl]
        refine l_str (by rw [tx_length, tl]; decide) ?_
        rw [cut_from_to _ _ _ (by omega) (by omega)]
        refine b_adds (by rw [tx_length, tx_length, List.length_append, List.length_take, List.length_take, List.length_drop, tl]; exact sz (by simp; omega)) ?_
        rw [tx_append]
        wtm_at "lm"
        exact ⟨_, _, _, rfl, by unfold nameAt; rw [if_pos c1, hdd, hsz, hpl]; rfl, rfl⟩
      · wtm_at "lm"
        refine ite_dec (fun c2 => ?_) (fun c2 => ?_)
        · wtm_at "lm"
          obtain ⟨b, e3, e4⟩ := atI_letter (c / 72 + 7 * (k / 4))
          refine i_str (by decide +kernel) e3 ?_
          rw [e4]
          wtm_at "lm"
          obtain ⟨m, hm1, hm2⟩ : ∃ m : Nat, (k : Int) % 4 + c / 18 % 3 = (m : Int) ∧ m < 6 := ⟨((k : Int) % 4 + c / 18 % 3).toNat, by omega, by omega⟩
          rw [hm1]
          refine l_str (by rw [tx_length, tl]; decide) ?_
          rw [cut_to]
          refine b_adds (by rw [tx_length, tx_length, List.length_take, tl]; exact sz (by simp; omega)) ?_
          rw [tx_append]
          wtm_at "lm"
          exact ⟨_, _, _, rfl, by unfold nameAt; rw [if_neg c1, if_pos c2, hdd, hm1]; rfl, rfl⟩
        · wtm_at "lm"
          obtain ⟨m, hm1, hm2⟩ : ∃ m : Nat, (c / 26 + (k : Int)) % 6 = (m : Int) ∧ m < 6 := ⟨((c / 26 + (k : Int)) % 6).toNat, by omega, by omega⟩
          rw [hm1]
          refine ⟨by omega, by omega, ?_⟩
          rw [Int.toNat_natCast]
          have hb1 : ((c / 7 + k) % 26).toNat < 26 := by omega
          refine for_r (fun i σ H' => ∃ o4 : Option V, i ≤ m ∧ σ = [some (.int c), some (.str "abcdefghijklmnopqrstuvwxyz"), some (.ref p), some (.int n), o4, some (.str (tx (tailL d))), some (.int k), some (.str (tx (letter (c / 72 + 5 * k) :: (List.range i).map fun j => 97 + (((c / 7 + k) % 26).toNat + 3 * j) % 26))), o8, none] ∧ H' = H3) ⟨_, Nat.zero_le _, rfl, rfl⟩ ?_ ?_
          · rintro j σ H' hj ⟨o4', hjm, rfl, rfl⟩
            refine ⟨_, by wtm_at "lm.put", ?_⟩
            wtm_at "lm"
            obtain ⟨b, e3, e4⟩ := atI_letter (c / 7 + 3 * j + k)
            refine i_str (by decide +kernel) e3 ?_
            rw [e4]
            refine b_adds (by rw [tx_length, tx_length]; exact sz (by simp; omega)) ?_
            rw [tx_append]
            wtm_at "lm"
            refine ⟨some (.int j), hj, ?_, rfl⟩
            have e5 : letter (c / 7 + 3 * j + k) = 97 + (((c / 7 + k) % 26).toNat + 3 * j) % 26 := by
              unfold letter
              omega
            rw [e5, List.range_succ, List.map_append]
            rfl
          · rintro σ H' ⟨o4', hjm, rfl, rfl⟩
            exact ⟨_, _, _, rfl, by unfold nameAt; rw [if_neg c1, if_neg c2, hm1]; rfl, rfl⟩
    · rintro σ' H' ⟨s, o4', o8', rfl, hs, rfl⟩
      wtm_at "lm"
      refine x_app p3 (by rw [List.length_map]; omega) ?_
      wtm_at "lm"
      refine ⟨ns ++ [s], _, _, _, _, rfl, by rw [List.range_succ, List.map_append, hns, hs]; rfl, Same.mut s3 hp, by rw [upd_same, List.map_append]; rfl⟩
  · rintro σ H3 ⟨ns, o4, o6, o7, o8, rfl, hns, s3, p3⟩
    have hl3 : ns.length = 16 := by rw [hns, List.length_map, List.length_range]; rfl
    have hn : ∀ s ∈ ns, isName s = true := by rw [hns]; exact base_is c
    wtm_at "lm"
    refine ite_dec (fun c1 => ?_) (fun c1 => ?_)
    · wtm_at "lm"
      intro u H4 hu s4 h4
      wtm_at "lm"
      obtain ⟨s, hs, e⟩ := atI_strs (ns := ["whens", "essay", "reloop", "let", "ends", "sayer", "loops", "send", "agains", "awhen"]) (i := c / 40 % 10) (by omega) (by show _ < (10 : Int); omega)
      refine i_lst (SqL.of h4) e ?_
      wtm_at "lm"
      have p4 := s4 _ _ p3
      obtain ⟨k, hk, hk1⟩ : ∃ k : Nat, c / 5 % 8 = (k : Int) ∧ k < 8 := ⟨(c / 5 % 8).toNat, by omega, by omega⟩
      rw [hk]
      refine p_lst p4 (Evl.ixN_nat (j := k) (by rw [List.length_map, hl3]; omega)) ?_
      wtm_at "lm"
      refine q p _ (ns.set k s) (Same.mut (s3.trans s4) hp) hp (by rw [upd_same, List.map_set]) (by rw [List.length_set]; exact hl3) (fun y hy => ?_) (by rw [hns]; exact set_ok c hk1 hs)
      rcases List.mem_or_eq_of_mem_set hy with hy | hy
      · exact hn y hy
      · exact hy ▸ other_words s hs
    · wtm_at "lm"
      exact q p H3 ns s3 hp p3 hl3 hn (by rw [hns]; exact base_ok c)
end
/-! ### _law_closed, _law_opened, _law_program -/
section
variable {P : Program} {w : World} {K : PySem.W.Frag} {mg : Str → Option Value} {base : Heap}
theorem Zip.size {F H : Hp} {ns : List Str} {S T a : Addr} {bs : List Addr} {vs : List V} {ts : List Str} {n : Nat} (z : Zip F H ns S T a bs vs ts n) : vs.length ≤ n := by
  obtain ⟨rs, f, ls, g, h1, h2, h3, h4, h5, h6, h7⟩ := z.ex
  have := len_cnts rs
  rw [h1.len]
  omega
theorem Zip.ne {F H : Hp} {ns : List Str} {S T a : Addr} {bs : List Addr} {vs : List V} {ts : List Str} {n : Nat} (z : Zip F H ns S T a bs vs ts n) : S ≠ T ∧ S ≠ a ∧ T ≠ a := by
  obtain ⟨rs, f, ls, g, h1, h2, h3, h4, h5, h6, h7⟩ := z.ex
  rw [List.nodup_cons, List.nodup_cons] at h3
  exact ⟨fun q => h3.1 (q ▸ List.mem_cons_self), fun q => h3.1 (q ▸ List.mem_cons_of_mem _ List.mem_cons_self), fun q => h3.2.1 (q ▸ List.mem_cons_self)⟩
theorem atI_top (a : Addr) (bs : List Addr) : atI ((a :: bs).reverse.map V.ref) (-1) = some (.ref a) := by
  rw [List.reverse_cons, List.map_append]
  exact atI_last _ _
theorem drop_top (a : Addr) (bs : List Addr) : ((a :: bs).reverse.map V.ref).dropLast = bs.reverse.map V.ref := by
  rw [List.reverse_cons, List.map_append]
  exact List.dropLast_concat
theorem last_top (a : Addr) (bs : List Addr) : ((a :: bs).reverse.map V.ref)[((a :: bs).reverse.map V.ref).length - 1]? = some (.ref a) := by
  rw [List.reverse_cons, List.map_append, List.length_append, List.getElem?_append_right (by show _ ≤ _ + 1 - 1; omega)]
  show [V.ref a][_]? = _
  simp
def spClosed : Sp := fun vs H Q _ => ∃ (F : Hp) (ns : List Str) (S T a b : Addr) (bs : List Addr) (us : List V) (ts : List Str) (n : Nat), vs = [.ref S, .ref T] ∧ n ≤ 100000 ∧ Zip F H ns S T a (b :: bs) us ts n ∧
  ∀ (H3 : Hp) (us' : List V), Zip F H3 ns S T b bs us' ts.dropLast (n + 1) → Q .non H3
theorem Zip.none {F H : Hp} {ns : List Str} {S T a : Addr} {bs : List Addr} {vs : List V} {ts : List Str} {n : Nat} (z : Zip F H ns S T a bs vs ts n) : F S = none ∧ F T = none ∧ F a = none := by
  obtain ⟨rs, f, ls, g, h1, h2, h3, h4, h5, h6, h7⟩ := z.ex
  exact ⟨h4 S (by simp), h4 T (by simp), h4 a (by simp)⟩
theorem kind_of (n : Int) : ∃ kd : Kd, atI ([.str "when", .str "loop", .str "again", .str "loop"] : List V) (n % 4) = some (.str kd.nm) := by
  have : n % 4 = 0 ∨ n % 4 = 1 ∨ n % 4 = 2 ∨ n % 4 = 3 := by omega
  rcases this with h | h | h | h <;> rw [h]
  · exact ⟨.whn, rfl⟩
  · exact ⟨.lop, rfl⟩
  · exact ⟨.agn, rfl⟩
  · exact ⟨.lop, rfl⟩
def spOpened (K : PySem.W.Frag) : Sp := fun vs H Q _ => ∃ (F : Hp) (ns : List Str) (nb : Int) (A S T a : Addr) (bs : List Addr) (us : List V) (ts : List Str) (n : Nat), vs = [.int nb, .ref A, .ref S, .ref T] ∧ SqL K F A (ns.map V.str) ∧ ns.length = 16 ∧ n ≤ 100000 ∧ bs.length < 3 ∧ Zip F H ns S T a bs us ts n ∧
  ∀ (H3 : Hp) (c : Addr) (ts' : List Str), Zip F H3 ns S T c (a :: bs) [] ts' (n + 2) → Q .non H3
def spProgram (K : PySem.W.Frag) : Sp := fun vs H Q _ => ∃ (cs : List Int) (ns : List Str) (Cc A : Addr), vs = [.ref Cc, .ref A] ∧ SqL K H Cc (cs.map V.int) ∧ cs.length ≤ 1000 ∧ SqL K H A (ns.map V.str) ∧ ns.length = 16 ∧
  ∀ (r : Addr) (H' : Hp) (rs : List Row) (fp : List Addr), Same H H' → RowsIn H' r rs fp → RowsOk ns rs → deps rs ≤ 3 → cnts rs ≤ 2 * cs.length + 3 → fp.Nodup → (∀ l ∈ fp, H l = none) → Q (.ref r) H'
end
/-! ### _law_whole, _law_alike, _law_copied, _law_nested -/
/-- data of whole numbers and texts, lists and tuples: n deep at most -/
inductive PlainD : Nat → PyData → Prop where
  | int {n : Nat} (i : Int) : PlainD n (.int i)
  | str {n : Nat} (x : Str) : PlainD n (.str x)
  | lst {n : Nat} {ds : List PyData} (h : ∀ d ∈ ds, PlainD n d) (hl : ds.length ≤ 100000) : PlainD (n + 1) (.list ds)
  | tup {n : Nat} {ds : List PyData} (h : ∀ d ∈ ds, PlainD n d) (hl : ds.length ≤ 100000) : PlainD (n + 1) (.tuple ds)
theorem PlainD.mono {n : Nat} {d : PyData} (h : PlainD n d) : ∀ {m : Nat}, n ≤ m → PlainD m d := by
  induction h with
  | int i => intro m _; exact .int i
  | str x => intro m _; exact .str x
  | lst h hl ih =>
    intro m hm
    obtain ⟨k, rfl⟩ : ∃ k, m = k + 1 := ⟨m - 1, by omega⟩
    exact .lst (fun d hd => ih d hd (by omega)) hl
  | tup h hl ih =>
    intro m hm
    obtain ⟨k, rfl⟩ : ∃ k, m = k + 1 := ⟨m - 1, by omega⟩
    exact .tup (fun d hd => ih d hd (by omega)) hl
theorem DpAll.get {K : PySem.W.Frag} {H : Hp} : ∀ {vs : List V} {ds : List PyData} {i : Nat} {v : V}, DpAll K H vs ds → vs[i]? = some v → ∃ d, ds[i]? = some d ∧ Dp K H v d
  | _, _, i, v, .nil, h => by simp at h
  | _, _, 0, v, .cons h _, e => by
    simp at e
    subst e
    exact ⟨_, rfl, h⟩
  | _, _, i + 1, v, .cons _ h, e => by
    obtain ⟨d, h1, h2⟩ := DpAll.get (i := i) h (by simpa using e)
    exact ⟨d, by simpa using h1, h2⟩
theorem DpAll.len {K : PySem.W.Frag} {H : Hp} : ∀ {vs : List V} {ds : List PyData}, DpAll K H vs ds → vs.length = ds.length
  | _, _, .nil => rfl
  | _, _, .cons _ h => by rw [List.length_cons, List.length_cons, DpAll.len h]
mutual
theorem Dp.mono {K : PySem.W.Frag} {H H' : Hp} (e : Same H H') : ∀ {d : PyData} {v : V}, Dp K H v d → Dp K H' v d
  | .none, _, .non => .non
  | .bool _, _, .bl b => .bl b
  | .int _, _, .int i => .int i
  | .str _, _, .str x => .str x
  | .list ds, _, .lst h ha => .lst (e.seq h) (DpAll.mono e (ds := ds) ha)
  | .tuple ds, _, .tup h ha => .tup (Same.sqt e h) (DpAll.mono e (ds := ds) ha)
  | .dict _, _, h => nomatch h
theorem DpAll.mono {K : PySem.W.Frag} {H H' : Hp} (e : Same H H') : ∀ {ds : List PyData} {vs : List V}, DpAll K H vs ds → DpAll K H' vs ds
  | [], _, .nil => .nil
  | d :: ds, _, .cons h ha => .cons (Dp.mono e (d := d) h) (DpAll.mono e (ds := ds) ha)
end
section
variable {P : Program} {w : World} {K : PySem.W.Frag} {mg : Str → Option Value} {base : Heap}
def spWhole : Sp := fun vs H Q _ => ∃ i : Int, vs = [.int i] ∧ Q (.bl true) H
theorem ok_whole (T : Txt K mg) : CallOk P w K mg base 1 "_law_whole" ["_law_found"] spWhole := by
  refine go_l_whole T.d_l_whole (fun vs H Q E h => ?_) ?_
  · obtain ⟨i, rfl, _⟩ := h
    rfl
  intro X e1 e2 e3 e4 e5 C sc hr vs H Q E h
  subst e1 e2 e3 e4 e5
  obtain ⟨i, rfl, q⟩ := h
  show WSs X _ _ [some (.int i)] H
  have b1 := T.b_isinstance
  have b2 := T.b_int
  have b3 := T.b_bool
  refine s_one ?_
  wtm_at "lm"
  exact q
def spAlike (K : PySem.W.Frag) (n : Nat) : Sp := fun vs H Q _ => ∃ (x y : V) (d : PyData), vs = [x, y] ∧ Dp K H x d ∧ Dp K H y d ∧ PlainD n d ∧ ∀ H', Same H H' → Q (.bl true) H'
theorem all_true (n : Nat) : ((List.range n).map fun _ => true).all _root_.id = true := by
  rw [List.all_eq_true]
  intro b hb
  obtain ⟨_, _, rfl⟩ := List.mem_map.mp hb
  rfl
theorem ok_alike (T : Txt K mg) (n : Nat) : CallOk P w K mg base (n + 2) "_law_alike" ["_law_found", "_law_due"] (spAlike K n) := by
  have GW : CallOk P w K mg base 1 "_law_whole" ["_law_found"] spWhole := ok_whole T
  induction n using Nat.strongRecOn with
  | ind n ih =>
    refine go_l_alike T.d_l_alike (fun vs H Q E h => ?_) ?_
    · obtain ⟨x, y, d, rfl, _⟩ := h
      rfl
    intro X e1 e2 e3 e4 e5 C sc hr vs H Q E h
    subst e1 e2 e3 e4 e5
    obtain ⟨x, y, d, rfl, hx, hy, pd, q⟩ := h
    show WSs X _ _ [some x, some y, none] H
    have b1 := T.b_isinstance
    have b2 := T.b_list
    have b3 := T.b_tuple
    have b4 := T.b_str
    have b5 := T.b_len
    have b6 := T.b_range
    have b7 := T.b_all
    refine s_cons ?_
    cases hy with
    | @lst b ys ds h2 a2 =>
      cases hx with
      | @lst a xs _ h1 a1 =>
        cases pd with
        | @lst n _ hd hl =>
          have l1 := DpAll.len a1
          have l2 := DpAll.len a2
          have G := ih n (Nat.lt_succ_self n)
          wtm_at "lm"
          rw [l1, l2]
          refine ite_ndec (fun c => absurd rfl c) (fun c => ?_)
          wtm_at "lm"
          refine w_lc (i := 2) C (by decide +kernel) (by rw [sc]; exact blkOk_by (by decide +kernel)) rfl (by wtm_at "lm.wip") (wi_range C (by wtm_at "lm.mem") b6 ?_)
          wtm_at "lm"
          rw [l2]
          refine ⟨by omega, by omega, ?_⟩
          rw [Int.toNat_natCast]
          refine lc_vals (f := fun i v => v = .int (0 + i)) (walk_range (lo := 0) (n := ds.length)) (fun _ => .bl true) (by omega) (fun _ _ => trivial) (fun j y H2 hj hy s2 => ?_) fun l H2 hl s2 h3 => ?_
          · subst hy
            rw [Int.zero_add]
            refine ⟨_, by wtm_at "lm.put", ?_⟩
            intro Y hY
            have CY := hY.fr (L' := ["_law_k"]) (Vs' := ["_law_found", "_law_due", "_law_k"]) (G' := ["_law_alike"]) C (by decide +kernel)
            obtain ⟨s, H0, Cd, cl, fp, rfl⟩ := hY
            have hS2 : SqL X.K H2 a xs := s2.seq h1
            have hS3 : SqL X.K H2 b ys := s2.seq h2
            obtain ⟨d, hd1, hd2⟩ := DpAll.get a1 (List.getElem?_eq_getElem (show j < xs.length by omega))
            obtain ⟨d', hd3, hd4⟩ := DpAll.get a2 (List.getElem?_eq_getElem (show j < ys.length by omega))
            rw [hd1] at hd3
            obtain rfl := Option.some.inj hd3
            wtm_at "lm"
            refine i_lst hS2 (atI_nat (List.getElem?_eq_getElem (show j < xs.length by omega))) ?_
            wtm_at "lm"
            refine i_lst hS3 (atI_nat (List.getElem?_eq_getElem (show j < ys.length by omega))) ?_
            wtm_at "lm"
            exact ⟨_, _, d, rfl, Dp.mono s2 hd2, Dp.mono s2 hd4, hd d (List.mem_of_getElem? hd1), fun H' s' => ⟨s', rfl⟩⟩
          · wtm_at "lm"
            refine k_all (bs := (List.range ds.length).map fun _ => true) C (SqL.of (by rw [h3, List.map_map]; rfl)) ?_
            rw [all_true]
            exact q H2 s2
    | @tup b ys ds h2 a2 =>
      cases hx with
      | @tup a xs _ h1 a1 =>
        cases pd with
        | @tup n _ hd hl =>
          have l1 := DpAll.len a1
          have l2 := DpAll.len a2
          have G := ih n (Nat.lt_succ_self n)
          wtm_at "lm"
          rw [l1, l2]
          refine ite_ndec (fun c => absurd rfl c) (fun c => ?_)
          wtm_at "lm"
          refine w_lc (i := 2) C (by decide +kernel) (by rw [sc]; exact blkOk_by (by decide +kernel)) rfl (by wtm_at "lm.wip") (wi_range C (by wtm_at "lm.mem") b6 ?_)
          wtm_at "lm"
          rw [l2]
          refine ⟨by omega, by omega, ?_⟩
          rw [Int.toNat_natCast]
          refine lc_vals (f := fun i v => v = .int (0 + i)) (walk_range (lo := 0) (n := ds.length)) (fun _ => .bl true) (by omega) (fun _ _ => trivial) (fun j y H2 hj hy s2 => ?_) fun l H2 hl s2 h3 => ?_
          · subst hy
            rw [Int.zero_add]
            refine ⟨_, by wtm_at "lm.put", ?_⟩
            intro Y hY
            have CY := hY.fr (L' := ["_law_k"]) (Vs' := ["_law_found", "_law_due", "_law_k"]) (G' := ["_law_alike"]) C (by decide +kernel)
            obtain ⟨s, H0, Cd, cl, fp, rfl⟩ := hY
            have hS2 : SqT X.K H2 a xs := Same.sqt s2 h1
            have hS3 : SqT X.K H2 b ys := Same.sqt s2 h2
            obtain ⟨d, hd1, hd2⟩ := DpAll.get a1 (List.getElem?_eq_getElem (show j < xs.length by omega))
            obtain ⟨d', hd3, hd4⟩ := DpAll.get a2 (List.getElem?_eq_getElem (show j < ys.length by omega))
            rw [hd1] at hd3
            obtain rfl := Option.some.inj hd3
            wtm_at "lm"
            refine i_tup hS2 (atI_nat (List.getElem?_eq_getElem (show j < xs.length by omega))) ?_
            wtm_at "lm"
            refine i_tup hS3 (atI_nat (List.getElem?_eq_getElem (show j < ys.length by omega))) ?_
            wtm_at "lm"
            exact ⟨_, _, d, rfl, Dp.mono s2 hd2, Dp.mono s2 hd4, hd d (List.mem_of_getElem? hd1), fun H' s' => ⟨s', rfl⟩⟩
          · wtm_at "lm"
            refine k_all (bs := (List.range ds.length).map fun _ => true) C (SqL.of (by rw [h3, List.map_map]; rfl)) ?_
            rw [all_true]
            exact q H2 s2
    | str s =>
      cases hx
      wtm_at "lm"
      rw [decide_eq_true rfl]
      exact q H (Same.refl H)
    | int i =>
      cases hx
      wtm_at "lm"
      refine ⟨i, rfl, ?_⟩
      wtm_at "lm"
      rw [decide_eq_true rfl]
      exact q H (Same.refl H)
    | non => cases pd
    | bl => cases pd
/-- count blocks, each about the next, the last about the list a -/
inductive NestIn (H : Hp) (ns : List Str) : Addr → Nat → Addr → Prop where
  | zero {a : Addr} : NestIn H ns a 0 a
  | succ {r t r1 a : Addr} {k : Nat} {kd : Kd} {s : Str} (h : H r = some (.lst [.ref t])) (ht : H t = some (.tup [.str kd.nm, .str s, .ref r1])) (hs : s ∈ ns) (hn : NestIn H ns r1 k a) : NestIn H ns r (k + 1) a
theorem NestIn.mono {H H' : Hp} {ns : List Str} {r a : Addr} {k : Nat} (h : NestIn H ns r k a) (e : Same H H') : NestIn H' ns r k a := by
  induction h with
  | zero => exact .zero
  | succ h ht hs _ ih => exact .succ (e _ _ h) (e _ _ ht) hs ih
theorem NestIn.rows {H : Hp} {ns : List Str} {r a : Addr} {k : Nat} (h : NestIn H ns r k a) : ∀ {rs : List Row} {fp : List Addr}, RowsIn H a rs fp → RowsOk ns rs → ∃ rs' fp', RowsIn H r rs' fp' ∧ RowsOk ns rs' ∧ deps rs' = deps rs + k ∧ cnts rs' = cnts rs + k := by
  induction h with
  | zero => intro rs fp h1 h2; exact ⟨rs, fp, h1, h2, rfl, rfl⟩
  | @succ r t r1 a k kd s h ht hs _ ih =>
    intro rs fp h1 h2
    obtain ⟨rs', fp', q1, q2, q3, q4⟩ := ih h1 h2
    refine ⟨[.blk kd s rs'], r :: (fp' ++ []), .mk h (.cons (.blk ht q1) .nil), RowsOk_one (by rw [RowOk]; exact ⟨hs, q2⟩), ?_, ?_⟩
    · rw [deps, deps, Row.dep, q3]
      simp
      omega
    · rw [cnts, cnts, Row.cnt, q4]
      omega
def spNested (K : PySem.W.Frag) : Sp := fun vs H Q _ => ∃ (ns : List Str) (a A : Addr) (m : Nat) (c : Int), vs = [.ref a, .int m, .ref A, .int c] ∧ m ≤ 1000 ∧ SqL K H A (ns.map V.str) ∧ ns.length = 16 ∧
  ∀ (r : Addr) (H' : Hp), Same H H' → NestIn H' ns r m a → Q (.ref r) H'
theorem kind3_of (n : Int) : ∃ kd : Kd, atI ([.str "when", .str "loop", .str "again"] : List V) (n % 3) = some (.str kd.nm) := by
  have : n % 3 = 0 ∨ n % 3 = 1 ∨ n % 3 = 2 := by omega
  rcases this with h | h | h <;> rw [h]
  · exact ⟨.whn, rfl⟩
  · exact ⟨.lop, rfl⟩
  · exact ⟨.agn, rfl⟩
/-- a program is copied: lists of its own -/
def spCopied (n : Nat) : Sp := fun vs H Q _ => ∃ (a : Addr) (rs : List Row) (fp : List Addr), vs = [.ref a] ∧ RowsIn H a rs fp ∧ deps rs ≤ n ∧ cnts rs ≤ 100000 ∧
  ∀ (r : Addr) (H' : Hp) (fp' : List Addr), Same H H' → RowsIn H' r rs fp' → (∀ l ∈ fp', H l = none) → fp'.Nodup → Q (.ref r) H'
/-- a part of a copy that is under way: D is the list that is made, its rows have lists fp, all new, none twice -/
structure Made (H H' : Hp) (D : Addr) (rs : List Row) : Prop where
  same : Same H H'
  ex : ∃ vs fp, H' D = some (.lst vs) ∧ AllIn H' vs rs fp ∧ (D :: fp).Nodup ∧ ∀ l ∈ D :: fp, H l = none
theorem Made.put {H H' H2 : Hp} {D : Addr} {rs : List Row} (m : Made H H' D rs) {v : V} {r : Row} {g : List Addr} (s : Same H' H2) (h : RowIn H2 v r g) (hg : ∀ l ∈ g, H' l = none) (nd : g.Nodup) : ∃ vs, H2 D = some (.lst vs) ∧ vs.length = rs.length ∧ Made H (upd H2 D (.lst (vs ++ [v]))) D (rs ++ [r]) := by
  obtain ⟨vs, fp, h1, h2, h3, h4⟩ := m.ex
  have hD := s _ _ h1
  have nf := h3
  rw [List.nodup_cons] at nf
  have gD : D ∉ g := fun z => by rw [hg D z] at h1; cases h1
  refine ⟨vs, hD, h2.len, Same.mut (m.same.trans s) (h4 D List.mem_cons_self), vs ++ [v], fp ++ g, upd_same, ((h2.mono s).snoc h).keep (Kept.upd hD fun z => (List.mem_append.mp z).elim nf.1 gD), ?_, fun l hl => ?_⟩
  · rw [← List.cons_append]
    refine List.nodup_append.mpr ⟨h3, nd, fun x hx y hy e => ?_⟩
    subst e
    have hn := hg x hy
    rcases List.mem_cons.mp hx with rfl | hx
    · exact gD hy
    · obtain ⟨xs, e⟩ := h2.at x hx
      rw [e] at hn
      cases hn
  · rw [← List.cons_append] at hl
    rcases List.mem_append.mp hl with hl | hl
    · exact h4 l hl
    · exact m.same.free (hg l hl)
theorem Made.new {H H' : Hp} {D : Addr} (s : Same H H') (hD : H D = none) (h : H' D = some (.lst [])) : Made H H' D [] := ⟨s, [], [], h, .nil, by simp, fun l hl => by rw [List.mem_singleton.mp hl]; exact hD⟩
theorem Made.done {H H' : Hp} {D : Addr} {rs : List Row} (m : Made H H' D rs) : ∃ fp, RowsIn H' D rs fp ∧ (∀ l ∈ fp, H l = none) ∧ fp.Nodup := by
  obtain ⟨vs, fp, h1, h2, h3, h4⟩ := m.ex
  exact ⟨D :: fp, .mk h1 h2, h4, h3⟩
end
/-! ### a dict whose keys are what counts -/
def putAll (kvs : List (Key × V)) (ks : List Key) : List (Key × V) := ks.foldl (fun a k => putK a k (.bl true)) kvs
theorem putAll_append (kvs : List (Key × V)) (ks ls : List Key) : putAll kvs (ks ++ ls) = putAll (putAll kvs ks) ls := List.foldl_append
theorem putAll_one (kvs : List (Key × V)) (k : Key) : putAll kvs [k] = putK kvs k (.bl true) := rfl
theorem putAll_len : ∀ (ks : List Key) (kvs : List (Key × V)), (putAll kvs ks).length ≤ kvs.length + ks.length
  | [], kvs => Nat.le_refl _
  | k :: ks, kvs => by
    have h1 := putAll_len ks (putK kvs k (.bl true))
    have h2 := length_putK kvs k (.bl true)
    show (putAll (putK kvs k (.bl true)) ks).length ≤ _
    rw [List.length_cons]
    omega
theorem valV_none_iff {kvs : List (Key × V)} {k : Key} : valV kvs k = none ↔ k ∉ kvs.map (·.1) := by
  have h := valV_any k kvs
  constructor
  · intro e hm
    rw [e] at h
    obtain ⟨kv, h1, h2⟩ := List.mem_map.mp hm
    have : (kvs.any fun kv => decide (kv.1 = k)) = true := List.any_eq_true.mpr ⟨kv, h1, by simp [h2]⟩
    rw [this] at h
    cases h
  · intro hm
    cases e : valV kvs k with
    | none => rfl
    | some v =>
      rw [e] at h
      obtain ⟨kv, h1, h2⟩ := List.any_eq_true.mp (show (kvs.any fun kv => decide (kv.1 = k)) = true from h)
      exact absurd (List.mem_map.mpr ⟨kv, h1, of_decide_eq_true h2⟩) hm
theorem keys_putK_in (kvs : List (Key × V)) (k : Key) (v : V) (h : k ∈ kvs.map (·.1)) : (putK kvs k v).map (·.1) = kvs.map (·.1) := by
  have a : (kvs.any fun kv => decide (kv.1 = k)) = true := by
    obtain ⟨kv, h1, h2⟩ := List.mem_map.mp h
    exact List.any_eq_true.mpr ⟨kv, h1, by simp [h2]⟩
  unfold putK
  rw [if_pos a, List.map_map]
  refine List.map_congr_left fun kv _ => ?_
  show (if kv.1 = k then (kv.1, v) else kv).1 = kv.1
  split <;> rfl
theorem keys_putK_new (kvs : List (Key × V)) (k : Key) (v : V) (h : k ∉ kvs.map (·.1)) : (putK kvs k v).map (·.1) = kvs.map (·.1) ++ [k] := by
  rw [putK_new v (valV_none_iff.mpr h), List.map_append]
  rfl
theorem putAll_nd : ∀ (ks : List Key) (kvs : List (Key × V)), (kvs.map (·.1)).Nodup → ((putAll kvs ks).map (·.1)).Nodup
  | [], _, h => h
  | k :: ks, kvs, h => by
    refine putAll_nd ks (putK kvs k (.bl true)) ?_
    by_cases hm : k ∈ kvs.map (·.1)
    · rw [keys_putK_in _ _ _ hm]
      exact h
    · rw [keys_putK_new _ _ _ hm]
      exact List.nodup_append.mpr ⟨h, by simp, fun a ha b hb e => hm (by rw [List.mem_singleton.mp hb] at e; exact e ▸ ha)⟩
theorem putAll_mem (x : Key) : ∀ (ks : List Key) (kvs : List (Key × V)), x ∈ (putAll kvs ks).map (·.1) ↔ x ∈ kvs.map (·.1) ∨ x ∈ ks
  | [], kvs => by simp [putAll]
  | k :: ks, kvs => by
    show x ∈ (putAll (putK kvs k (.bl true)) ks).map (·.1) ↔ _
    rw [putAll_mem x ks]
    by_cases hm : k ∈ kvs.map (·.1)
    · rw [keys_putK_in _ _ _ hm]
      constructor
      · rintro (h | h)
        · exact .inl h
        · exact .inr (List.mem_cons_of_mem _ h)
      · rintro (h | h)
        · exact .inl h
        · rcases List.mem_cons.mp h with rfl | h
          · exact .inl hm
          · exact .inr h
    · rw [keys_putK_new _ _ _ hm, List.mem_append, List.mem_singleton, List.mem_cons, or_assoc]
/-- texts in order, none twice, the same ones: the same list -/
theorem rising_ge : ∀ (l : List Str) (p : Str), risingS p l = true → (p :: l).Pairwise fun a b => ¬ b.cps.toList < a.cps.toList
  | [], p, _ => by simp
  | x :: r, p, h => by
    have h1 : (!Spec.ltCps x.cps.toList p.cps.toList && risingS x r) = true := h
    rw [Bool.and_eq_true, ltCps_eq, Bool.not_eq_true', decide_eq_false_iff_not] at h1
    have ih := rising_ge r x h1.2
    refine List.pairwise_cons.mpr ⟨fun y hy => ?_, ih⟩
    rcases List.mem_cons.mp hy with rfl | hy
    · exact h1.1
    · have h2 := (List.pairwise_cons.mp ih).1 y hy
      exact fun z => List.not_lt.mpr (List.le_trans (List.not_lt.mp h1.1) (List.not_lt.mp h2)) z
theorem sorted_ge {l : List Str} (h : sortedS l = true) : l.Pairwise fun a b => ¬ b.cps.toList < a.cps.toList := by
  cases l with
  | nil => exact .nil
  | cons p r => exact rising_ge r p h
theorem sorted_one {l m : List Str} (h1 : sortedS l = true) (h2 : sortedS m = true) (n1 : l.Nodup) (n2 : m.Nodup) (h : ∀ s, s ∈ l ↔ s ∈ m) : l = m := by
  refine List.Perm.eq_of_pairwise (fun a b _ _ p q => ?_) (sorted_ge h1) (sorted_ge h2) ((List.perm_ext_iff_of_nodup n1 n2).mpr h)
  have e : a.cps.toList = b.cps.toList := List.le_antisymm (List.not_lt.mp p) (List.not_lt.mp q)
  rw [tx_of a, tx_of b, e]
/-- from H to H' nothing changed but what stands at d -/
def But1 (d : Addr) (H H' : Hp) : Prop := ∀ l o, l ≠ d → H l = some o → H' l = some o
theorem But1.refl {d : Addr} {H : Hp} : But1 d H H := fun _ _ _ h => h
theorem But1.trans {d : Addr} {H H1 H2 : Hp} (a : But1 d H H1) (b : But1 d H1 H2) : But1 d H H2 := fun l o h q => b l o h (a l o h q)
theorem But1.same {d : Addr} {H H1 H2 : Hp} (a : But1 d H H1) (s : Same H1 H2) : But1 d H H2 := fun l o h q => s l o (a l o h q)
theorem But1.upd {d : Addr} {H H1 : Hp} {o : HO} (a : But1 d H H1) : But1 d H (upd H1 d o) := fun l u h q => by rw [upd_ne h]; exact a l u h q
theorem But1.kept {d : Addr} {H H' : Hp} {fp : List Addr} {kvs : List (Key × V)} (k : But1 d H H') (hd : H d = some (.dK kvs)) (h : ∀ l ∈ fp, ∃ xs, H l = some (.lst xs)) : Kept fp H H' :=
  ⟨fun t xs q => k t _ (ne_of q hd fun z => nomatch z) q, fun l hl => by obtain ⟨xs, q⟩ := h l hl; rw [q]; exact k l _ (ne_of q hd fun z => nomatch z) q⟩
/-- what was not there before may change -/
theorem But1.new {d : Addr} {H H1 H2 : Hp} (s : Same H H1) (hd : H d = none) (k : But1 d H1 H2) : Same H H2 := fun l o q => k l o (ne_of_none q hd) (s l o q)
/-! ### what rows read and set, whether they fail, whether they speak -/
mutual
def Row.rd : Row → List Key
  | .lt _ _ x y => [x, y]
  | .say x => [x]
  | .blk _ s rs => .inr s :: rds rs
def rds : List Row → List Key
  | [] => []
  | r :: rs => r.rd ++ rds rs
end
mutual
def Row.st : Row → List Key
  | .lt to _ _ _ => [.inr to]
  | .say _ => []
  | .blk _ _ rs => sts rs
def sts : List Row → List Key
  | [] => []
  | r :: rs => r.st ++ sts rs
end
def divs (sg : Sg) (y : Key) : Bool := decide (sg = .div) && (match y with | .inl i => decide (i = 0) | .inr _ => true)
mutual
def Row.mf : Row → Bool
  | .lt _ sg _ y => divs sg y
  | .say _ => false
  | .blk _ _ rs => mfs rs
def mfs : List Row → Bool
  | [] => false
  | r :: rs => r.mf || mfs rs
end
mutual
def Row.sp : Row → Bool
  | .lt _ _ _ _ => false
  | .say _ => true
  | .blk _ _ rs => sps rs
def sps : List Row → Bool
  | [] => false
  | r :: rs => r.sp || sps rs
end
theorem rds_append : ∀ rs ss : List Row, rds (rs ++ ss) = rds rs ++ rds ss
  | [], ss => rfl
  | r :: rs, ss => by rw [List.cons_append, rds, rds, rds_append rs ss, List.append_assoc]
theorem sts_append : ∀ rs ss : List Row, sts (rs ++ ss) = sts rs ++ sts ss
  | [], ss => rfl
  | r :: rs, ss => by rw [List.cons_append, sts, sts, sts_append rs ss, List.append_assoc]
theorem mfs_append : ∀ rs ss : List Row, mfs (rs ++ ss) = (mfs rs || mfs ss)
  | [], ss => rfl
  | r :: rs, ss => by rw [List.cons_append, mfs, mfs, mfs_append rs ss, Bool.or_assoc]
theorem sps_append : ∀ rs ss : List Row, sps (rs ++ ss) = (sps rs || sps ss)
  | [], ss => rfl
  | r :: rs, ss => by rw [List.cons_append, sps, sps, sps_append rs ss, Bool.or_assoc]
theorem rds_one (r : Row) : rds [r] = r.rd := by rw [rds, rds, List.append_nil]
theorem sts_one (r : Row) : sts [r] = r.st := by rw [sts, sts, List.append_nil]
theorem mfs_one (r : Row) : mfs [r] = r.mf := by rw [mfs, mfs, Bool.or_false]
theorem sps_one (r : Row) : sps [r] = r.sp := by rw [sps, sps, Bool.or_false]
mutual
theorem Row.rd_len : ∀ r : Row, r.rd.length ≤ 2 * r.cnt
  | .lt _ _ _ _ => by rw [Row.rd, Row.cnt]; exact Nat.le_refl _
  | .say _ => by rw [Row.rd, Row.cnt]; exact Nat.le_succ _
  | .blk _ _ rs => by rw [Row.rd, Row.cnt, List.length_cons]; have := rds_len rs; omega
theorem rds_len : ∀ rs : List Row, (rds rs).length ≤ 2 * cnts rs
  | [] => by rw [rds, cnts]; decide
  | r :: rs => by rw [rds, cnts, List.length_append]; have := Row.rd_len r; have := rds_len rs; omega
end
mutual
theorem Row.st_len : ∀ r : Row, r.st.length ≤ r.cnt
  | .lt _ _ _ _ => by rw [Row.st, Row.cnt]; exact Nat.le_refl _
  | .say _ => by rw [Row.st, Row.cnt]; decide
  | .blk _ _ rs => by rw [Row.st, Row.cnt]; have := sts_len rs; omega
theorem sts_len : ∀ rs : List Row, (sts rs).length ≤ cnts rs
  | [] => by rw [sts, cnts]; decide
  | r :: rs => by rw [sts, cnts, List.length_append]; have := Row.st_len r; have := sts_len rs; omega
end
/-- the names among keys -/
def isS : Key → Bool
  | .inl _ => false
  | .inr _ => true
def onlyS (ks : List Key) : List Key := ks.filter isS
theorem onlyS_append (ks ls : List Key) : onlyS (ks ++ ls) = onlyS ks ++ onlyS ls := List.filter_append _ _
theorem onlyS_len (ks : List Key) : (onlyS ks).length ≤ ks.length := List.length_filter_le _ _
section
variable {P : Program} {w : World} {K : PySem.W.Frag} {mg : Str → Option Value} {base : Heap}
/-- the names that gathered puts -/
def names (b : Bool) (rs : List Row) : List Key := if b = true then onlyS (rds rs) else sts rs
theorem names_append (b : Bool) (rs ss : List Row) : names b (rs ++ ss) = names b rs ++ names b ss := by
  unfold names
  split
  · rw [rds_append, onlyS_append]
  · rw [sts_append]
theorem names_len (b : Bool) (rs : List Row) : (names b rs).length ≤ 2 * cnts rs := by
  unfold names
  have h1 := rds_len rs
  have h2 := onlyS_len (rds rs)
  have h3 := sts_len rs
  split <;> omega
def spOperands : Sp := fun vs H Q _ => ∃ (t : Addr) (r : Row), vs = [.ref t] ∧ RowIn H (.ref t) r [] ∧ r.dep = 0 ∧ ∀ (p : Addr) (H' : Hp), Same H H' → H' p = some (.tup (r.rd.map kV)) → Q (.ref p) H'
/-- names are put into the dict at d -/
def spGathered (n : Nat) : Sp := fun vs H Q _ => ∃ (a d : Addr) (b : Bool) (rs : List Row) (fp : List Addr) (kvs : List (Key × V)), vs = [.ref a, .ref d, .bl b] ∧ RowsIn H a rs fp ∧ deps rs ≤ n ∧ H d = some (.dK kvs) ∧ kvs.length + 2 * cnts rs ≤ 200000 ∧
  ∀ H', But1 d H H' → H' d = some (.dK (putAll kvs (names b rs))) → Q .non H'
theorem RowIn.flat {H : Hp} {v : V} {r : Row} {f : List Addr} (h : RowIn H v r f) (hd : r.dep = 0) : f = [] := by
  cases h with
  | lt _ => rfl
  | say _ => rfl
  | blk _ _ => cases hd
end
theorem sg_div (sg : Sg) : sg.nm = ("/" : Str) ↔ sg = .div := by
  cases sg
  all_goals (constructor <;> intro h <;> first | rfl | exact absurd h (by decide +kernel) | cases h)
theorem take_ct {rs : List Row} {i : Nat} {r : Row} (h : rs[i]? = some r) : cnts (rs.take i) + r.cnt ≤ cnts rs := by
  have e := List.take_append_drop (i + 1) rs
  have := congrArg cnts e
  rw [cnts_append, take_succ h, cnts_append, cnts, cnts] at this
  omega
section
variable {P : Program} {w : World} {K : PySem.W.Frag} {mg : Str → Option Value} {base : Heap}
/-- a search down the rows: f of the rows, true where some row is so -/
def spFind (n : Nat) (f : List Row → Bool) : Sp := fun vs H Q _ => ∃ (a : Addr) (rs : List Row) (fp : List Addr), vs = [.ref a] ∧ RowsIn H a rs fp ∧ deps rs ≤ n ∧ ∀ H', Same H H' → Q (.bl (f rs)) H'
theorem mfs_at {rs : List Row} {i : Nat} {r : Row} (h : rs[i]? = some r) (hr : r.mf = true) : mfs rs = true := by
  have e := List.take_append_drop (i + 1) rs
  rw [← e, mfs_append, take_succ h, mfs_append, mfs_one, hr]
  simp
theorem sps_at {rs : List Row} {i : Nat} {r : Row} (h : rs[i]? = some r) (hr : r.sp = true) : sps rs = true := by
  have e := List.take_append_drop (i + 1) rs
  rw [← e, sps_append, take_succ h, sps_append, sps_one, hr]
  simp
theorem mfs_no {rs : List Row} {i : Nat} {r : Row} (h : rs[i]? = some r) (h0 : mfs (rs.take i) = false) (hr : r.mf = false) : mfs (rs.take (i + 1)) = false := by
  rw [take_succ h, mfs_append, mfs_one, h0, hr]
  rfl
theorem sps_no {rs : List Row} {i : Nat} {r : Row} (h : rs[i]? = some r) (h0 : sps (rs.take i) = false) (hr : r.sp = false) : sps (rs.take (i + 1)) = false := by
  rw [take_succ h, sps_append, sps_one, h0, hr]
  rfl
theorem divs_no {sg : Sg} {y : Key} (h : ¬ sg = .div) : divs sg y = false := by
  unfold divs
  rw [decide_eq_false h]
  rfl
end
theorem keyOk_all {ns : List Str} : True := trivial
mutual
theorem Row.rd_ok {ns : List Str} : ∀ {r : Row}, RowOk ns r → ∀ k ∈ r.rd, KeyOk ns k
  | .lt _ _ x y, h, k, hk => by
    rw [RowOk] at h
    rw [Row.rd] at hk
    rcases List.mem_cons.mp hk with rfl | hk
    · exact h.2.1
    · rw [List.mem_singleton] at hk
      exact hk ▸ h.2.2
  | .say x, h, k, hk => by
    rw [RowOk] at h
    rw [Row.rd, List.mem_singleton] at hk
    exact hk ▸ h
  | .blk _ s rs, h, k, hk => by
    rw [RowOk] at h
    rw [Row.rd] at hk
    rcases List.mem_cons.mp hk with rfl | hk
    · exact h.1
    · exact rds_ok h.2 k hk
theorem rds_ok {ns : List Str} : ∀ {rs : List Row}, RowsOk ns rs → ∀ k ∈ rds rs, KeyOk ns k
  | [], _, k, hk => by rw [rds] at hk; exact nomatch hk
  | r :: rs, h, k, hk => by
    rw [RowsOk] at h
    rw [rds] at hk
    rcases List.mem_append.mp hk with hk | hk
    · exact Row.rd_ok h.1 k hk
    · exact rds_ok h.2 k hk
end
mutual
theorem Row.st_ok {ns : List Str} : ∀ {r : Row}, RowOk ns r → ∀ k ∈ r.st, KeyOk ns k ∧ isS k = true
  | .lt to _ x y, h, k, hk => by
    rw [RowOk] at h
    rw [Row.st, List.mem_singleton] at hk
    subst hk
    exact ⟨h.1, rfl⟩
  | .say x, h, k, hk => by rw [Row.st] at hk; exact nomatch hk
  | .blk _ s rs, h, k, hk => by
    rw [RowOk] at h
    rw [Row.st] at hk
    exact sts_ok h.2 k hk
theorem sts_ok {ns : List Str} : ∀ {rs : List Row}, RowsOk ns rs → ∀ k ∈ sts rs, KeyOk ns k ∧ isS k = true
  | [], _, k, hk => by rw [sts] at hk; exact nomatch hk
  | r :: rs, h, k, hk => by
    rw [RowsOk] at h
    rw [sts] at hk
    rcases List.mem_append.mp hk with hk | hk
    · exact Row.st_ok h.1 k hk
    · exact sts_ok h.2 k hk
end
theorem names_ok {ns : List Str} {b : Bool} {rs : List Row} (h : RowsOk ns rs) : ∀ k ∈ names b rs, ∃ s ∈ ns, k = .inr s := by
  intro k hk
  have e : KeyOk ns k ∧ isS k = true := by
    unfold names at hk
    split at hk
    · obtain ⟨h1, h2⟩ := List.mem_filter.mp hk
      exact ⟨rds_ok h k h1, h2⟩
    · exact sts_ok h k hk
  cases k with
  | inl i => cases e.2
  | inr s => exact ⟨s, e.1, rfl⟩
theorem strs_of : ∀ {l : List Key}, (∀ k ∈ l, isS k = true) → ∃ ks : List Str, l = ks.map Sum.inr
  | [], _ => ⟨[], rfl⟩
  | .inl i :: r, h => by cases h (.inl i) List.mem_cons_self
  | .inr s :: r, h => by
    obtain ⟨ks, e⟩ := strs_of (l := r) fun k hk => h k (List.mem_cons_of_mem _ hk)
    exact ⟨s :: ks, by rw [e]; rfl⟩
theorem nodup_inr {ks : List Str} (h : (ks.map (Sum.inr : Str → Key)).Nodup) : ks.Nodup := by
  rw [List.Nodup, List.pairwise_map] at h
  exact h.imp fun n e => n (congrArg _ e)
/-- the sorted list of the names in a dict's keys -/
theorem sorted_names {ns : List Str} {ks : List Key} (h : ∀ k ∈ ks, ∃ s ∈ ns, k = .inr s) (hn : ns.length ≤ 60) : ∃ xs : List Str, (putAll [] ks).map (·.1) = xs.map Sum.inr ∧ xs.length < 64 ∧ xs.Nodup ∧ ∀ s, s ∈ xs ↔ .inr s ∈ ks := by
  have hm : ∀ k, k ∈ (putAll [] ks).map (·.1) ↔ k ∈ ks := fun k => by rw [putAll_mem]; simp
  obtain ⟨xs, e⟩ := strs_of (l := (putAll [] ks).map (·.1)) fun k hk => by
    obtain ⟨s, _, rfl⟩ := h k ((hm k).mp hk)
    rfl
  have nd : xs.Nodup := nodup_inr (e ▸ putAll_nd ks [] .nil)
  have ms : ∀ s, s ∈ xs ↔ .inr s ∈ ks := fun s => by
    rw [← hm, e]
    simp
  refine ⟨xs, e, ?_, nd, ms⟩
  have := List.Nodup.length_le_of_subset nd (l₂ := ns) fun s hs => by
    obtain ⟨s', h1, h2⟩ := h _ ((ms s).mp hs)
    exact (Sum.inr.inj h2) ▸ h1
  omega
section
variable {P : Program} {w : World} {K : PySem.W.Frag} {mg : Str → Option Value} {base : Heap}
/-- reads, sets: the sorted list of the names -/
def spNamesOf (n : Nat) (b : Bool) : Sp := fun vs H Q _ => ∃ (a : Addr) (ns : List Str) (rs : List Row) (fp : List Addr), vs = [.ref a] ∧ RowsIn H a rs fp ∧ deps rs ≤ n ∧ cnts rs ≤ 100000 ∧ RowsOk ns rs ∧ ns.length ≤ 60 ∧
  ∀ (p : Addr) (H' : Hp) (ys : List Str), Same H H' → H p = none → H' p = some (.lst (ys.map V.str)) → sortedS ys = true → ys.Nodup → (∀ s, s ∈ ys ↔ .inr s ∈ names b rs) → Q (.ref p) H'
/-- the law's own walks: keys are put into the dict at d, which is handed back -/
def spPuts (n : Nat) (f : List Row → List Key) : Sp := fun vs H Q _ => ∃ (a d : Addr) (rs : List Row) (fp : List Addr) (kvs : List (Key × V)), vs = [.ref a, .ref d] ∧ RowsIn H a rs fp ∧ deps rs ≤ n ∧ H d = some (.dK kvs) ∧ kvs.length + 2 * cnts rs ≤ 200000 ∧
  ∀ H', But1 d H H' → H' d = some (.dK (putAll kvs (f rs))) → Q (.ref d) H'
end
/-! ### the law itself -/
theorem cut_from (xs : List V) (k : Nat) : cutV xs (some (k : Int)) none = xs.drop k := by
  unfold cutV
  rw [HT.sIx_nat, HT.sIx_none]
  by_cases h : k ≤ xs.length
  · rw [Nat.min_eq_left h, List.take_of_length_le (by rw [List.length_drop]; omega)]
  · rw [Nat.min_eq_right (by omega), List.drop_of_length_le (Nat.le_refl _), List.drop_of_length_le (by omega), List.take_nil]
theorem drop_ints (ns : List Int) (k : Nat) : cutV (ns.map V.int) (some (k : Int)) none = (ns.drop k).map V.int := by rw [cut_from, List.map_drop]
theorem cut_to_n (xs : List V) (k : Nat) : cutV xs none (some (k : Int)) = xs.take k := by
  unfold cutV
  rw [HT.sIx_nat, HT.sIx_none, List.drop_zero, Nat.sub_zero]
  by_cases h : k ≤ xs.length
  · rw [Nat.min_eq_left h]
  · rw [Nat.min_eq_right (by omega), List.take_of_length_le (by omega), List.take_of_length_le (by omega)]
theorem cut_ints (ns : List Int) (lo hi : Option Int) : ∃ ms : List Int, cutV (ns.map V.int) lo hi = ms.map V.int ∧ ms.length ≤ ns.length := by
  unfold cutV
  refine ⟨_, by rw [← List.map_drop, ← List.map_take], ?_⟩
  rw [List.length_take, List.length_drop]
  omega
/-- rows as data -/
def kD : Key → PyData
  | .inl i => .int i
  | .inr s => .str s
mutual
def Row.d : Row → PyData
  | .lt to sg x y => .tuple [.str "let", .str to, .str sg.nm, kD x, kD y]
  | .say x => .tuple [.str "say", kD x]
  | .blk kd s rs => .tuple [.str kd.nm, .str s, .list (rowsD rs)]
def rowsD : List Row → List PyData
  | [] => []
  | r :: rs => r.d :: rowsD rs
end
theorem rowsD_len : ∀ rs : List Row, (rowsD rs).length = rs.length
  | [] => rfl
  | r :: rs => by rw [rowsD, List.length_cons, List.length_cons, rowsD_len rs]
theorem kD_dp {K : PySem.W.Frag} {H : Hp} (k : Key) : Dp K H (kV k) (kD k) := by
  cases k with
  | inl i => exact .int i
  | inr s => exact .str s
mutual
theorem RowIn.dp {K : PySem.W.Frag} {H : Hp} : ∀ {r : Row} {v : V} {f : List Addr}, RowIn H v r f → Dp K H v r.d
  | .lt _ _ x y, _, _, .lt h => by
    rw [Row.d]
    exact .tup (SqT.of h) (.cons (.str _) (.cons (.str _) (.cons (.str _) (.cons (kD_dp x) (.cons (kD_dp y) .nil)))))
  | .say x, _, _, .say h => by
    rw [Row.d]
    exact .tup (SqT.of h) (.cons (.str _) (.cons (kD_dp x) .nil))
  | .blk _ _ rs, _, _, .blk h hr => by
    rw [Row.d]
    exact .tup (SqT.of h) (.cons (.str _) (.cons (.str _) (.cons (RowsIn.dp (rs := rs) hr) .nil)))
theorem RowsIn.dp {K : PySem.W.Frag} {H : Hp} : ∀ {rs : List Row} {a : Addr} {f : List Addr}, RowsIn H a rs f → Dp K H (.ref a) (.list (rowsD rs))
  | rs, _, _, .mk h ha => .lst (SqL.of h) (AllIn.dp (rs := rs) ha)
theorem AllIn.dp {K : PySem.W.Frag} {H : Hp} : ∀ {rs : List Row} {vs : List V} {f : List Addr}, AllIn H vs rs f → DpAll K H vs (rowsD rs)
  | [], _, _, .nil => .nil
  | r :: rs, _, _, .cons h ha => by
    rw [rowsD]
    exact .cons (RowIn.dp (r := r) h) (AllIn.dp (rs := rs) ha)
end
theorem kD_plain (k : Key) (n : Nat) : PlainD n (kD k) := by
  cases k with
  | inl i => exact .int i
  | inr s => exact .str s
mutual
theorem Row.plain : ∀ {r : Row} {n : Nat}, r.dep ≤ n → r.cnt ≤ 100000 → PlainD (2 * n + 1) r.d
  | .lt _ _ x y, n, _, _ => by
    rw [Row.d]
    refine .tup (fun d hd => ?_) (by show 5 ≤ 100000; decide)
    simp only [List.mem_cons, List.not_mem_nil, or_false] at hd
    rcases hd with rfl | rfl | rfl | rfl | rfl
    · exact .str _
    · exact .str _
    · exact .str _
    · exact kD_plain x _
    · exact kD_plain y _
  | .say x, n, _, _ => by
    rw [Row.d]
    refine .tup (fun d hd => ?_) (by show 2 ≤ 100000; decide)
    simp only [List.mem_cons, List.not_mem_nil, or_false] at hd
    rcases hd with rfl | rfl
    · exact .str _
    · exact kD_plain x _
  | .blk _ _ rs, n, h, hc => by
    rw [Row.dep] at h
    rw [Row.cnt] at hc
    rw [Row.d]
    refine .tup (fun d hd => ?_) (by show 3 ≤ 100000; decide)
    simp only [List.mem_cons, List.not_mem_nil, or_false] at hd
    rcases hd with rfl | rfl | rfl
    · exact .str _
    · exact .str _
    · obtain ⟨m, rfl⟩ : ∃ m, n = m + 1 := ⟨n - 1, by omega⟩
      refine .lst (fun d hd => ?_) (by rw [rowsD_len]; have := len_cnts rs; omega)
      exact (rows_plain (rs := rs) (n := m) (by omega) (by omega) d hd).mono (Nat.le_refl _)
theorem rows_plain : ∀ {rs : List Row} {n : Nat}, deps rs ≤ n → cnts rs ≤ 100000 → ∀ d ∈ rowsD rs, PlainD (2 * n + 1) d
  | [], n, _, _, d, hd => by rw [rowsD] at hd; exact nomatch hd
  | r :: rs, n, h, hc, d, hd => by
    rw [deps] at h
    rw [cnts] at hc
    rw [rowsD] at hd
    rcases List.mem_cons.mp hd with rfl | hd
    · exact Row.plain (r := r) (by omega) (by omega)
    · exact rows_plain (rs := rs) (by omega) (by omega) d hd
end
theorem rowsD_plain {rs : List Row} {n : Nat} (h : deps rs ≤ n) (hc : cnts rs ≤ 100000) : PlainD (2 * n + 2) (.list (rowsD rs)) :=
  .lst (rows_plain h hc) (by rw [rowsD_len]; have := len_cnts rs; omega)
theorem strs_dp {K : PySem.W.Frag} {H : Hp} {a : Addr} {ys : List Str} (h : SqL K H a (ys.map V.str)) : Dp K H (.ref a) (.list (ys.map .str)) := by
  refine .lst h ?_
  clear h
  induction ys with
  | nil => exact .nil
  | cons y r ih => exact .cons (.str y) ih
theorem strs_plain {ys : List Str} (h : ys.length ≤ 100000) : PlainD 1 (.list (ys.map .str)) := .lst (fun d hd => by obtain ⟨y, _, rfl⟩ := List.mem_map.mp hd; exact .str y) (by rw [List.length_map]; exact h)
/-! ### how a program runs: step by step, with so many steps left -/
structure Rs where
  kvs : List (Key × V)
  said : List Int
  left : Nat
inductive Oc where
  | done | long | nought
  deriving DecidableEq
def Oc.nm : Oc → Str
  | .done => "done"
  | .long => "too long"
  | .nought => "by nought"
/-- what a dict of names gives -/
def lookI (kvs : List (Key × V)) (s : Str) : Int := match valV kvs (.inr s) with
  | some (.int i) => i
  | _ => 0
def Rs.val (st : Rs) : Key → Int
  | .inl i => i
  | .inr s => lookI st.kvs s
def came : Sg → Int → Int → Int
  | .add, a, b => (a + b) % 1000000
  | .sub, a, b => (a - b) % 1000000
  | .mul, a, b => a * b % 1000000
  | .lss, a, b => if a < b then 1 else 0
  | .div, a, b => a / b
def loopN (body : Rs → Rs × Oc) (test : Str) : Nat → Rs → Rs × Oc
  | 0, st => (st, .long)
  | n + 1, st => match st.left with
    | 0 => (st, .long)
    | l + 1 => if lookI st.kvs test = 0 then ({ st with left := l }, .done) else match body { st with left := l } with
      | (st2, .done) => loopN body test n st2
      | (st2, .long) => (st2, .long)
      | (st2, .nought) => (st2, .nought)
def letEv (to : Str) (sg : Sg) (x y : Key) (st : Rs) : Rs × Oc :=
  if sg = .div ∧ st.val y = 0 then (st, .nought) else ({ st with kvs := putK st.kvs (.inr to) (.int (came sg (st.val x) (st.val y))) }, .done)
mutual
def Row.ev : Row → Rs → Rs × Oc
  | .lt to sg x y => fun st => match st.left with
    | 0 => (st, .long)
    | l + 1 => letEv to sg x y { st with left := l }
  | .say x => fun st => match st.left with
    | 0 => (st, .long)
    | l + 1 => ({ st with said := st.said ++ [st.val x], left := l }, .done)
  | .blk .whn t rs => fun st => match st.left with
    | 0 => (st, .long)
    | l + 1 => if lookI st.kvs t = 0 then ({ st with left := l }, .done) else evs rs { st with left := l }
  | .blk .lop t rs => fun st => loopN (evs rs) t (st.left + 1) st
  | .blk .agn t rs => fun st => match evs rs st with
    | (st1, .done) => loopN (evs rs) t (st1.left + 1) st1
    | (st1, .long) => (st1, .long)
    | (st1, .nought) => (st1, .nought)
def evs : List Row → Rs → Rs × Oc
  | [] => fun st => (st, .done)
  | r :: rs => fun st => match r.ev st with
    | (st1, .done) => evs rs st1
    | (st1, .long) => (st1, .long)
    | (st1, .nought) => (st1, .nought)
end
/-- names and whole numbers from 0 to 999999 -/
def NumsIn (ns : List Str) (kvs : List (Key × V)) : Prop := (kvs.map (·.1)).Nodup ∧ ∀ kv ∈ kvs, ∃ s i, kv = (Sum.inr s, V.int i) ∧ s ∈ ns ∧ 0 ≤ i ∧ i ≤ 999999
theorem lookI_rng {ns : List Str} {kvs : List (Key × V)} (h : NumsIn ns kvs) (s : Str) : 0 ≤ lookI kvs s ∧ lookI kvs s ≤ 999999 := by
  unfold lookI
  cases e : valV kvs (.inr s) with
  | none => exact ⟨by decide, by decide⟩
  | some v =>
    unfold valV at e
    obtain ⟨kv, h1, h2⟩ := Option.map_eq_some_iff.mp e
    obtain ⟨s', i, rfl, _, h3, h4⟩ := h.2 kv (List.mem_of_find?_eq_some h1)
    subst h2
    exact ⟨h3, h4⟩
theorem lookI_val {ns : List Str} {kvs : List (Key × V)} (h : NumsIn ns kvs) (s : Str) : (valV kvs (.inr s)).getD (.int 0) = .int (lookI kvs s) := by
  unfold lookI
  cases e : valV kvs (.inr s) with
  | none => rfl
  | some v =>
    unfold valV at e
    obtain ⟨kv, h1, h2⟩ := Option.map_eq_some_iff.mp e
    obtain ⟨s', i, rfl, _, _⟩ := h.2 kv (List.mem_of_find?_eq_some h1)
    subst h2
    rfl
theorem NumsIn.len {ns : List Str} {kvs : List (Key × V)} (h : NumsIn ns kvs) : kvs.length ≤ ns.length := by
  have := List.Nodup.length_le_of_subset h.1 (l₂ := ns.map Sum.inr) fun k hk => by
    obtain ⟨kv, h1, rfl⟩ := List.mem_map.mp hk
    obtain ⟨s, i, rfl, h2, _⟩ := h.2 kv h1
    exact List.mem_map.mpr ⟨s, h2, rfl⟩
  rw [List.length_map, List.length_map] at this
  exact this
theorem NumsIn.put {ns : List Str} {kvs : List (Key × V)} (h : NumsIn ns kvs) {s : Str} {i : Int} (hs : s ∈ ns) (h0 : 0 ≤ i) (h1 : i ≤ 999999) : NumsIn ns (putK kvs (.inr s) (.int i)) := by
  constructor
  · by_cases hm : (.inr s : Key) ∈ kvs.map (·.1)
    · rw [keys_putK_in _ _ _ hm]; exact h.1
    · rw [keys_putK_new _ _ _ hm]
      exact List.nodup_append.mpr ⟨h.1, by simp, fun a ha b hb e => hm (by rw [List.mem_singleton.mp hb] at e; exact e ▸ ha)⟩
  · intro kv hk
    unfold putK at hk
    split at hk
    · obtain ⟨kv', h2, rfl⟩ := List.mem_map.mp hk
      split
      · rename_i c
        obtain ⟨s', i', rfl, h3, _⟩ := h.2 kv' h2
        exact ⟨s', i, rfl, h3, h0, h1⟩
      · exact h.2 kv' h2
    · rcases List.mem_append.mp hk with hk | hk
      · exact h.2 kv hk
      · rw [List.mem_singleton.mp hk]
        exact ⟨s, i, rfl, hs, h0, h1⟩
theorem val_rng {ns : List Str} {st : Rs} (h : NumsIn ns st.kvs) {k : Key} (ok : KeyOk ns k) : 0 ≤ st.val k ∧ st.val k ≤ 999999 := by
  cases k with
  | inl i => exact ok
  | inr s => exact lookI_rng h s
theorem came_rng {sg : Sg} {a b : Int} (ha : 0 ≤ a ∧ a ≤ 999999) (hb : 0 ≤ b ∧ b ≤ 999999) (h : ¬ (sg = .div ∧ b = 0)) : 0 ≤ came sg a b ∧ came sg a b ≤ 999999 := by
  cases sg with
  | add => show 0 ≤ (a + b) % 1000000 ∧ (a + b) % 1000000 ≤ 999999; omega
  | sub => show 0 ≤ (a - b) % 1000000 ∧ (a - b) % 1000000 ≤ 999999; omega
  | mul => show 0 ≤ (a * b) % 1000000 ∧ (a * b) % 1000000 ≤ 999999; omega
  | lss => show 0 ≤ (if a < b then 1 else 0 : Int) ∧ (if a < b then 1 else 0 : Int) ≤ 999999; split <;> decide
  | div =>
    have hb0 : 0 < b := by
      have : b ≠ 0 := fun e => h ⟨rfl, e⟩
      omega
    refine ⟨Int.ediv_nonneg ha.1 hb.1, ?_⟩
    have := Int.ediv_le_self b ha.1
    show a / b ≤ 999999
    omega
/-- what stays so while a program runs -/
structure StOk (ns : List Str) (B : Nat) (st : Rs) : Prop where
  nums : NumsIn ns st.kvs
  said : st.said.length + st.left ≤ B
/-! ### a run: how much is left, what stays so -/
def lp (body : Rs → Rs × Oc) (t : Str) (st : Rs) : Rs × Oc := loopN body t (st.left + 1) st
theorem loop_enough {body : Rs → Rs × Oc} {t : Str} (hb : ∀ st, (body st).1.left ≤ st.left) : ∀ (n m : Nat) (st : Rs), st.left < n → st.left < m → loopN body t n st = loopN body t m st
  | 0, _, st, h, _ => absurd h (Nat.not_lt_zero _)
  | n + 1, 0, st, _, h => absurd h (Nat.not_lt_zero _)
  | n + 1, m + 1, st, h1, h2 => by
    rw [loopN, loopN]
    cases e : st.left with
    | zero => rfl
    | succ l =>
      simp only
      split
      · rfl
      · have hl := hb { st with left := l }
        cases e2 : body { st with left := l } with
        | mk st2 o =>
          rw [e2] at hl
          cases o with
          | done => exact loop_enough hb n m st2 (by show st2.left < n; have : st2.left ≤ l := hl; omega) (by have : st2.left ≤ l := hl; omega)
          | long => rfl
          | nought => rfl
theorem lp_zero {body : Rs → Rs × Oc} {t : Str} {st : Rs} (h : st.left = 0) : lp body t st = (st, .long) := by
  unfold lp
  rw [loopN, h]
theorem lp_out {body : Rs → Rs × Oc} {t : Str} {st : Rs} {l : Nat} (h : st.left = l + 1) (h0 : lookI st.kvs t = 0) : lp body t st = ({ st with left := l }, .done) := by
  unfold lp
  rw [loopN, h]
  simp only [h0, if_true]
theorem lp_in {body : Rs → Rs × Oc} {t : Str} {st st2 : Rs} {l : Nat} (hb : ∀ st, (body st).1.left ≤ st.left) (h : st.left = l + 1) (h0 : ¬ lookI st.kvs t = 0) (e : body { st with left := l } = (st2, .done)) : lp body t st = lp body t st2 := by
  have hl := hb { st with left := l }
  rw [e] at hl
  replace hl : st2.left ≤ l := hl
  unfold lp
  rw [loopN, h]
  simp only [h0, if_false, e]
  exact loop_enough hb _ _ st2 (by omega) (by omega)
theorem lp_end {body : Rs → Rs × Oc} {t : Str} {st st2 : Rs} {l : Nat} {o : Oc} (h : st.left = l + 1) (h0 : ¬ lookI st.kvs t = 0) (e : body { st with left := l } = (st2, o)) (ho : o ≠ .done) : lp body t st = (st2, o) := by
  unfold lp
  rw [loopN, h]
  simp only [h0, if_false, e]
  cases o with
  | done => exact absurd rfl ho
  | long => rfl
  | nought => rfl
theorem loop_keeps {body : Rs → Rs × Oc} {t : Str} {I : Rs → Prop} (hb : ∀ st, I st → I (body st).1) (hl : ∀ st l, st.left = l + 1 → I st → I { st with left := l }) : ∀ (n : Nat) (st : Rs), I st → I (loopN body t n st).1
  | 0, st, h => h
  | n + 1, st, h => by
    rw [loopN]
    cases e : st.left with
    | zero => exact h
    | succ l =>
      simp only
      have h1 := hl st l e h
      split
      · exact h1
      · have h2 := hb _ h1
        cases e2 : body { st with left := l } with
        | mk st2 o =>
          rw [e2] at h2
          cases o with
          | done => exact loop_keeps hb hl n st2 h2
          | long => exact h2
          | nought => exact h2
section
variable {to : Str} {sg : Sg} {x y : Key} {t : Str} {r : Row} {rs : List Row} {st st1 : Rs} {l : Nat} {o : Oc}
theorem ev_lt0 (h : st.left = 0) : (Row.lt to sg x y).ev st = (st, .long) := by rw [Row.ev]; simp only [h]
theorem ev_lt1 (h : st.left = l + 1) : (Row.lt to sg x y).ev st = letEv to sg x y { st with left := l } := by rw [Row.ev]; simp only [h]
theorem ev_say0 (h : st.left = 0) : (Row.say x).ev st = (st, .long) := by rw [Row.ev]; simp only [h]
theorem ev_say1 (h : st.left = l + 1) : (Row.say x).ev st = ({ st with said := st.said ++ [st.val x], left := l }, .done) := by rw [Row.ev]; simp only [h]
theorem ev_whn0 (h : st.left = 0) : (Row.blk .whn t rs).ev st = (st, .long) := by rw [Row.ev]; simp only [h]
theorem ev_whn1 (h : st.left = l + 1) : (Row.blk .whn t rs).ev st = if lookI st.kvs t = 0 then ({ st with left := l }, .done) else evs rs { st with left := l } := by rw [Row.ev]; simp only [h]
theorem ev_lop : (Row.blk .lop t rs).ev st = lp (evs rs) t st := by rw [Row.ev]; rfl
theorem ev_agn (e : evs rs st = (st1, .done)) : (Row.blk .agn t rs).ev st = lp (evs rs) t st1 := by rw [Row.ev]; simp only [e]; rfl
theorem ev_agn' (e : evs rs st = (st1, o)) (ho : o ≠ .done) : (Row.blk .agn t rs).ev st = (st1, o) := by
  rw [Row.ev]
  simp only [e]
  cases o with
  | done => exact absurd rfl ho
  | long => rfl
  | nought => rfl
theorem evs_nil : evs [] st = (st, .done) := by rw [evs]
theorem evs_done (e : r.ev st = (st1, .done)) : evs (r :: rs) st = evs rs st1 := by rw [evs]; simp only [e]
theorem evs_end (e : r.ev st = (st1, o)) (ho : o ≠ .done) : evs (r :: rs) st = (st1, o) := by
  rw [evs]
  simp only [e]
  cases o with
  | done => exact absurd rfl ho
  | long => rfl
  | nought => rfl
end
theorem letEv_keeps {I : Rs → Prop} {ns : List Str} {to : Str} {sg : Sg} {x y : Key} (ok : RowOk ns (.lt to sg x y)) (hp : ∀ st i, I st → to ∈ ns → 0 ≤ i → i ≤ 999999 → I { st with kvs := putK st.kvs (.inr to) (.int i) }) (hn : ∀ st, I st → NumsIn ns st.kvs) {st : Rs} (h : I st) : I (letEv to sg x y st).1 := by
  rw [RowOk] at ok
  unfold letEv
  split
  · exact h
  · rename_i c
    have := came_rng (val_rng (hn st h) ok.2.1) (val_rng (hn st h) ok.2.2) c
    exact hp st _ h ok.1 this.1 this.2
mutual
theorem Row.ev_keeps {I : Rs → Prop} {ns : List Str} (hp : ∀ st to i, I st → to ∈ ns → 0 ≤ i → i ≤ 999999 → I { st with kvs := putK st.kvs (.inr to) (.int i) }) (hn : ∀ st, I st → NumsIn ns st.kvs) (hl : ∀ st l, st.left = l + 1 → I st → I { st with left := l })
    (hs : ∀ st l x, st.left = l + 1 → I st → I { st with said := st.said ++ [x], left := l }) : ∀ {r : Row}, RowOk ns r → ∀ st, I st → I (r.ev st).1
  | .lt to sg x y, ok, st, h => by
    cases e : st.left with
    | zero => rw [ev_lt0 e]; exact h
    | succ l => rw [ev_lt1 e]; exact letEv_keeps ok (fun st i a b c d => hp st to i a b c d) hn (hl st l e h)
  | .say x, ok, st, h => by
    cases e : st.left with
    | zero => rw [ev_say0 e]; exact h
    | succ l => rw [ev_say1 e]; exact hs st l _ e h
  | .blk kd t rs, ok, st, h => by
    rw [RowOk] at ok
    have ih := evs_keeps hp hn hl hs (rs := rs) ok.2
    cases kd with
    | whn =>
      cases e : st.left with
      | zero => rw [ev_whn0 e]; exact h
      | succ l =>
        rw [ev_whn1 e]
        split
        · exact hl st l e h
        · exact ih _ (hl st l e h)
    | lop => rw [ev_lop]; exact loop_keeps ih hl _ st h
    | agn =>
      have h1 := ih st h
      cases e : evs rs st with
      | mk st1 o =>
        rw [e] at h1
        by_cases ho : o = .done
        · subst ho
          rw [ev_agn e]
          exact loop_keeps ih hl _ st1 h1
        · rw [ev_agn' e ho]; exact h1
theorem evs_keeps {I : Rs → Prop} {ns : List Str} (hp : ∀ st to i, I st → to ∈ ns → 0 ≤ i → i ≤ 999999 → I { st with kvs := putK st.kvs (.inr to) (.int i) }) (hn : ∀ st, I st → NumsIn ns st.kvs) (hl : ∀ st l, st.left = l + 1 → I st → I { st with left := l })
    (hs : ∀ st l x, st.left = l + 1 → I st → I { st with said := st.said ++ [x], left := l }) : ∀ {rs : List Row}, RowsOk ns rs → ∀ st, I st → I (evs rs st).1
  | [], _, st, h => by rw [evs_nil]; exact h
  | r :: rs, ok, st, h => by
    rw [RowsOk] at ok
    have h1 := Row.ev_keeps hp hn hl hs (r := r) ok.1 st h
    cases e : r.ev st with
    | mk st1 o =>
      rw [e] at h1
      by_cases ho : o = .done
      · subst ho
        rw [evs_done e]
        exact evs_keeps hp hn hl hs (rs := rs) ok.2 st1 h1
      · rw [evs_end e ho]; exact h1
end
mutual
theorem Row.ev_left : ∀ (r : Row) (st : Rs), (r.ev st).1.left ≤ st.left
  | .lt to sg x y, st => by
    cases e : st.left with
    | zero => rw [ev_lt0 e, e]; exact Nat.le_refl _
    | succ l => rw [ev_lt1 e]; unfold letEv; split <;> exact Nat.le_succ l
  | .say x, st => by
    cases e : st.left with
    | zero => rw [ev_say0 e, e]; exact Nat.le_refl _
    | succ l => rw [ev_say1 e]; exact Nat.le_succ l
  | .blk kd t rs, st => by
    have ih := evs_left rs
    have lk : ∀ n st, (loopN (evs rs) t n st).1.left ≤ st.left := fun n st => loop_keeps (I := fun s => s.left ≤ st.left) (fun s h => Nat.le_trans (ih s) h) (fun s l e h => by show l ≤ st.left; omega) n st (Nat.le_refl _)
    cases kd with
    | whn =>
      cases e : st.left with
      | zero => rw [ev_whn0 e, e]; exact Nat.le_refl _
      | succ l =>
        rw [ev_whn1 e]
        split
        · exact Nat.le_succ l
        · exact Nat.le_trans (ih _) (Nat.le_succ l)
    | lop => rw [ev_lop]; exact lk _ st
    | agn =>
      have h1 := ih st
      cases e : evs rs st with
      | mk st1 o =>
        rw [e] at h1
        by_cases ho : o = .done
        · subst ho
          rw [ev_agn e]
          exact Nat.le_trans (lk _ st1) h1
        · rw [ev_agn' e ho]; exact h1
theorem evs_left : ∀ (rs : List Row) (st : Rs), (evs rs st).1.left ≤ st.left
  | [], st => by rw [evs_nil]; exact Nat.le_refl _
  | r :: rs, st => by
    have h1 := Row.ev_left r st
    cases e : r.ev st with
    | mk st1 o =>
      rw [e] at h1
      by_cases ho : o = .done
      · subst ho
        rw [evs_done e]
        exact Nat.le_trans (evs_left rs st1) h1
      · rw [evs_end e ho]; exact h1
end
theorem StOk.row {ns : List Str} {B : Nat} {r : Row} (ok : RowOk ns r) {st : Rs} (h : StOk ns B st) : StOk ns B (r.ev st).1 :=
  Row.ev_keeps (I := StOk ns B) (fun st to i h a b c => ⟨h.nums.put a b c, h.said⟩) (fun _ h => h.nums) (fun st l e h => ⟨h.nums, by have := h.said; show st.said.length + l ≤ B; omega⟩) (fun st l x e h => ⟨h.nums, by have := h.said; show (st.said ++ [x]).length + l ≤ B; rw [List.length_append]; show st.said.length + 1 + l ≤ B; omega⟩) ok st h
theorem StOk.rows {ns : List Str} {B : Nat} {rs : List Row} (ok : RowsOk ns rs) {st : Rs} (h : StOk ns B st) : StOk ns B (evs rs st).1 :=
  evs_keeps (I := StOk ns B) (fun st to i h a b c => ⟨h.nums.put a b c, h.said⟩) (fun _ h => h.nums) (fun st l e h => ⟨h.nums, by have := h.said; show st.said.length + l ≤ B; omega⟩) (fun st l x e h => ⟨h.nums, by have := h.said; show (st.said ++ [x]).length + l ≤ B; rw [List.length_append]; show st.said.length + 1 + l ≤ B; omega⟩) ok st h
theorem StOk.one {ns : List Str} {B : Nat} {st : Rs} {l : Nat} (h : StOk ns B st) (e : st.left = l + 1) : StOk ns B { st with left := l } := ⟨h.nums, by have := h.said; show st.said.length + l ≤ B; omega⟩
/-- nothing changed but the tale -/
def ButT (t v s : Addr) (H H' : Hp) : Prop := ∀ l o, l ≠ t → l ≠ v → l ≠ s → H l = some o → H' l = some o
theorem ButT.refl {t v s : Addr} {H : Hp} : ButT t v s H H := fun _ _ _ _ _ h => h
theorem ButT.trans {t v s : Addr} {H H1 H2 : Hp} (a : ButT t v s H H1) (b : ButT t v s H1 H2) : ButT t v s H H2 := fun l o h1 h2 h3 q => b l o h1 h2 h3 (a l o h1 h2 h3 q)
theorem ButT.same {t v s : Addr} {H H1 H2 : Hp} (a : ButT t v s H H1) (b : Same H1 H2) : ButT t v s H H2 := fun l o h1 h2 h3 q => b l o (a l o h1 h2 h3 q)
theorem ButT.t {t v s : Addr} {H : Hp} {o : HO} : ButT t v s H (upd H t o) := fun l u h1 _ _ q => by rw [upd_ne h1]; exact q
theorem ButT.v {t v s : Addr} {H : Hp} {o : HO} : ButT t v s H (upd H v o) := fun l u _ h1 _ q => by rw [upd_ne h1]; exact q
theorem ButT.s {t v s : Addr} {H : Hp} {o : HO} : ButT t v s H (upd H s o) := fun l u _ _ h1 q => by rw [upd_ne h1]; exact q
/-! ### the Runner: its fields, its methods -/
def rfs (v s : Addr) (n m : Int) (e : Str) : List (Str × V) := [("names", .ref v), ("said", .ref s), ("steps", .int n), ("most", .int m), ("ending", .str e)]
section
variable {v s : Addr} {n m : Int} {e : Str}
theorem sne {a b : Str} (h : decide (a = b) = false) : ¬ a = b := of_decide_eq_false h
theorem look_skip {a x : Str} {v : V} {r : List (Str × V)} (h : decide (x = a) = false) : List.lookup x ((a, v) :: r) = List.lookup x r := by
  rw [List.lookup_cons]
  have : (x == a) = false := by rw [beq_eq_false_iff_ne]; exact of_decide_eq_false h
  rw [this]
theorem look_hit {x : Str} {v : V} {r : List (Str × V)} : List.lookup x ((x, v) :: r) = some v := by
  rw [List.lookup_cons, beq_self_eq_true]
theorem r_names : (rfs v s n m e).lookup ("names" : Str) = some (.ref v) := look_hit
theorem r_said : (rfs v s n m e).lookup ("said" : Str) = some (.ref s) := by unfold rfs; rw [look_skip (by decide +kernel)]; exact look_hit
theorem r_steps : (rfs v s n m e).lookup ("steps" : Str) = some (.int n) := by unfold rfs; rw [look_skip (by decide +kernel), look_skip (by decide +kernel)]; exact look_hit
theorem r_most : (rfs v s n m e).lookup ("most" : Str) = some (.int m) := by unfold rfs; rw [look_skip (by decide +kernel), look_skip (by decide +kernel), look_skip (by decide +kernel)]; exact look_hit
theorem r_ending : (rfs v s n m e).lookup ("ending" : Str) = some (.str e) := by unfold rfs; rw [look_skip (by decide +kernel), look_skip (by decide +kernel), look_skip (by decide +kernel), look_skip (by decide +kernel)]; exact look_hit
theorem r_none {x : Str} (h1 : decide (x = "names") = false) (h2 : decide (x = "said") = false) (h3 : decide (x = "steps") = false) (h4 : decide (x = "most") = false) (h5 : decide (x = "ending") = false) : (rfs v s n m e).lookup x = none := by
  unfold rfs
  rw [look_skip h1, look_skip h2, look_skip h3, look_skip h4, look_skip h5]
  rfl
theorem putF_skip {a x : Str} {u v : V} {r : List (Str × V)} (h : decide (a = x) = false) : putF x v ((a, u) :: r) = (a, u) :: putF x v r := by
  rw [putF, if_neg (of_decide_eq_false h)]
theorem putF_hit {x : Str} {u v : V} {r : List (Str × V)} : putF x v ((x, u) :: r) = (x, v) :: r := by
  rw [putF, if_pos rfl]
theorem r_put_steps {k : Int} : putF "steps" (.int k) (rfs v s n m e) = rfs v s k m e := by
  unfold rfs
  rw [putF_skip (by decide +kernel), putF_skip (by decide +kernel), putF_hit]
theorem r_put_ending {k : Str} : putF "ending" (.str k) (rfs v s n m e) = rfs v s n m k := by
  unfold rfs
  rw [putF_skip (by decide +kernel), putF_skip (by decide +kernel), putF_skip (by decide +kernel), putF_skip (by decide +kernel), putF_hit]
end
/-- the Runner at t: values at v, said at s -/
structure RunAt (C : Addr) (H : Hp) (t v s : Addr) (st : Rs) (most : Nat) (e : Str) : Prop where
  ht : ∃ dx, H t = some (.ins C dx (rfs v s ((most : Int) - st.left) most e))
  hv : H v = some (.dK st.kvs)
  hs : H s = some (.lst (st.said.map V.int))
  le : st.left ≤ most
theorem RunAt.st {C : Addr} {H : Hp} {t v s : Addr} {st : Rs} {most : Nat} {e : Str} (T : RunAt C H t v s st most e) : s ≠ t ∧ s ≠ v ∧ v ≠ t := by
  obtain ⟨dx, ht⟩ := T.ht
  exact ⟨ne_of T.hs ht (fun z => nomatch z), ne_of T.hs T.hv (fun z => nomatch z), ne_of T.hv ht (fun z => nomatch z)⟩
theorem RunAt.kept {C : Addr} {H H' : Hp} {t v s : Addr} {st : Rs} {most : Nat} {e : Str} (T : RunAt C H t v s st most e) (k : ButT t v s H H') {fp : List Addr} (h : ∀ l ∈ fp, ∃ xs, H l = some (.lst xs)) (hs : s ∉ fp) : Kept fp H H' := by
  obtain ⟨dx, ht⟩ := T.ht
  exact ⟨fun x xs q => k x _ (ne_of q ht fun z => nomatch z) (ne_of q T.hv fun z => nomatch z) (ne_of q T.hs fun z => nomatch z) q,
   fun l hl => by
    obtain ⟨xs, q⟩ := h l hl
    rw [q]
    exact k l _ (ne_of q ht fun z => nomatch z) (ne_of q T.hv fun z => nomatch z) (fun z => hs (z ▸ hl)) q⟩
theorem RunAt.mono {C : Addr} {H H' : Hp} {t v s : Addr} {st : Rs} {most : Nat} {e : Str} (T : RunAt C H t v s st most e) (k : Same H H') : RunAt C H' t v s st most e := ⟨let ⟨dx, ht⟩ := T.ht; ⟨dx, k _ _ ht⟩, k _ _ T.hv, k _ _ T.hs, T.le⟩
section
variable {P : Program} {w : World} {K : PySem.W.Frag} {mg : Str → Option Value} {base : Heap} {C : Addr}
def spRStepped (C : Addr) : Sp := fun vs H Q _ => ∃ (t v s : Addr) (st : Rs) (most : Nat), vs = [.ref t] ∧ RunAt C H t v s st most "done" ∧
  (st.left = 0 → ∀ H', RunAt C H' t v s st most "too long" → ButT t v s H H' → Q (.bl false) H') ∧
  (∀ l, st.left = l + 1 → ∀ H', RunAt C H' t v s { st with left := l } most "done" → ButT t v s H H' → Q (.bl true) H')
theorem ok_r_stepped (T : K_Runner K mg C) : MOk P w K mg base 1 C "stepped" ["self"] (spRStepped C) := by
  refine go_Runner_stepped T.m_stepped (fun vs H Q E h => ?_) ?_
  · obtain ⟨t, v, s, st, most, rfl, _⟩ := h
    rfl
  intro X e1 e2 e3 e4 e5 F sc hr vs H Q E h
  subst e1 e2 e3 e4 e5
  obtain ⟨t, v, s, st, most, rfl, A, q0, q1⟩ := h
  have cl := T.cl
  have hle := A.le
  have hst := A.st
  obtain ⟨dx, ht⟩ := A.ht
  show WSs X _ _ [some (.ref t)] H
  refine s_cons ?_
  wtm_at "lm"
  refine ⟨t, C, dx, _, _, rfl, ht, cl, T.n_steps, r_steps, ?_⟩
  wtm_at "lm"
  refine ⟨t, C, dx, _, _, rfl, ht, cl, T.n_most, r_most, ?_⟩
  wtm_at "lm"
  refine ite_dec (fun c => ?_) (fun c => ?_)
  · wtm_at "lm"
    refine ⟨t, C, dx, _, rfl, ht, cl, T.n_ending, (by show 5 < 1000; decide), ?_⟩
    rw [r_put_ending]
    wtm_at "lm"
    exact q0 (by omega) _ ⟨⟨dx, upd_same⟩, by rw [upd_ne hst.2.2]; exact A.hv, by rw [upd_ne hst.1]; exact A.hs, A.le⟩ ButT.t
  · wtm_at "lm"
    refine ⟨t, C, dx, _, _, rfl, ht, cl, T.n_steps, r_steps, ?_⟩
    wtm_at "lm"
    refine ⟨t, C, dx, _, rfl, ht, cl, T.n_steps, (by show 5 < 1000; decide), ?_⟩
    rw [r_put_steps]
    wtm_at "lm"
    obtain ⟨l, el⟩ : ∃ l, st.left = l + 1 := ⟨st.left - 1, by omega⟩
    exact q1 l el _ ⟨⟨dx, by rw [upd_same, show (most : Int) - st.left + 1 = (most : Int) - l by omega]⟩, by rw [upd_ne hst.2.2]; exact A.hv, by rw [upd_ne hst.1]; exact A.hs, by show l ≤ most; omega⟩ ButT.t
end
section
variable {P : Program} {w : World} {K : PySem.W.Frag} {mg : Str → Option Value} {base : Heap} {C : Addr}
def spRValue (C : Addr) : Sp := fun vs H Q _ => ∃ (k : Key) (t v s : Addr) (st : Rs) (most : Nat) (e : Str) (ns : List Str), vs = [.ref t, kV k] ∧ RunAt C H t v s st most e ∧ NumsIn ns st.kvs ∧ Q (.int (st.val k)) H
theorem ok_r_value (T0 : Txt K mg) (T : K_Runner K mg C) : MOk P w K mg base 1 C "value" ["self", "thing"] (spRValue C) := by
  refine go_Runner_value T.m_value (fun vs H Q E h => ?_) ?_
  · obtain ⟨k, t, v, s, st, most, e, ns, rfl, _⟩ := h
    rfl
  intro X e1 e2 e3 e4 e5 F sc hr vs H Q E h
  subst e1 e2 e3 e4 e5
  obtain ⟨k, t, v, s, st, most, e, ns, rfl, A, N, q⟩ := h
  have b1 := T0.b_isinstance
  have b2 := T0.b_str
  have cl := T.cl
  obtain ⟨dx, ht⟩ := A.ht
  cases k with
  | inl i =>
    show WSs X _ _ [some (.ref t), some (.int i)] H
    refine s_cons ?_
    wtm_at "lm"
    exact q
  | inr x =>
    show WSs X _ _ [some (.ref t), some (.str x)] H
    refine s_cons ?_
    wtm_at "lm"
    refine ⟨t, C, dx, _, _, rfl, ht, cl, T.n_names, r_names, ?_⟩
    refine ⟨v, rfl, .inl ⟨_, Rd.of A.hv⟩, ?_⟩
    wtm_at "lm"
    refine ⟨_, DGet.k (k := .inr x) A.hv, ?_⟩
    rw [lookI_val N]
    exact q
/-- asked: a step is done, and the test is not 0 -/
def spRAsked (C : Addr) : Sp := fun vs H Q _ => ∃ (t v s : Addr) (st : Rs) (most : Nat) (x : Str) (ns : List Str), vs = [.ref t, .str x] ∧ RunAt C H t v s st most "done" ∧ NumsIn ns st.kvs ∧
  (st.left = 0 → ∀ H', RunAt C H' t v s st most "too long" → ButT t v s H H' → Q (.bl false) H') ∧
  (∀ l, st.left = l + 1 → ∀ H', RunAt C H' t v s { st with left := l } most "done" → ButT t v s H H' → Q (.bl (!decide (lookI st.kvs x = 0))) H')
theorem ok_r_asked (T0 : Txt K mg) (T : K_Runner K mg C) : MOk P w K mg base 2 C "asked" ["self", "test"] (spRAsked C) := by
  have G1 : MOk P w K mg base 1 C "stepped" ["self"] (spRStepped C) := ok_r_stepped T
  have G2 : MOk P w K mg base 1 C "value" ["self", "thing"] (spRValue C) := ok_r_value T0 T
  refine go_Runner_asked T.m_asked (fun vs H Q E h => ?_) ?_
  · obtain ⟨t, v, s, st, most, x, ns, rfl, _⟩ := h
    rfl
  intro X e1 e2 e3 e4 e5 F sc hr vs H Q E h
  subst e1 e2 e3 e4 e5
  obtain ⟨t, v, s, st, most, x, ns, rfl, A, N, q0, q1⟩ := h
  have cl := T.cl
  obtain ⟨dx, ht⟩ := A.ht
  show WSs X _ _ [some (.ref t), some (.str x)] H
  refine s_cons ?_
  wtm_at "lm"
  refine ⟨t, dx, _, rfl, ht, r_none (by decide +kernel) (by decide +kernel) (by decide +kernel) (by decide +kernel) (by decide +kernel), ?_⟩
  refine ⟨t, v, s, st, most, rfl, A, fun h0 H1 A1 k1 => ?_, fun l hl H1 A1 k1 => ?_⟩
  · wtm_at "lm"
    exact q0 h0 H1 A1 k1
  · obtain ⟨dx1, ht1⟩ := A1.ht
    wtm_at "lm"
    refine ⟨t, dx1, _, rfl, ht1, r_none (by decide +kernel) (by decide +kernel) (by decide +kernel) (by decide +kernel) (by decide +kernel), ?_⟩
    wtm_at "lm"
    refine ⟨.inr x, t, v, s, _, most, _, ns, rfl, A1, N, ?_⟩
    wtm_at "lm"
    exact q1 l hl H1 A1 k1
/-- reckoned -/
def spReckoned : Sp := fun vs H Q _ => ∃ (sg : Sg) (a b : Int), vs = [.str sg.nm, .int a, .int b] ∧ (0 ≤ a ∧ a ≤ 999999) ∧ (0 ≤ b ∧ b ≤ 999999) ∧ ¬ (sg = .div ∧ b = 0) ∧ Q (.int (came sg a b)) H
theorem ok_reckoned (T : Txt K mg) : CallOk P w K mg base 1 "reckoned" ["sign", "one", "other"] spReckoned := by
  refine go_p_reckoned T.d_p_reckoned (fun vs H Q E h => ?_) ?_
  · obtain ⟨sg, a, b, rfl, _⟩ := h
    rfl
  intro X e1 e2 e3 e4 e5 F sc hr vs H Q E h
  subst e1 e2 e3 e4 e5
  obtain ⟨sg, a, b, rfl, ha, hb, no, q⟩ := h
  obtain ⟨tg, mG⟩ := T.c_GREATEST
  have b1 := T.b_int
  show WSs X _ _ [some (.str sg.nm), some (.int a), some (.int b)] H
  refine s_cons ?_
  cases sg with
  | add =>
    show WS X _ _ [some (.str "+"), _, _] H
    wtm_at "lm"
    exact q
  | sub =>
    show WS X _ _ [some (.str "-"), _, _] H
    wtm_at "lm"
    exact q
  | mul =>
    show WS X _ _ [some (.str "*"), _, _] H
    wtm_at "lm"
    refine b_mul (.inl ⟨by omega, by omega⟩) ?_
    wtm_at "lm"
    exact q
  | lss =>
    show WS X _ _ [some (.str "<"), _, _] H
    wtm_at "lm"
    have e : (if decide (a < b) = true then (1 : Int) else 0) = came .lss a b := by
      show _ = if a < b then (1 : Int) else 0
      by_cases c : a < b
      · rw [if_pos c, decide_eq_true c]; rfl
      · rw [if_neg c, decide_eq_false c]; rfl
    rw [e]
    exact q
  | div =>
    show WS X _ _ [some (.str "/"), _, _] H
    have : b ≠ 0 := fun e => no ⟨rfl, e⟩
    wtm_at "lm"
    refine b_div ⟨by omega, by omega⟩ ?_
    wtm_at "lm"
    exact q
end
theorem r_asked {v s : Addr} {n m : Int} {e : Str} : (rfs v s n m e).lookup ("asked" : Str) = none := r_none (by decide +kernel) (by decide +kernel) (by decide +kernel) (by decide +kernel) (by decide +kernel)
theorem r_all_done {v s : Addr} {n m : Int} {e : Str} : (rfs v s n m e).lookup ("all_done" : Str) = none := r_none (by decide +kernel) (by decide +kernel) (by decide +kernel) (by decide +kernel) (by decide +kernel)
theorem r_stepped {v s : Addr} {n m : Int} {e : Str} : (rfs v s n m e).lookup ("stepped" : Str) = none := r_none (by decide +kernel) (by decide +kernel) (by decide +kernel) (by decide +kernel) (by decide +kernel)
theorem r_value {v s : Addr} {n m : Int} {e : Str} : (rfs v s n m e).lookup ("value" : Str) = none := r_none (by decide +kernel) (by decide +kernel) (by decide +kernel) (by decide +kernel) (by decide +kernel)
theorem r_let_done {v s : Addr} {n m : Int} {e : Str} : (rfs v s n m e).lookup ("let_done" : Str) = none := r_none (by decide +kernel) (by decide +kernel) (by decide +kernel) (by decide +kernel) (by decide +kernel)
theorem r_row_done {v s : Addr} {n m : Int} {e : Str} : (rfs v s n m e).lookup ("row_done" : Str) = none := r_none (by decide +kernel) (by decide +kernel) (by decide +kernel) (by decide +kernel) (by decide +kernel)
/-- how many steps are left, read off the Runner -/
def leftR (most : Nat) (t : Addr) (H : Hp) : Nat := match H t with
  | some (.ins _ _ fs) => match fs.lookup ("steps" : Str) with
    | some (.int n) => ((most : Int) - n).toNat
    | _ => 0
  | _ => 0
theorem RunAt.left {C : Addr} {H : Hp} {t v s : Addr} {st : Rs} {most : Nat} {e : Str} (T : RunAt C H t v s st most e) : leftR most t H = st.left := by
  obtain ⟨dx, ht⟩ := T.ht
  unfold leftR
  rw [ht]
  simp only [r_steps]
  omega
section
variable {P : Program} {w : World} {K : PySem.W.Frag} {mg : Str → Option Value} {base : Heap} {C : Addr}
def spRLet (C : Addr) : Sp := fun vs H Q _ => ∃ (t v s r : Addr) (st : Rs) (most : Nat) (ns : List Str) (to : Str) (sg : Sg) (x y : Key), vs = [.ref t, .ref r] ∧ H r = some (.tup [.str "let", .str to, .str sg.nm, kV x, kV y]) ∧ RunAt C H t v s st most "done" ∧ NumsIn ns st.kvs ∧ ns.length ≤ 100000 ∧ to ∈ ns ∧ KeyOk ns x ∧ KeyOk ns y ∧
  ∀ H', RunAt C H' t v s (letEv to sg x y st).1 most (letEv to sg x y st).2.nm → ButT t v s H H' → Q (.bl (decide ((letEv to sg x y st).2 = .done))) H'
theorem ok_r_let (T0 : Txt K mg) (T : K_Runner K mg C) : MOk P w K mg base 2 C "let_done" ["self", "row"] (spRLet C) := by
  have G1 : MOk P w K mg base 1 C "value" ["self", "thing"] (spRValue C) := ok_r_value T0 T
  have G2 : CallOk P w K mg base 1 "reckoned" ["sign", "one", "other"] spReckoned := ok_reckoned T0
  refine go_Runner_let_done T.m_let_done (fun vs H Q E h => ?_) ?_
  · obtain ⟨t, v, s, r, st, most, ns, to, sg, x, y, rfl, _⟩ := h
    rfl
  intro X e1 e2 e3 e4 e5 F sc hr vs H Q E h
  subst e1 e2 e3 e4 e5
  obtain ⟨t, v, s, r, st, most, ns, to, sg, x, y, rfl, ht, A, N, hn, hto, hx, hy, q⟩ := h
  have hu := hu_of hr
  have hst := A.st
  have rx := val_rng N hx
  have ry := val_rng N hy
  have cl := T.cl
  obtain ⟨dx, hT⟩ := A.ht
  have kl := N.len
  show WSs X _ _ [some (.ref t), some (.ref r), none, none] H
  refine s_cons ?_
  wtm_at "lm"
  refine ⟨t, dx, _, rfl, hT, r_value, ?_⟩
  wtm_at "lm"
  refine ⟨x, t, v, s, st, most, _, ns, rfl, A, N, ?_⟩
  wtm_at "lm"
  refine ⟨t, dx, _, rfl, hT, r_value, ?_⟩
  wtm_at "lm"
  refine ⟨y, t, v, s, st, most, _, ns, rfl, A, N, ?_⟩
  wtm_at "lms"
  refine s_cut (fun σ' H' => σ' = [some (.ref t), some (.ref r), some (.int (st.val x)), some (.int (st.val y))] ∧ H' = H ∧ ¬ (sg = .div ∧ st.val y = 0)) ?_ ?_
  · wtm_at "lm"
    refine ite_dec (fun c => ?_) (fun c => ?_)
    · have c' : sg = .div := by cases sg <;> first | rfl | exact absurd c (by decide +kernel)
      subst c'
      wtm_at "lm"
      refine ite_dec (fun c2 => ?_) (fun c2 => ?_)
      · wtm_at "lm"
        refine ⟨t, C, dx, _, rfl, hT, cl, T.n_ending, (by show 5 < 1000; decide), ?_⟩
        rw [r_put_ending]
        wtm_at "lm"
        have e : letEv to .div x y st = (st, .nought) := by unfold letEv; rw [if_pos ⟨rfl, c2⟩]
        have := q (upd H t (.ins C dx (rfs v s ((most : Int) - st.left) most "by nought")))
        rw [e] at this
        exact this ⟨⟨dx, upd_same⟩, by rw [upd_ne hst.2.2]; exact A.hv, by rw [upd_ne hst.1]; exact A.hs, A.le⟩ ButT.t
      · wtm_at "lm"
        exact ⟨rfl, rfl, fun z => c2 z.2⟩
    · wtm_at "lm"
      exact ⟨rfl, rfl, fun z => c (by rw [z.1]; rfl)⟩
  rintro _ H2 ⟨rfl, eH, no⟩
  rw [eH]
  clear eH H2
  wtm_at "lm"
  refine ⟨sg, _, _, rfl, rx, ry, no, ?_⟩
  wtm_at "lm"
  refine ⟨t, C, dx, _, _, rfl, hT, cl, T.n_names, r_names, ?_⟩
  wtm_at "lm"
  refine p_dS hu A.hv (szl (by omega)) ?_
  wtm_at "lm"
  have e : letEv to sg x y st = ({ st with kvs := putK st.kvs (.inr to) (.int (came sg (st.val x) (st.val y))) }, .done) := by unfold letEv; rw [if_neg no]
  have := q (upd H v (.dK (putK st.kvs (.inr to) (.int (came sg (st.val x) (st.val y))))))
  rw [e] at this
  exact this ⟨⟨dx, by rw [upd_ne hst.2.2.symm]; exact hT⟩, by rw [upd_same], by rw [upd_ne hst.2.1]; exact A.hs, A.le⟩ ButT.v
def spRRow (C : Addr) (n : Nat) : Sp := fun vs H Q _ => ∃ (u : V) (t v s : Addr) (st : Rs) (most : Nat) (ns : List Str) (r : Row) (f : List Addr), vs = [.ref t, u] ∧ RowIn H u r f ∧ r.dep ≤ n ∧ RowOk ns r ∧ ns.length ≤ 1000 ∧ RunAt C H t v s st most "done" ∧ StOk ns 200000 st ∧ s ∉ f ∧
  ∀ H', RunAt C H' t v s (r.ev st).1 most (r.ev st).2.nm → ButT t v s H H' → Q (.bl (decide ((r.ev st).2 = .done))) H'
def spRAll (C : Addr) (n : Nat) : Sp := fun vs H Q _ => ∃ (t v s a : Addr) (st : Rs) (most : Nat) (ns : List Str) (rs : List Row) (f : List Addr), vs = [.ref t, .ref a] ∧ RowsIn H a rs f ∧ deps rs ≤ n ∧ RowsOk ns rs ∧ ns.length ≤ 1000 ∧ RunAt C H t v s st most "done" ∧ StOk ns 200000 st ∧ s ∉ f ∧
  ∀ H', RunAt C H' t v s (evs rs st).1 most (evs rs st).2.nm → ButT t v s H H' → Q (.bl (decide ((evs rs st).2 = .done))) H'
theorem ok_r_row (T0 : Txt K mg) (T : K_Runner K mg C) (n : Nat) (hm : ∀ k < n, MOk P w K mg base (2 * k + 5) C "all_done" ["self", "rows"] (spRAll C k)) : MOk P w K mg base (2 * n + 3 + 1) C "row_done" ["self", "row"] (spRRow C n) := by
  have G1 : MOk P w K mg base 1 C "value" ["self", "thing"] (spRValue C) := ok_r_value T0 T
  have G2 : MOk P w K mg base 1 C "stepped" ["self"] (spRStepped C) := ok_r_stepped T
  have G3 : MOk P w K mg base 2 C "let_done" ["self", "row"] (spRLet C) := ok_r_let T0 T
  have G4 : MOk P w K mg base 2 C "asked" ["self", "test"] (spRAsked C) := ok_r_asked T0 T
  refine go_Runner_row_done T.m_row_done (fun vs H Q E h => ?_) ?_
  · obtain ⟨u, t, v, s, st, most, ns, r, f, rfl, _⟩ := h
    rfl
  intro X e1 e2 e3 e4 e5 F sc hr vs H Q E h
  subst e1 e2 e3 e4 e5
  obtain ⟨u, t, v, s, st, most, ns, r, f, rfl, hR, hd, ok, hn, A, O, hsf, q⟩ := h
  have cl := T.cl
  obtain ⟨dx, hT⟩ := A.ht
  show WSs X _ _ [some (.ref t), some u] H
  refine s_cons ?_
  cases hR with
  | @lt a to sg x y ha =>
    wtm_at "lm"
    refine ⟨t, dx, _, rfl, hT, r_stepped, ?_⟩
    refine ⟨t, v, s, st, most, rfl, A, fun h0 H1 A1 k1 => ?_, fun l hl H1 A1 k1 => ?_⟩
    · wtm_at "lm"
      have := q H1
      rw [ev_lt0 h0] at this
      exact this A1 k1
    · have ha1 := k1 _ _ (ne_of ha hT fun z => nomatch z) (ne_of ha A.hv fun z => nomatch z) (ne_of ha A.hs fun z => nomatch z) ha
      have ok' := ok
      rw [RowOk] at ok'
      obtain ⟨dx1, ht1⟩ := A1.ht
      wtm_at "lm"
      refine ⟨t, dx1, _, rfl, ht1, r_let_done, ?_⟩
      wtm_at "lm"
      refine ⟨t, v, s, a, { st with left := l }, most, ns, to, sg, x, y, rfl, ha1, A1, O.nums, by omega, ok'.1, ok'.2.1, ok'.2.2, fun H2 A2 k2 => ?_⟩
      rw [← ev_lt1 hl] at A2 ⊢
      exact q H2 A2 (k1.trans k2)
  | @say a x ha =>
    rw [RowOk] at ok
    wtm_at "lm"
    refine ⟨t, dx, _, rfl, hT, r_stepped, ?_⟩
    refine ⟨t, v, s, st, most, rfl, A, fun h0 H1 A1 k1 => ?_, fun l hl H1 A1 k1 => ?_⟩
    · wtm_at "lm"
      have := q H1
      rw [ev_say0 h0] at this
      exact this A1 k1
    · have ha1 := k1 _ _ (ne_of ha hT fun z => nomatch z) (ne_of ha A.hv fun z => nomatch z) (ne_of ha A.hs fun z => nomatch z) ha
      have sl := O.said
      obtain ⟨dx1, ht1⟩ := A1.ht
      wtm_at "lm"
      refine ⟨t, C, dx1, _, _, rfl, ht1, cl, T.n_said, r_said, ?_⟩
      refine ⟨s, _, rfl, SqL.of A1.hs, ?_⟩
      wtm_at "lm"
      refine ⟨t, dx1, _, rfl, ht1, r_value, ?_⟩
      wtm_at "lm"
      refine ⟨x, t, v, s, _, most, _, ns, rfl, A1, O.nums, ?_⟩
      refine x_app A1.hs (by rw [List.length_map]; show st.said.length < _; omega) ?_
      wtm_at "lm"
      have := q (upd H1 s (.lst (st.said.map V.int ++ [.int (st.val x)])))
      rw [ev_say1 hl] at this
      refine this ⟨⟨dx1, by rw [upd_ne A.st.1.symm]; exact ht1⟩, by rw [upd_ne A.st.2.1.symm]; exact A1.hv, by rw [upd_same, List.map_append]; rfl, A1.le⟩ (k1.trans ButT.s)
  | @blk a c kd test rs g ha hb =>
    rw [Row.dep] at hd
    have ok' := ok
    rw [RowOk] at ok'
    obtain ⟨k, rfl⟩ : ∃ k, n = k + 1 := ⟨n - 1, by omega⟩
    have G5 := hm k (Nat.lt_succ_self k)
    have na : a ≠ t ∧ a ≠ v ∧ a ≠ s := ⟨ne_of ha hT (fun z => nomatch z), ne_of ha A.hv (fun z => nomatch z), ne_of ha A.hs (fun z => nomatch z)⟩
    have at1 := hb.at
    cases kd with
    | whn =>
      replace ha : H a = some (.tup [.str "when", .str test, .ref c]) := ha
      wtm_at "lm"
      refine s_while F (fun σ' H' => σ' = [some (.ref t), some (.ref a)] ∧ ∃ st', RunAt C H' t v s st' most "done" ∧ StOk ns 200000 st' ∧ ButT t v s H H' ∧ (Row.blk .whn test rs).ev st' = (Row.blk .whn test rs).ev st) (fun _ H' => leftR most t H') ⟨rfl, st, A, O, ButT.refl, rfl⟩ ?_
      rintro σ' H' ⟨rfl, st', A', O', k', e'⟩
      have ha' := k' _ _ na.1 na.2.1 na.2.2 ha
      obtain ⟨dx', ht'⟩ := A'.ht
      wtm_at "lm"
      refine ⟨t, dx', _, rfl, ht', r_asked, ?_⟩
      wtm_at "lm"
      refine ⟨t, v, s, st', most, test, ns, rfl, A', O'.nums, fun h0 H1 A1 k1 => ?_, fun l hl H1 A1 k1 => ?_⟩
      · obtain ⟨dx1, ht1⟩ := A1.ht
        wtm_at "lm"
        refine ⟨t, C, dx1, _, _, rfl, ht1, cl, T.n_ending, r_ending, ?_⟩
        wtm_at "lm"
        have := q H1
        rw [← e', ev_whn0 h0] at this
        exact this A1 (k'.trans k1)
      · have ha1 := k1 _ _ na.1 na.2.1 na.2.2 ha'
        have kk := k'.trans k1
        obtain ⟨dx1, ht1⟩ := A1.ht
        wtm_at "lm"
        refine ite_ndec (fun c0 => ?_) (fun c0 => ?_)
        · wtm_at "lm"
          refine ⟨t, dx1, _, rfl, ht1, r_all_done, ?_⟩
          wtm_at "lm"
          refine ⟨t, v, s, c, _, most, ns, rs, _, rfl, hb.keep (A.kept kk at1 hsf), by omega, ok'.2, hn, A1, O'.one hl, hsf, fun H2 A2 k2 => ?_⟩
          have ha2 := k2 _ _ na.1 na.2.1 na.2.2 ha1
          wtm_at "lm"
          have := q H2
          rw [← e', ev_whn1 hl, if_neg c0] at this
          refine ite_ndec (fun c1 => ?_) (fun c1 => ?_)
          · wtm_at "lm"
            rw [decide_eq_false c1] at this
            exact this A2 (kk.trans k2)
          · wtm_at "lm"
            rw [decide_eq_true c1] at this
            exact this A2 (kk.trans k2)
        · wtm_at "lm"
          refine ⟨t, C, dx1, _, _, rfl, ht1, cl, T.n_ending, r_ending, ?_⟩
          wtm_at "lm"
          have := q H1
          rw [← e', ev_whn1 hl, if_pos c0] at this
          exact this A1 kk
    | lop =>
      replace ha : H a = some (.tup [.str "loop", .str test, .ref c]) := ha
      wtm_at "lm"
      refine s_while F (fun σ' H' => σ' = [some (.ref t), some (.ref a)] ∧ ∃ st', RunAt C H' t v s st' most "done" ∧ StOk ns 200000 st' ∧ ButT t v s H H' ∧ lp (evs rs) test st' = (Row.blk .lop test rs).ev st) (fun _ H' => leftR most t H') ⟨rfl, st, A, O, ButT.refl, ev_lop.symm⟩ ?_
      rintro σ' H' ⟨rfl, st', A', O', k', e'⟩
      have ha' := k' _ _ na.1 na.2.1 na.2.2 ha
      obtain ⟨dx', ht'⟩ := A'.ht
      wtm_at "lm"
      refine ⟨t, dx', _, rfl, ht', r_asked, ?_⟩
      wtm_at "lm"
      refine ⟨t, v, s, st', most, test, ns, rfl, A', O'.nums, fun h0 H1 A1 k1 => ?_, fun l hl H1 A1 k1 => ?_⟩
      · obtain ⟨dx1, ht1⟩ := A1.ht
        wtm_at "lm"
        refine ⟨t, C, dx1, _, _, rfl, ht1, cl, T.n_ending, r_ending, ?_⟩
        wtm_at "lm"
        have := q H1
        rw [← e', lp_zero h0] at this
        exact this A1 (k'.trans k1)
      · have ha1 := k1 _ _ na.1 na.2.1 na.2.2 ha'
        have kk := k'.trans k1
        obtain ⟨dx1, ht1⟩ := A1.ht
        wtm_at "lm"
        refine ite_ndec (fun c0 => ?_) (fun c0 => ?_)
        · wtm_at "lm"
          refine ⟨t, dx1, _, rfl, ht1, r_all_done, ?_⟩
          wtm_at "lm"
          refine ⟨t, v, s, c, _, most, ns, rs, _, rfl, hb.keep (A.kept kk at1 hsf), by omega, ok'.2, hn, A1, O'.one hl, hsf, fun H2 A2 k2 => ?_⟩
          have ha2 := k2 _ _ na.1 na.2.1 na.2.2 ha1
          wtm_at "lm"
          refine ite_ndec (fun c1 => ?_) (fun c1 => ?_)
          · wtm_at "lm"
            have := q H2
            rw [← e', lp_end (st2 := (evs rs { st' with left := l }).1) (o := (evs rs { st' with left := l }).2) hl c0 rfl c1, decide_eq_false c1] at this
            exact this A2 (kk.trans k2)
          · have e2 : evs rs { st' with left := l } = ((evs rs { st' with left := l }).1, .done) := Prod.ext rfl c1
            have lf := evs_left rs { st' with left := l }
            rw [c1] at A2
            wtm_at "lm"
            refine ⟨⟨rfl, _, A2, (O'.one hl).rows ok'.2, kk.trans k2, by rw [← e', lp_in (evs_left rs) hl c0 e2]⟩, ?_⟩
            rw [A2.left, A'.left]
            have : (evs rs { st' with left := l }).1.left ≤ l := lf
            omega
        · wtm_at "lm"
          refine ⟨t, C, dx1, _, _, rfl, ht1, cl, T.n_ending, r_ending, ?_⟩
          wtm_at "lm"
          have := q H1
          rw [← e', lp_out hl c0] at this
          exact this A1 kk
    | agn =>
      replace ha : H a = some (.tup [.str "again", .str test, .ref c]) := ha
      wtm_at "lm"
      refine ⟨t, dx, _, rfl, hT, r_all_done, ?_⟩
      wtm_at "lm"
      refine ⟨t, v, s, c, st, most, ns, rs, _, rfl, hb, by omega, ok'.2, hn, A, O, hsf, fun H0 A0 k0 => ?_⟩
      have ha0 := k0 _ _ na.1 na.2.1 na.2.2 ha
      wtm_at "lm"
      refine ite_ndec (fun c1 => ?_) (fun c1 => ?_)
      · wtm_at "lm"
        have := q H0
        rw [ev_agn' (st1 := (evs rs st).1) (o := (evs rs st).2) rfl c1, decide_eq_false c1] at this
        exact this A0 k0
      have e0 : evs rs st = ((evs rs st).1, .done) := Prod.ext rfl c1
      rw [c1] at A0
      wtm_at "lm"
      refine s_while F (fun σ' H' => σ' = [some (.ref t), some (.ref a)] ∧ ∃ st', RunAt C H' t v s st' most "done" ∧ StOk ns 200000 st' ∧ ButT t v s H H' ∧ lp (evs rs) test st' = (Row.blk .agn test rs).ev st) (fun _ H' => leftR most t H') ⟨rfl, _, A0, O.rows ok'.2, k0, (ev_agn e0).symm⟩ ?_
      rintro σ' H' ⟨rfl, st', A', O', k', e'⟩
      have ha' := k' _ _ na.1 na.2.1 na.2.2 ha
      obtain ⟨dx', ht'⟩ := A'.ht
      wtm_at "lm"
      refine ⟨t, dx', _, rfl, ht', r_asked, ?_⟩
      wtm_at "lm"
      refine ⟨t, v, s, st', most, test, ns, rfl, A', O'.nums, fun h0 H1 A1 k1 => ?_, fun l hl H1 A1 k1 => ?_⟩
      · obtain ⟨dx1, ht1⟩ := A1.ht
        wtm_at "lm"
        refine ⟨t, C, dx1, _, _, rfl, ht1, cl, T.n_ending, r_ending, ?_⟩
        wtm_at "lm"
        have := q H1
        rw [← e', lp_zero h0] at this
        exact this A1 (k'.trans k1)
      · have ha1 := k1 _ _ na.1 na.2.1 na.2.2 ha'
        have kk := k'.trans k1
        obtain ⟨dx1, ht1⟩ := A1.ht
        wtm_at "lm"
        refine ite_ndec (fun c0 => ?_) (fun c0 => ?_)
        · wtm_at "lm"
          refine ⟨t, dx1, _, rfl, ht1, r_all_done, ?_⟩
          wtm_at "lm"
          refine ⟨t, v, s, c, _, most, ns, rs, _, rfl, hb.keep (A.kept kk at1 hsf), by omega, ok'.2, hn, A1, O'.one hl, hsf, fun H2 A2 k2 => ?_⟩
          have ha2 := k2 _ _ na.1 na.2.1 na.2.2 ha1
          wtm_at "lm"
          refine ite_ndec (fun c1 => ?_) (fun c1 => ?_)
          · wtm_at "lm"
            have := q H2
            rw [← e', lp_end (st2 := (evs rs { st' with left := l }).1) (o := (evs rs { st' with left := l }).2) hl c0 rfl c1, decide_eq_false c1] at this
            exact this A2 (kk.trans k2)
          · have e2 : evs rs { st' with left := l } = ((evs rs { st' with left := l }).1, .done) := Prod.ext rfl c1
            have lf := evs_left rs { st' with left := l }
            rw [c1] at A2
            wtm_at "lm"
            refine ⟨⟨rfl, _, A2, (O'.one hl).rows ok'.2, kk.trans k2, by rw [← e', lp_in (evs_left rs) hl c0 e2]⟩, ?_⟩
            rw [A2.left, A'.left]
            have : (evs rs { st' with left := l }).1.left ≤ l := lf
            omega
        · wtm_at "lm"
          refine ⟨t, C, dx1, _, _, rfl, ht1, cl, T.n_ending, r_ending, ?_⟩
          wtm_at "lm"
          have := q H1
          rw [← e', lp_out hl c0] at this
          exact this A1 kk
theorem ok_r_all (T0 : Txt K mg) (T : K_Runner K mg C) (n : Nat) : MOk P w K mg base (2 * n + 5) C "all_done" ["self", "rows"] (spRAll C n) := by
  induction n using Nat.strongRecOn with
  | ind n ih =>
    have G1 : MOk P w K mg base (2 * n + 3 + 1) C "row_done" ["self", "row"] (spRRow C n) := ok_r_row T0 T n ih
    refine go_Runner_all_done (k := 2 * n + 4) T.m_all_done (fun vs H Q E h => ?_) ?_
    · obtain ⟨t, v, s, a, st, most, ns, rs, f, rfl, _⟩ := h
      rfl
    intro X e1 e2 e3 e4 e5 F sc hr vs H Q E h
    subst e1 e2 e3 e4 e5
    obtain ⟨t, v, s, a, st, most, ns, rs, f, rfl, hR, hd, ok, hn, A, O, hsf, q⟩ := h
    have cl := T.cl
    obtain ⟨dx, hT⟩ := A.ht
    show WSs X _ _ [some (.ref t), some (.ref a), none] H
    have at1 := hR.at
    cases hR with
    | @mk _ vs _ fp h ha =>
    have vl := ha.len
    refine s_cons ?_
    wtm_at "lm"
    refine wi_list ?_
    wtm_at "lm"
    have keepA : ∀ H', ButT t v s H H' → H' a = some (.lst vs) := fun H' k => k _ _ (ne_of h hT fun z => nomatch z) (ne_of h A.hv fun z => nomatch z) (fun z => hsf (z ▸ List.mem_cons_self)) h
    refine for_l (fun i σ' H' => i ≤ vs.length ∧ ∃ (o : Option V) (st' : Rs), σ' = [some (.ref t), some (.ref a), o] ∧ RunAt C H' t v s st' most "done" ∧ StOk ns 200000 st' ∧ ButT t v s H H' ∧ evs (rs.drop i) st' = evs rs st) ⟨Nat.zero_le _, none, st, rfl, A, O, ButT.refl, rfl⟩ (fun i σ' H' _ ⟨_, _, _, _, _, _, k, _⟩ => SqL.of (keepA H' k)) ?_ ?_
    · rintro i u σ' H' hi ⟨_, o, st', rfl, A', O', k', e'⟩
      refine ⟨_, by wtm_at "lm.put", ?_⟩
      obtain ⟨r, g, hr1, hr2, hg⟩ := ha.get hi
      have hil : i < vs.length := (List.getElem?_eq_some_iff.mp hi).1
      have mem := List.mem_of_getElem? hr1
      have d1 := deps_mem mem
      have ed : rs.drop i = r :: rs.drop (i + 1) := by
        have := List.drop_eq_getElem_cons (show i < rs.length by omega)
        rw [List.getElem?_eq_getElem (show i < rs.length by omega)] at hr1
        rw [this, Option.some.inj hr1]
      rw [ed] at e'
      have sg : s ∉ g := fun z => hsf (List.mem_cons_of_mem _ (hg s z))
      obtain ⟨dx', ht'⟩ := A'.ht
      refine s_one ?_
      wtm_at "lm"
      refine ⟨t, dx', _, rfl, ht', r_row_done, ?_⟩
      wtm_at "lm"
      refine ⟨u, t, v, s, st', most, ns, r, g, rfl, hr2.keep (A.kept k' (fun l hl => at1 l (List.mem_cons_of_mem _ (hg l hl))) sg), by omega, RowsOk_mem ok mem, hn, A', O', sg, fun H2 A2 k2 => ?_⟩
      wtm_at "lm"
      refine ite_ndec (fun c1 => ?_) (fun c1 => ?_)
      · wtm_at "lm"
        have := q H2
        rw [← e', evs_end (st1 := (r.ev st').1) (o := (r.ev st').2) rfl c1, decide_eq_false c1] at this
        exact this A2 (k'.trans k2)
      · have e2 : r.ev st' = ((r.ev st').1, .done) := Prod.ext rfl c1
        rw [c1] at A2
        wtm_at "lm"
        exact ⟨hil, _, _, rfl, A2, O'.row (RowsOk_mem ok mem), k'.trans k2, by rw [← e', evs_done e2]⟩
    · rintro σ' H' ⟨_, o, st', rfl, A', O', k', e'⟩
      rw [List.drop_of_length_le (by omega), evs_nil] at e'
      wtm_at "lm"
      have := q H'
      rw [← e'] at this
      exact this A' k'
end
def fl1 (v : Addr) : List (Str × V) := [("names", .ref v)]
def fl2 (v s : Addr) : List (Str × V) := [("names", .ref v), ("said", .ref s)]
def fl3 (v s : Addr) (n : Int) : List (Str × V) := [("names", .ref v), ("said", .ref s), ("steps", .int n)]
def fl4 (v s : Addr) (n m : Int) : List (Str × V) := [("names", .ref v), ("said", .ref s), ("steps", .int n), ("most", .int m)]
theorem fs1 {v s : Addr} : putF ("said" : Str) (V.ref s) (putF ("names" : Str) (V.ref v) []) = fl2 v s := by
  rw [show putF ("names" : Str) (V.ref v) [] = fl1 v from rfl]
  unfold fl1
  rw [putF_skip (by decide +kernel)]
  rfl
theorem fs2 {v s : Addr} {n : Int} : putF ("steps" : Str) (V.int n) (fl2 v s) = fl3 v s n := by
  unfold fl2
  rw [putF_skip (by decide +kernel), putF_skip (by decide +kernel)]
  rfl
theorem fs3 {v s : Addr} {n m : Int} : putF ("most" : Str) (V.int m) (fl3 v s n) = fl4 v s n m := by
  unfold fl3
  rw [putF_skip (by decide +kernel), putF_skip (by decide +kernel), putF_skip (by decide +kernel)]
  rfl
theorem fs4 {v s : Addr} {n m : Int} {e : Str} : putF ("ending" : Str) (V.str e) (fl4 v s n m) = rfs v s n m e := by
  unfold fl4
  rw [putF_skip (by decide +kernel), putF_skip (by decide +kernel), putF_skip (by decide +kernel), putF_skip (by decide +kernel)]
  rfl
section
variable {P : Program} {w : World} {K : PySem.W.Frag} {mg : Str → Option Value} {base : Heap} {C : Addr}
def spRInit (C : Addr) : Sp := fun vs H Q _ => ∃ (t dx g : Addr) (m : Nat) (kvs : List (Key × V)), vs = [.ref t, .ref g, .int m] ∧ H t = some (.ins C dx []) ∧ H g = some (.dK kvs) ∧
  ∀ (v s : Addr) (H' : Hp), RunAt C H' t v s ⟨kvs, [], m⟩ m "done" → H v = none → H s = none → (∀ l o, l ≠ t → H l = some o → H' l = some o) → Q .non H'
theorem ok_r_init (T0 : Txt K mg) (T : K_Runner K mg C) : MOk P w K mg base 1 C "__init__" ["self", "given", "most"] (spRInit C) := by
  refine go_Runner___init__ T.m___init__ (fun vs H Q E h => ?_) ?_
  · obtain ⟨t, dx, g, m, kvs, rfl, _⟩ := h
    rfl
  intro X e1 e2 e3 e4 e5 F sc hr vs H Q E h
  subst e1 e2 e3 e4 e5
  obtain ⟨t, dx, g, m, kvs, rfl, ht, hg, q⟩ := h
  have cl := T.cl
  have b1 := T0.b_dict
  show WSs X _ _ [some (.ref t), some (.ref g), some (.int m)] H
  refine s_cons ?_
  wtm_at "lm"
  refine k_dict (Rd.of hg) fun v H1 hv1 s1 h1 => ?_
  have ht1 := s1 _ _ ht
  have vt : v ≠ t := fun e => by rw [e, ht] at hv1; cases hv1
  wtm_at "lm"
  refine ⟨t, C, dx, _, rfl, ht1, cl, T.n_names, (by show 0 < 1000; decide), ?_⟩
  wtm_at "lm"
  intro s H2 hs2 s2 h2
  have st : s ≠ t := fun e => by rw [e, upd_same] at hs2; cases hs2
  have hs1 : H1 s = none := by rw [upd_ne st] at hs2; exact hs2
  have sv : s ≠ v := fun e => by rw [e, h1] at hs1; cases hs1
  have ht2 := s2 _ _ upd_same
  have hv2 : H2 v = some (.dK kvs) := s2 _ _ (by rw [upd_ne vt]; exact h1)
  wtm_at "lm"
  refine ⟨t, C, dx, _, rfl, ht2, cl, T.n_said, (by show 1 < 1000; decide), ?_⟩
  wtm_at "lm"
  rw [fs1]
  refine ⟨t, C, dx, _, rfl, upd_same, cl, T.n_steps, (by show 2 < 1000; decide), ?_⟩
  rw [fs2]
  wtm_at "lm"
  refine ⟨t, C, dx, _, rfl, upd_same, cl, T.n_most, (by show 3 < 1000; decide), ?_⟩
  rw [fs3]
  wtm_at "lm"
  refine ⟨t, C, dx, _, rfl, upd_same, cl, T.n_ending, (by show 4 < 1000; decide), ?_⟩
  rw [fs4, ← Int.sub_self (m : Int)]
  wtm_at "lm"
  refine q v s _ ⟨⟨dx, upd_same⟩, ?_, ?_, Nat.le_refl _⟩ hv1 (s1.free hs1) fun l o hl h => ?_
  · rw [upd_ne vt, upd_ne vt, upd_ne vt, upd_ne vt]
    exact hv2
  · rw [upd_ne st, upd_ne st, upd_ne st, upd_ne st]
    exact h2
  · rw [upd_ne hl, upd_ne hl, upd_ne hl, upd_ne hl]
    exact s2 _ _ (by rw [upd_ne hl]; exact s1 _ _ h)
end
section
variable {P : Program} {w : World} {K : PySem.W.Frag} {mg : Str → Option Value} {base : Heap}
/-- run: the tuple of what is said, how it ends, the values or None, the steps -/
def spRun (n : Nat) : Sp := fun vs H Q _ => ∃ (a g : Addr) (m : Nat) (ns : List Str) (rs : List Row) (f : List Addr) (kvs : List (Key × V)), vs = [.ref a, .ref g, .int m] ∧ RowsIn H a rs f ∧ deps rs ≤ n ∧ RowsOk ns rs ∧ ns.length ≤ 1000 ∧ H g = some (.dK kvs) ∧ NumsIn ns kvs ∧ m ≤ 150000 ∧
  ∀ (p v s : Addr) (H' : Hp), Same H H' → H s = none → H v = none → H' v = some (.dK (evs rs ⟨kvs, [], m⟩).1.kvs) → H' s = some (.lst ((evs rs ⟨kvs, [], m⟩).1.said.map V.int)) →
    H' p = some (.tup [.ref s, .str (evs rs ⟨kvs, [], m⟩).2.nm, (if (evs rs ⟨kvs, [], m⟩).2 = .done then .ref v else .non), .int ((m : Int) - (evs rs ⟨kvs, [], m⟩).1.left)]) → Q (.ref p) H'
theorem ok_run (T : Txt K mg) (n : Nat) : CallOk P w K mg base (2 * n + 6) "run" ["rows", "given", "most"] (spRun n) := by
  obtain ⟨C, TC⟩ := T.k_Runner
  have G1 : MOk P w K mg base (2 * n + 5) C "all_done" ["self", "rows"] (spRAll C n) := ok_r_all T TC n
  have G2 : MOk P w K mg base 1 C "__init__" ["self", "given", "most"] (spRInit C) := ok_r_init T TC
  refine go_p_run (k := 2 * n + 5) T.d_p_run (fun vs H Q E h => ?_) ?_
  · obtain ⟨a, g, m, ns, rs, f, kvs, rfl, _⟩ := h
    rfl
  intro X e1 e2 e3 e4 e5 F sc hr vs H Q E h
  subst e1 e2 e3 e4 e5
  obtain ⟨a, g, m, ns, rs, f, kvs, rfl, hR, hd, ok, hn, hg, N, hm, q⟩ := h
  have cl := TC.cl
  show WSs X _ _ [some (.ref a), some (.ref g), some (.int m), none] H
  refine s_cons ?_
  wtm_at "lm"
  refine w_make F G2 TC.mks TC.kp hr (by omega) (by wtm_at "lm.mem") TC.at_ ?_
  wtm_at "lm"
  intro t dx ht hdx hne
  have s1 : Same H (upd (upd H dx (.own t)) t (.ins C dx [])) := fun b o e => by
    rw [upd_ne (ne_of_none e ht), upd_ne (ne_of_none e hdx)]
    exact e
  refine ⟨t, dx, g, m, kvs, rfl, upd_same, s1 _ _ hg, fun v s H2 A2 hv2 hs2 k2 => ⟨rfl, ?_⟩⟩
  have s2 : Same H H2 := fun l o e => k2 l o (ne_of_none e ht) (s1 _ _ e)
  have hsf : s ∉ f := fun z => by
    obtain ⟨xs, e⟩ := hR.at s z
    have := s1 _ _ e
    rw [hs2] at this
    cases this
  obtain ⟨dx2, ht2⟩ := A2.ht
  wtm_at "lm"
  refine ⟨t, dx2, _, rfl, ht2, r_all_done, ?_⟩
  wtm_at "lm"
  refine ⟨t, v, s, a, ⟨kvs, [], m⟩, m, ns, rs, f, rfl, hR.mono s2, hd, ok, hn, A2, ⟨N, by show 0 + m ≤ 200000; omega⟩, hsf, fun H3 A3 k3 => ?_⟩
  have s3 : Same H H3 := fun l o e => by
    refine k3 l o (ne_of_none e ht) (fun z => ?_) (fun z => ?_) (s2 l o e)
    · have := s1 _ _ e
      rw [z, hv2] at this
      cases this
    · have := s1 _ _ e
      rw [z, hs2] at this
      cases this
  have hs0 : H s = none := s1.free hs2
  have hv0 : H v = none := s1.free hv2
  have q' := fun p H' => q p v s H'
  generalize hE : evs rs ⟨kvs, [], m⟩ = R at A3 q'
  obtain ⟨st, o⟩ := R
  replace A3 : RunAt C H3 t v s st m o.nm := A3
  obtain ⟨dx3, ht3⟩ := A3.ht
  wtm_at "lm"
  refine ⟨t, C, dx3, _, _, rfl, ht3, cl, TC.n_ending, r_ending, ?_⟩
  wtm_at "lm"
  by_cases ho : o = .done
  · subst ho
    refine ite_bT (by decide +kernel) ?_
    wtm_at "lm"
    refine ⟨t, C, dx3, _, _, rfl, ht3, cl, TC.n_said, r_said, ?_⟩
    wtm_at "lm"
    refine ⟨t, C, dx3, _, _, rfl, ht3, cl, TC.n_ending, r_ending, ?_⟩
    wtm_at "lm"
    refine ⟨t, C, dx3, _, _, rfl, ht3, cl, TC.n_names, r_names, ?_⟩
    wtm_at "lm"
    refine ⟨t, C, dx3, _, _, rfl, ht3, cl, TC.n_steps, r_steps, ?_⟩
    wtm_at "lm"
    intro p H4 hp s4 h4
    exact q' p H4 (s3.trans s4) hs0 hv0 (s4 _ _ A3.hv) (s4 _ _ A3.hs) h4
  · refine ite_bF (by cases o <;> first | exact absurd rfl ho | decide +kernel) ?_
    wtm_at "lm"
    refine ⟨t, C, dx3, _, _, rfl, ht3, cl, TC.n_said, r_said, ?_⟩
    wtm_at "lm"
    refine ⟨t, C, dx3, _, _, rfl, ht3, cl, TC.n_ending, r_ending, ?_⟩
    wtm_at "lm"
    refine ⟨t, C, dx3, _, _, rfl, ht3, cl, TC.n_steps, r_steps, ?_⟩
    wtm_at "lm"
    intro p H4 hp s4 h4
    exact q' p H4 (s3.trans s4) hs0 hv0 (s4 _ _ A3.hv) (s4 _ _ A3.hs) (by rw [if_neg ho]; exact h4)
end
/-! ### _law_same_values -/
theorem dgR {H : Hp} {p : Addr} {kvs : List (Key × V)} {k : Str} {v : V} (h : Rd H p (.dK kvs)) (e : valV kvs (.inr k) = some v) : DGet H p (.str k) (some v) := e ▸ .inl ⟨kvs, .inr k, h, rfl, rfl⟩
theorem dgK {H : Hp} {p : Addr} {kvs : List (Key × V)} {k : Str} {v : V} (h : H p = some (.dK kvs)) (e : valV kvs (.inr k) = some v) : DGet H p (.str k) (some v) := dgR (Rd.of h) e
theorem k_lenD {X : Cx} {H : Hp} {Q : VK} {p : Addr} {kvs : List (Key × V)} (h : H p = some (.dK kvs)) (q : Q (.int kvs.length) H) : WB1 X (.builtin "len") [.ref p] H Q := ⟨_, call_lenD, p, kvs, rfl, h, q⟩
theorem ix_dK {X : Cx} (hu : X.A.units + 1 < cLine) : IxR X (fun x y H Q => ∃ a v, x = .ref a ∧ DGet H a y (some v) ∧ Q v H) := by
  intro value slice pins s σ H x y v u Q I rx ry h hs
  obtain ⟨a, z, rfl, g, q⟩ := h
  obtain rfl : v = Value.ref a := rx
  exact tail_any (dict_typeIs I g) PySem.F.slot_dict_getitem.lookup (d_getItem hu I g ry fun w' s3 I3 rw' => ⟨z, H, I3, rw', q⟩) hs
theorem i_dct {X : Cx} {H : Hp} {Q : VK} {p : Addr} {y v : V} (hu : X.A.units + 1 < cLine) (h : DGet H p y (some v)) (q : Q v H) : WI X (.ref p) y H Q := ⟨_, ix_dK hu, p, v, rfl, h, q⟩
theorem valV_skp {p : Key × V} {r : List (Key × V)} {k : Key} (h : ¬ p.1 = k) : valV (p :: r) k = valV r k := by
  unfold valV
  rw [List.find?_cons, decide_eq_false h]
theorem find_own : ∀ {kvs : List (Key × V)}, (kvs.map (·.1)).Nodup → ∀ kv ∈ kvs, valV kvs kv.1 = some kv.2
  | [], _, kv, h => nomatch h
  | p :: r, nd, kv, h => by
    rw [List.map_cons, List.nodup_cons] at nd
    rcases List.mem_cons.mp h with rfl | h
    · exact valV_pos rfl
    · rw [valV_skp fun e => nd.1 (e ▸ List.mem_map.mpr ⟨kv, h, rfl⟩)]
      exact find_own nd.2 kv h
section
variable {P : Program} {w : World} {K : PySem.W.Frag} {mg : Str → Option Value} {base : Heap}
def spSameVals : Sp := fun vs H Q _ => ∃ (f d : Addr) (ns : List Str) (kvs : List (Key × V)), vs = [.ref f, .ref d] ∧ f ≠ d ∧ H f = some (.dK kvs) ∧ H d = some (.dK kvs) ∧ NumsIn ns kvs ∧ ∀ H', Same H H' → Q (.bl true) H'
theorem ok_same_vals (T : Txt K mg) : CallOk P w K mg base 2 "_law_same_values" ["_law_found", "_law_due"] spSameVals := by
  have G1 : CallOk P w K mg base 1 "_law_whole" ["_law_found"] spWhole := ok_whole T
  refine go_l_same_values T.d_l_same_values (fun vs H Q E h => ?_) ?_
  · obtain ⟨f, d, ns, kvs, rfl, _⟩ := h
    rfl
  intro X e1 e2 e3 e4 e5 C sc hr vs H Q E h
  subst e1 e2 e3 e4 e5
  obtain ⟨f, d, ns, kvs, rfl, fd, hf, hd, N, q⟩ := h
  have b1 := T.b_isinstance
  have b2 := T.b_dict
  have b3 := T.b_len
  have hu := hu_of hr
  show WSs X _ _ [some (.ref f), some (.ref d), none] H
  refine s_cons ?_
  wtm_at "lm"
  refine k_lenD hf ?_
  wtm_at "lm"
  refine k_lenD hd ?_
  wtm_at "lm"
  rw [decide_eq_true rfl]
  wtm_at "lms"
  refine s_cons (s_forK C (by wtm_at "lm.mem") hd (fun od i σ' H' => ∃ o : Option V, σ' = [some (.ref f), some (.ref d), o] ∧ H' d = some (.frz od (.dK kvs)) ∧ ∀ l o, l ≠ d → H l = some o → H' l = some o) ?_ ?_ ?_ ?_)
  · intro od
    wtm_at "lm"
    exact ⟨rfl, _, rfl, upd_same, fun l o h2 h3 => by rw [upd_ne h2]; exact h3⟩
  · rintro od i σ' H' _ ⟨o, rfl, g, _⟩
    exact g
  · rintro od i k v σ' H' hi ⟨o, rfl, g1, g2⟩
    refine ⟨_, by wtm_at "lm.put", ?_⟩
    obtain ⟨s, z, e, _⟩ := N.2 (k, v) (List.mem_of_getElem? hi)
    cases e
    have ev : valV kvs (.inr s) = some (.int z) := find_own N.1 _ (List.mem_of_getElem? hi)
    have hf' := g2 f _ fd hf
    show WSs X _ _ [some (.ref f), some (.ref d), some (.str s)] _
    wtm_at "lm"
    refine c_notInD (k := .inr s) hu hf' ?_
    rw [ev, Option.isSome_some]
    wtm_at "lm"
    refine i_dct hu (dgK hf' ev) ?_
    wtm_at "lm"
    refine ⟨z, rfl, ?_⟩
    wtm_at "lm"
    refine i_dct hu (dgK hf' ev) ?_
    wtm_at "lm"
    refine i_dct hu (dgR (.inr ⟨od, g1⟩) ev) ?_
    wtm_at "lm"
    rw [decide_eq_true rfl]
    wtm_at "lm"
    exact ⟨_, rfl, g1, g2⟩
  · rintro od σ' H' ⟨o, rfl, g1, g2⟩
    wtm_at "lm"
    refine q _ fun l o h => ?_
    by_cases e : l = d
    · rw [e, hd] at h
      rw [e, upd_same]
      exact h
    · rw [upd_ne e]
      exact g2 l o e h
end
/-! ### what is told of a run, as data -/
theorem ints_dpl {K : PySem.W.Frag} {H : Hp} {a : Addr} {ys : List Int} (h : SqL K H a (ys.map V.int)) : Dp K H (.ref a) (.list (ys.map .int)) := by
  refine .lst h ?_
  clear h
  induction ys with
  | nil => exact .nil
  | cons y r ih => exact .cons (.int y) ih
theorem ints_plain {ys : List Int} (h : ys.length ≤ 100000) : PlainD 1 (.list (ys.map .int)) := .lst (fun d hd => by obtain ⟨y, _, rfl⟩ := List.mem_map.mp hd; exact .int y) (by rw [List.length_map]; exact h)
/-- what is told of a run, as data -/
def taleD (ys : List Int) (e : Str) (n : Int) : PyData := .list [.list (ys.map .int), .str e, .int n]
theorem tale_dp {K : PySem.W.Frag} {H : Hp} {a b : Addr} {ys : List Int} {e : Str} {n : Int} (h : SqL K H a [.ref b, .str e, .int n]) (hb : SqL K H b (ys.map V.int)) : Dp K H (.ref a) (taleD ys e n) := .lst h (.cons (ints_dpl hb) (.cons (.str _) (.cons (.int _) .nil)))
theorem tale_plain {ys : List Int} {e : Str} {n : Int} (h : ys.length ≤ 100000) : PlainD 2 (taleD ys e n) := .lst (fun d hd => by
  simp only [List.mem_cons, List.not_mem_nil, or_false] at hd
  rcases hd with rfl | rfl | rfl
  · exact ints_plain h
  · exact .str _
  · exact .int _) (by show 3 ≤ 100000; decide)
/-! ### displays of dicts -/
def WD (X : Cx) : List (Option Expr) → List Expr → L2.St → Hp → (List (V × V) → Hp → Prop) → Prop
  | some k :: ks, v :: vs, σ, H, Q => WE X k σ H fun x H1 => WE X v σ H1 fun y H2 => WD X ks vs σ H2 fun ps H3 => Q ((x, y) :: ps) H3
  | [], [], _, H, Q => Q [] H
  | _, _, _, _, _ => False
theorem wd_cons {X : Cx} {k v : Expr} {ks : List (Option Expr)} {vs : List Expr} {σ : L2.St} {H : Hp} {Q : List (V × V) → Hp → Prop} (h : WE X k σ H fun x H1 => WE X v σ H1 fun y H2 => WD X ks vs σ H2 fun ps H3 => Q ((x, y) :: ps) H3) : WD X (some k :: ks) (v :: vs) σ H Q := h
theorem wd_nil {X : Cx} {σ : L2.St} {H : Hp} {Q : List (V × V) → Hp → Prop} (h : Q [] H) : WD X [] [] σ H Q := h
theorem wd_trs {X : Cx} {pos : Pos} : ∀ {ks : List (Option Expr)} {vs : List Expr}, ks.all (·.isSome) = true → ks.length = vs.length → ∃ trs, PPs X pos ks vs trs ∧ ∀ σ H Q, WD X ks vs σ H Q → tPairs trs σ H Q
  | [], [], _, _ => ⟨[], pps_nil, fun _ _ _ h => h⟩
  | some k :: ks, v :: vs, h, hl => by
    obtain ⟨trs, p, q⟩ := wd_trs (X := X) (pos := pos) (ks := ks) (vs := vs) (by simpa using h) (by simpa using hl)
    refine ⟨(WE X k, WE X v) :: trs, pps_cons (pe X k) (pe X v) p, fun σ H Q h => ?_⟩
    exact WE.mono (show WE X k σ H _ from h) fun x H1 h1 => WE.mono h1 fun y H2 h2 => q σ H2 _ h2
  | none :: ks, _, h, _ => by simp at h
  | [], _ :: _, _, hl => by simp at hl
  | _ :: _, [], _, hl => by simp at hl
theorem w_disp {X : Cx} {pos : Pos} {ks : List (Option Expr)} {vs : List Expr} {σ : L2.St} {H : Hp} {Q : VK} (hall : ks.all (·.isSome) = true) (hl : ks.length = vs.length) (h0 : ks ≠ []) (h15 : ks.length ≤ 15)
    (h : ∀ p, H p = none → WD X ks vs σ (upd H p (.dK [])) fun ps H2 => H2 p = some (.dK []) ∧ ∃ kvs : List (Key × V), ps = kvs.map (fun kv => (kV kv.1, kv.2)) ∧ kvs.length ≤ 15 ∧ Q (.ref p) (upd H2 p (.dK (mergeK [] kvs)))) : WE X (.Dict ks vs pos) σ H Q := by
  obtain ⟨trs, p, q⟩ := wd_trs (X := X) (pos := pos) hall hl
  exact .of (pe_disp p hall hl h0 h15) fun a ha => q _ _ _ (h a ha)
/-! ### a number counted down, and put to a sum -/
def two (o f : Str) (x c : Int) : List (Key × V) := [(.inr o, .int x), (.inr f, .int c)]
theorem two_o {o f : Str} {x c : Int} : lookI (two o f x c) o = x := by
  unfold lookI two
  rw [valV_pos rfl]
theorem two_f {o f : Str} {x c : Int} (h : o ≠ f) : lookI (two o f x c) f = c := by
  unfold lookI two
  rw [valV_skp (fun e => h (Sum.inr.inj e)), valV_pos rfl]
theorem put_o {o f : Str} {x c y : Int} (h : o ≠ f) : putK (two o f x c) (.inr o) (.int y) = two o f y c := by
  have h1 : ¬ (Sum.inr f : Key) = .inr o := fun e => h (Sum.inr.inj e).symm
  unfold putK two
  rw [if_pos (List.any_eq_true.mpr ⟨(.inr o, .int x), by simp, by simp⟩)]
  simp only [List.map_cons, List.map_nil, if_neg h1, if_true]
theorem put_f {o f : Str} {x c y : Int} (h : o ≠ f) : putK (two o f x c) (.inr f) (.int y) = two o f x y := by
  have h1 : ¬ (Sum.inr o : Key) = .inr f := fun e => h (Sum.inr.inj e)
  unfold putK two
  rw [if_pos (List.any_eq_true.mpr ⟨(.inr f, .int c), by simp, by simp⟩)]
  simp only [List.map_cons, List.map_nil, if_neg h1, if_true]
theorem put_new {o f : Str} {x c : Int} (h : o ≠ f) : putK [((.inr o : Key), V.int x)] (.inr f) (.int c) = two o f x c := by
  have h1 : ¬ (Sum.inr o : Key) = .inr f := fun e => h (Sum.inr.inj e)
  unfold putK two
  rw [if_neg (by simp [h1])]
  rfl
/-- what is said: each time the number left is put to the sum -/
def sums (x c : Int) : Nat → List Int
  | 0 => []
  | k + 1 => (x + c) % 1000000 :: sums ((x + c) % 1000000) (c - 1) k
def sumEnd (x c : Int) : Nat → Int
  | 0 => x
  | k + 1 => sumEnd ((x + c) % 1000000) (c - 1) k
theorem sumEnd_succ : ∀ (k : Nat) (x c : Int), sumEnd x c (k + 1) = (sumEnd x c k + c - k) % 1000000
  | 0, x, c => by
    show (x + c) % 1000000 = (x + c - ((0 : Nat) : Int)) % 1000000
    congr 1
    omega
  | k + 1, x, c => by
    rw [sumEnd, sumEnd_succ k, sumEnd]
    congr 1
    omega
theorem sums_succ : ∀ (k : Nat) (x c : Int), sums x c (k + 1) = sums x c k ++ [sumEnd x c (k + 1)]
  | 0, x, c => rfl
  | k + 1, x, c => by
    rw [sums, sums_succ k, sums, sumEnd]
    rfl
theorem sums_len : ∀ (k : Nat) (x c : Int), (sums x c k).length = k
  | 0, _, _ => rfl
  | k + 1, x, c => by rw [sums, List.length_cons, sums_len k]
def tot (x : Int) : Nat → Int
  | 0 => x
  | k + 1 => tot ((x + ((k + 1 : Nat) : Int)) % 1000000) k
theorem tri (k : Nat) : ((k + 1 : Nat) : Int) * (((k + 1 : Nat) : Int) + 1) / 2 = ((k + 1 : Nat) : Int) + (k : Int) * ((k : Int) + 1) / 2 := by
  have e : ((k + 1 : Nat) : Int) * (((k + 1 : Nat) : Int) + 1) = (k : Int) * ((k : Int) + 1) + 2 * ((k + 1 : Nat) : Int) := by
    rw [Int.natCast_add, Int.natCast_one]
    rw [Int.add_mul, Int.mul_add, Int.mul_add, Int.mul_add]
    omega
  rw [e]
  generalize (k : Int) * ((k : Int) + 1) = z
  omega
theorem tot_eq : ∀ (k : Nat) (x : Int), 0 ≤ x → x < 1000000 → tot x k = (x + (k : Int) * ((k : Int) + 1) / 2) % 1000000
  | 0, x, h0, h1 => by
    show x = (x + 0 * (0 + 1) / 2) % 1000000
    rw [Int.zero_mul]
    omega
  | k + 1, x, h0, h1 => by
    rw [tot, tot_eq k _ (by omega) (by omega), tri]
    generalize (k : Int) * ((k : Int) + 1) / 2 = z
    omega
/-- the body of the loop; a: whether the sum is said -/
def bodyOf (a : Nat) (o f : Str) : List Row := [.lt o .add (.inr o) (.inr f)] ++ (List.replicate a (.say (.inr o)) ++ [.lt f .sub (.inr f) (.inl 1)])
section
variable {o f : Str} {x : Int} {k a l m : Nat} {said : List Int}
theorem st_add {c : Int} (h : o ≠ f) : letEv o .add (.inr o) (.inr f) ⟨two o f x c, said, l⟩ = (⟨two o f ((x + c) % 1000000) c, said, l⟩, .done) := by
  unfold letEv
  rw [if_neg (fun z => nomatch z.1)]
  show (Rs.mk (putK (two o f x c) (.inr o) (.int ((lookI (two o f x c) o + lookI (two o f x c) f) % 1000000))) said l, Oc.done) = _
  rw [two_o, two_f h, put_o h]
theorem st_sub (h : o ≠ f) (hk : k < 1000) : letEv f .sub (.inr f) (.inl 1) ⟨two o f x ((k + 1 : Nat) : Int), said, l⟩ = (⟨two o f x k, said, l⟩, .done) := by
  unfold letEv
  rw [if_neg (fun z => nomatch z.1)]
  show (Rs.mk (putK (two o f x ((k + 1 : Nat) : Int)) (.inr f) (.int ((lookI (two o f x ((k + 1 : Nat) : Int)) f - 1) % 1000000))) said l, Oc.done) = _
  rw [two_f h, put_f h]
  congr 2
  rw [show (((k + 1 : Nat) : Int) - 1) % 1000000 = (k : Int) by omega]
/-- one round -/
theorem round_ok (h : o ≠ f) (hk : k < 1000) (ha : a ≤ 1) :
    (2 + a ≤ l → evs (bodyOf a o f) ⟨two o f x ((k + 1 : Nat) : Int), said, l⟩ = (⟨two o f ((x + ((k + 1 : Nat) : Int)) % 1000000) k, said ++ sums x ((k + 1 : Nat) : Int) a, l - (2 + a)⟩, .done)) ∧
    (l < 2 + a → ∃ kvs, evs (bodyOf a o f) ⟨two o f x ((k + 1 : Nat) : Int), said, l⟩ = (⟨kvs, said ++ sums x ((k + 1 : Nat) : Int) (a * ((l + 2) / 4)), 0⟩, .long)) := by
  have hs0 : ∀ c : Int, said ++ sums x c 0 = said := fun c => List.append_nil _
  obtain rfl | rfl : a = 0 ∨ a = 1 := by omega
  · show (2 ≤ l → evs [.lt o .add (.inr o) (.inr f), .lt f .sub (.inr f) (.inl 1)] _ = _) ∧ (l < 2 → ∃ kvs, evs [.lt o .add (.inr o) (.inr f), .lt f .sub (.inr f) (.inl 1)] _ = _)
    refine ⟨fun hl => ?_, fun hl => ?_⟩
    · obtain ⟨l', rfl⟩ : ∃ l', l = l' + 2 := ⟨l - 2, by omega⟩
      rw [hs0]
      refine (evs_done ((ev_lt1 (l := l' + 1) rfl).trans (st_add h))).trans ?_
      exact (evs_done ((ev_lt1 (l := l') rfl).trans (st_sub h hk))).trans evs_nil
    · rw [Nat.zero_mul, hs0]
      obtain rfl | rfl : l = 0 ∨ l = 1 := by omega
      · exact ⟨_, evs_end (ev_lt0 rfl) (by decide)⟩
      · exact ⟨_, (evs_done ((ev_lt1 (l := 0) rfl).trans (st_add h))).trans (evs_end (ev_lt0 rfl) (by decide))⟩
  · show (3 ≤ l → evs [.lt o .add (.inr o) (.inr f), .say (.inr o), .lt f .sub (.inr f) (.inl 1)] _ = _) ∧ (l < 3 → ∃ kvs, evs [.lt o .add (.inr o) (.inr f), .say (.inr o), .lt f .sub (.inr f) (.inl 1)] _ = _)
    have es : ∀ l, Rs.val ⟨two o f ((x + ((k + 1 : Nat) : Int)) % 1000000) ((k + 1 : Nat) : Int), said, l⟩ (.inr o) = (x + ((k + 1 : Nat) : Int)) % 1000000 := fun l => two_o
    refine ⟨fun hl => ?_, fun hl => ?_⟩
    · obtain ⟨l', rfl⟩ : ∃ l', l = l' + 3 := ⟨l - 3, by omega⟩
      refine (evs_done ((ev_lt1 (l := l' + 2) rfl).trans (st_add h))).trans ?_
      refine (evs_done (ev_say1 (l := l' + 1) rfl)).trans ?_
      rw [es]
      exact (evs_done ((ev_lt1 (l := l') rfl).trans (st_sub h hk))).trans evs_nil
    · rw [Nat.one_mul]
      obtain rfl | rfl | rfl : l = 0 ∨ l = 1 ∨ l = 2 := by omega
      · exact ⟨_, (evs_end (ev_lt0 rfl) (by decide)).trans (by rw [hs0])⟩
      · exact ⟨_, (evs_done ((ev_lt1 (l := 0) rfl).trans (st_add h))).trans ((evs_end (ev_say0 rfl) (by decide)).trans (by rw [hs0]))⟩
      · refine ⟨two o f ((x + ((k + 1 : Nat) : Int)) % 1000000) ((k + 1 : Nat) : Int), (evs_done ((ev_lt1 (l := 1) rfl).trans (st_add h))).trans ((evs_done (ev_say1 (l := 0) rfl)).trans ((evs_end (ev_lt0 rfl) (by decide)).trans ?_))⟩
        rw [es]
        rfl
theorem sums_more {c : Int} {n : Nat} (h : a ≤ 1) : sums x c a ++ sums (if a = 1 then (x + c) % 1000000 else x) (if a = 1 then c - 1 else c) n = sums x c (a + n) := by
  obtain rfl | rfl : a = 0 ∨ a = 1 := by omega
  · rw [Nat.zero_add]
    rfl
  · rw [Nat.add_comm 1 n]
    rfl
/-- the loop -/
theorem loop_ok (h : o ≠ f) (ha : a ≤ 1) : ∀ (k : Nat), k < 1000 → ∀ (x : Int) (said : List Int) (l : Nat),
    ((3 + a) * k + 1 ≤ l → lp (evs (bodyOf a o f)) f ⟨two o f x k, said, l⟩ = (⟨two o f (tot x k) 0, said ++ sums x k (a * k), l - ((3 + a) * k + 1)⟩, .done)) ∧
    (l < (3 + a) * k + 1 → ∃ kvs, lp (evs (bodyOf a o f)) f ⟨two o f x k, said, l⟩ = (⟨kvs, said ++ sums x k (a * min k ((l + 1) / 4)), 0⟩, .long))
  | 0, _, x, said, l => by
    refine ⟨fun hl => ?_, fun hl => ?_⟩
    · obtain ⟨l', rfl⟩ : ∃ l', l = l' + 1 := ⟨l - 1, by omega⟩
      rw [lp_out (l := l') rfl (two_f h)]
      rw [Nat.mul_zero, Nat.mul_zero]
      show _ = (Rs.mk (two o f x 0) (said ++ []) _, Oc.done)
      rw [List.append_nil]
      rfl
    · obtain rfl : l = 0 := by omega
      refine ⟨two o f x ((0 : Nat) : Int), (lp_zero rfl).trans ?_⟩
      rw [Nat.zero_min, Nat.mul_zero]
      show _ = (Rs.mk _ (said ++ []) _, Oc.long)
      rw [List.append_nil]
  | k + 1, hk, x, said, l => by
    have n0 : ¬ lookI (two o f x ((k + 1 : Nat) : Int)) f = 0 := by
      rw [two_f h]
      omega
    obtain rfl | ⟨l', rfl⟩ : l = 0 ∨ ∃ l', l = l' + 1 := by
      rcases l with _ | l
      · exact .inl rfl
      · exact .inr ⟨l, rfl⟩
    · refine ⟨fun hl => by omega, fun _ => ⟨two o f x ((k + 1 : Nat) : Int), (lp_zero rfl).trans ?_⟩⟩
      rw [show (0 + 1) / 4 = 0 from rfl, Nat.min_zero, Nat.mul_zero]
      show _ = (Rs.mk _ (said ++ []) _, Oc.long)
      rw [List.append_nil]
    have R := round_ok (x := x) (said := said) (l := l') h (show k < 1000 by omega) ha
    have em : (3 + a) * (k + 1) = (3 + a) * k + 3 + a := by rw [Nat.mul_add, Nat.mul_one]; omega
    by_cases hc : 2 + a ≤ l'
    · have e1 := R.1 hc
      have I := loop_ok h ha k (by omega) ((x + ((k + 1 : Nat) : Int)) % 1000000) (said ++ sums x ((k + 1 : Nat) : Int) a) (l' - (2 + a))
      have e2 := lp_in (evs_left _) (t := f) (st := ⟨two o f x ((k + 1 : Nat) : Int), said, l' + 1⟩) rfl n0 e1
      have sm : ∀ n, said ++ sums x ((k + 1 : Nat) : Int) a ++ sums ((x + ((k + 1 : Nat) : Int)) % 1000000) k (a * n) = said ++ sums x ((k + 1 : Nat) : Int) (a * (n + 1)) := fun n => by
        obtain rfl | rfl : a = 0 ∨ a = 1 := by omega
        · rw [Nat.zero_mul, Nat.zero_mul, List.append_assoc]
          rfl
        · rw [Nat.one_mul, Nat.one_mul, List.append_assoc]
          show _ = said ++ ((x + ((k + 1 : Nat) : Int)) % 1000000 :: sums ((x + ((k + 1 : Nat) : Int)) % 1000000) (((k + 1 : Nat) : Int) - 1) n)
          rw [show ((k + 1 : Nat) : Int) - 1 = (k : Int) by omega]
          rfl
      refine ⟨fun hl => ?_, fun hl => ?_⟩
      · rw [e2, I.1 (by omega), sm, tot]
        congr 2
        omega
      · obtain ⟨kvs, e3⟩ := I.2 (by omega)
        refine ⟨kvs, ?_⟩
        rw [e2, e3, sm]
        obtain rfl | rfl : a = 0 ∨ a = 1 := by omega
        · rw [Nat.zero_mul, Nat.zero_mul]
        · congr 4
          omega
    · obtain ⟨kvs, e1⟩ := R.2 (by omega)
      have e2 := lp_end (t := f) (st := ⟨two o f x ((k + 1 : Nat) : Int), said, l' + 1⟩) rfl n0 e1 (by decide)
      refine ⟨fun hl => by omega, fun _ => ⟨kvs, ?_⟩⟩
      rw [e2]
      obtain rfl | rfl : a = 0 ∨ a = 1 := by omega
      · rw [Nat.zero_mul, Nat.zero_mul]
      · congr 4
        omega
/-- the again does its body first: as the loop does with one step more -/
theorem agn_lp (h : o ≠ f) (hk : k < 1000) (ha : a ≤ 1) : (Row.blk .agn f (bodyOf a o f)).ev ⟨two o f x ((k + 1 : Nat) : Int), said, l⟩ = lp (evs (bodyOf a o f)) f ⟨two o f x ((k + 1 : Nat) : Int), said, l + 1⟩ := by
  have n0 : ¬ lookI (two o f x ((k + 1 : Nat) : Int)) f = 0 := by
    rw [two_f h]
    omega
  cases e : evs (bodyOf a o f) ⟨two o f x ((k + 1 : Nat) : Int), said, l⟩ with
  | mk st1 oc =>
    by_cases ho : oc = .done
    · subst ho
      rw [ev_agn e, lp_in (evs_left _) (st := ⟨two o f x ((k + 1 : Nat) : Int), said, l + 1⟩) rfl n0 e]
    · rw [ev_agn' e ho, lp_end (st := ⟨two o f x ((k + 1 : Nat) : Int), said, l + 1⟩) rfl n0 e ho]
/-- the program -/
def progOf (a b : Nat) (k : Nat) (o f : Str) : List Row := [.lt f .add (.inl k) (.inl 0), .blk (if b = 1 then .agn else .lop) f (bodyOf a o f), .say (.inr o)]
theorem prog_ok {b : Nat} (h : o ≠ f) (hk : k < 1000) (ha : a ≤ 1) (hb : b ≤ 1) (hbk : b ≤ k) :
    (m < (3 + a) * k + 3 - b → ∃ kvs, evs (progOf a b k o f) ⟨[(.inr o, .int x)], [], m⟩ = (⟨kvs, sums x k (a * min k ((m + b) / 4)), 0⟩, .long)) ∧
    ((3 + a) * k + 3 - b ≤ m → evs (progOf a b k o f) ⟨[(.inr o, .int x)], [], m⟩ = (⟨two o f (tot x k) 0, sums x k (a * k) ++ [tot x k], m - ((3 + a) * k + 3 - b)⟩, .done)) := by
  obtain rfl | ⟨m', rfl⟩ : m = 0 ∨ ∃ m', m = m' + 1 := by
    rcases m with _ | m
    · exact .inl rfl
    · exact .inr ⟨m, rfl⟩
  · refine ⟨fun _ => ⟨[(.inr o, .int x)], (evs_end (ev_lt0 rfl) (by decide)).trans ?_⟩, fun hl => by omega⟩
    rw [show (0 + b) / 4 = 0 by omega, Nat.min_zero, Nat.mul_zero]
    rfl
  have e1 : (Row.lt f .add (.inl k) (.inl 0)).ev ⟨[(.inr o, .int x)], [], m' + 1⟩ = (⟨two o f x k, [], m'⟩, .done) := by
    refine (ev_lt1 (l := m') rfl).trans ?_
    unfold letEv
    rw [if_neg (fun z => nomatch z.1)]
    show (Rs.mk (putK [((.inr o : Key), V.int x)] (.inr f) (.int (((k : Int) + 0) % 1000000))) [] m', Oc.done) = _
    rw [put_new h, show ((k : Int) + 0) % 1000000 = (k : Int) by omega]
  have e2 : (Row.blk (if b = 1 then .agn else .lop) f (bodyOf a o f)).ev ⟨two o f x k, [], m'⟩ = lp (evs (bodyOf a o f)) f ⟨two o f x k, [], m' + b⟩ := by
    obtain rfl | rfl : b = 0 ∨ b = 1 := by omega
    · rw [if_neg (by decide)]
      exact ev_lop
    · obtain ⟨k', rfl⟩ : ∃ k', k = k' + 1 := ⟨k - 1, by omega⟩
      rw [if_pos rfl]
      exact agn_lp h (by omega) ha
  have I := loop_ok h ha k hk x [] (m' + b)
  unfold progOf
  by_cases hc : (3 + a) * k + 1 ≤ m' + b
  · have e3 := e2.trans (I.1 hc)
    rw [List.nil_append] at e3
    by_cases hd : m' + b = (3 + a) * k + 1
    · refine ⟨fun _ => ⟨two o f (tot x k) 0, (evs_done e1).trans ((evs_done e3).trans ((evs_end (ev_say0 (by show m' + b - _ = 0; omega)) (by decide)).trans ?_))⟩, fun hl => by omega⟩
      obtain rfl | rfl : a = 0 ∨ a = 1 := by omega
      · rw [Nat.zero_mul, Nat.zero_mul, show m' + b - ((3 + 0) * k + 1) = 0 by omega]
      · rw [show min k ((m' + 1 + b) / 4) = k by omega, show m' + b - ((3 + 1) * k + 1) = 0 by omega]
    · refine ⟨fun hl => by omega, fun hl => ?_⟩
      obtain ⟨r, er⟩ : ∃ r, m' + b - ((3 + a) * k + 1) = r + 1 := ⟨m' + b - ((3 + a) * k + 1) - 1, by omega⟩
      rw [er] at e3
      refine (evs_done e1).trans ((evs_done e3).trans ((evs_done (ev_say1 (l := r) rfl)).trans (evs_nil.trans ?_)))
      show (Rs.mk (two o f (tot x k) 0) (sums x k (a * k) ++ [lookI (two o f (tot x k) 0) o]) r, Oc.done) = _
      rw [two_o]
      congr 2
      omega
  · obtain ⟨kvs, e3⟩ := I.2 (by omega)
    rw [List.nil_append] at e3
    refine ⟨fun _ => ⟨kvs, (evs_done e1).trans ((evs_end (e2.trans e3) (by decide)).trans ?_)⟩, fun hl => by omega⟩
    rw [show m' + b + 1 = m' + 1 + b by omega]
end
section
variable {P : Program} {w : World} {K : PySem.W.Frag} {mg : Str → Option Value} {base : Heap}
def spSums : Sp := fun vs H Q _ => ∃ (x c : Int) (n : Nat), vs = [.int x, .int c, .int n] ∧ n ≤ 1000 ∧ ∀ (p : Addr) (H' : Hp), Same H H' → H p = none → H' p = some (.lst ((sums x c n).map V.int)) → Q (.ref p) H'
theorem ok_sums (T : Txt K mg) : CallOk P w K mg base 1 "_law_sums" ["_law_start", "_law_count", "_law_many"] spSums := by
  refine go_l_sums T.d_l_sums (fun vs H Q E h => ?_) ?_
  · obtain ⟨x, c, n, rfl, _⟩ := h
    rfl
  intro X e1 e2 e3 e4 e5 C sc hr vs H Q E h
  subst e1 e2 e3 e4 e5
  obtain ⟨x, c, n, rfl, hn, q⟩ := h
  have b1 := T.b_range
  show WSs X _ _ [some (.int x), some (.int c), some (.int n), none, none] H
  refine s_cons ?_
  wtm_at "lm"
  intro p H1 hp s1 h1
  wtm_at "lm"
  refine ⟨by omega, by omega, ?_⟩
  rw [Int.toNat_natCast]
  refine for_r (fun i σ' H' => ∃ o : Option V, σ' = [some (.int (sumEnd x c i)), some (.int c), some (.int n), some (.ref p), o] ∧ Same H H' ∧ H' p = some (.lst ((sums x c i).map V.int))) ⟨none, rfl, s1, h1⟩ ?_ ?_
  · rintro k σ' H' hk ⟨o, rfl, s, hp'⟩
    refine ⟨_, by wtm_at "lm.put", ?_⟩
    wtm_at "lm"
    refine x_app hp' (by rw [List.length_map, sums_len]; omega) ?_
    wtm_at "lm"
    refine ⟨some (.int k), ?_, Same.mut s hp, ?_⟩
    · rw [sumEnd_succ]
    · rw [upd_same, sums_succ, List.map_append, sumEnd_succ]
      rfl
  · rintro σ' H' ⟨o, rfl, s, hp'⟩
    wtm_at "lm"
    exact q p H' s hp hp'
end
/-! ### the law: long runs -/
theorem atI_ix {ns : List Str} {i : Int} (h0 : 0 ≤ i) (h : i < ns.length) : ∃ s, ns[i.toNat]? = some s ∧ s ∈ ns ∧ atI (ns.map V.str) i = some (.str s) := by
  obtain ⟨k, rfl⟩ : ∃ k : Nat, i = k := ⟨i.toNat, by omega⟩
  have hk : k < ns.length := by omega
  refine ⟨ns[k], by rw [Int.toNat_natCast, List.getElem?_eq_getElem hk], List.getElem_mem hk, atI_nat ?_⟩
  rw [List.getElem?_map, List.getElem?_eq_getElem hk]
  rfl
theorem nd_ne {α : Type} {l : List α} (h : l.Nodup) {i j : Nat} {x y : α} (hi : l[i]? = some x) (hj : l[j]? = some y) (n : i ≠ j) : x ≠ y := fun e => by
  obtain ⟨h1, e1⟩ := List.getElem?_eq_some_iff.mp hi
  obtain ⟨h2, e2⟩ := List.getElem?_eq_some_iff.mp hj
  rw [List.Nodup, List.pairwise_iff_getElem] at h
  rcases Nat.lt_or_gt_of_ne n with g | g
  · exact h i j h1 h2 g (e1.trans (e.trans e2.symm))
  · exact h j i h2 h1 g (e2.trans (e.symm.trans e1.symm))
theorem b_rep {X : Cx} {H : Hp} {Q : VK} {l : Addr} {k : Nat} {xs : List V} (h : H l = some (.lst xs)) (hk : k ≤ 1000) (hl : xs.length ≤ 1000) (q : ∀ p H2, H p = none → Same H H2 → H2 p = some (.lst (List.replicate k xs).flatten) → Q (.ref p) H2) : WB X .Mult (.ref l) (.int k) H Q :=
  ⟨_, op_rep, l, k, xs, rfl, rfl, h, by omega, by omega, by rw [Int.toNat_natCast]; exact sz (Nat.le_trans (Nat.mul_le_mul hl hk) (by decide)), fun p hp => q p _ hp (same_new hp) (by rw [upd_same, Int.toNat_natCast])⟩
section
variable {P : Program} {w : World} {K : PySem.W.Frag} {mg : Str → Option Value} {base : Heap}
def spLaw (K : PySem.W.Frag) : Sp := fun vs H Q _ => ∃ (a : Addr) (ns : List Int), vs = [.ref a] ∧ SqL K H a (ns.map V.int) ∧ ns.length ≤ 63 ∧ ∀ H', Q (.bl true) H'
theorem ok_law {f : Addr} {fd : FuncData} (F : Fun K "law" "law" s_law f fd) (T : Txt K mg) : FnOk P w K mg base CX0 150 f fd ["_law_script"] (spLaw K) := by
  have G1 : CallOk P w K mg base 1 "_law_cell_at" ["_law_script", "_law_k"] (spCellAt K) := ok_cell_at T
  have G3 : CallOk P w K mg base 1 "_law_names" ["_law_cell"] spNames := ok_names T
  have G9 : CallOk P w K mg base (2 + 2) "_law_alike" ["_law_found", "_law_due"] (spAlike K 2) := ok_alike T 2
  have G10 : CallOk P w K mg base 1 "_law_sums" ["_law_start", "_law_count", "_law_many"] spSums := ok_sums T
  have G11 : CallOk P w K mg base (2 * 1 + 6) "run" ["rows", "given", "most"] (spRun 1) := ok_run T 1
  have G12 : CallOk P w K mg base 2 "_law_same_values" ["_law_found", "_law_due"] spSameVals := ok_same_vals T
  refine go_law F (fun vs H Q E h => ?_) ?_
  · obtain ⟨a, ns, rfl, _⟩ := h
    rfl
  intro X e1 e2 e3 e4 e5 C sc hr vs H Q E h
  subst e1 e2 e3 e4 e5
  obtain ⟨s0, ns, rfl, hS, hl, q⟩ := h
  show WSs X _ _ [some (.ref s0), none, none, none, none, none, none, none, none, none, none, none, none, none, none] H
  have hu := hu_of hr
  have b1 := T.b_isinstance
  have b6 := T.b_min
  have b6' := T.b_max
  have b7 := T.b_tuple
  have b8 := T.b_len
  refine s_cons ?_
  wtm_at "lm"
  refine ⟨s0, ns, 0, rfl, hS, ?_⟩
  wtm_at "lm"
  refine ⟨_, rfl, fun A H1 nm s1 hA1 h1 nl nok nk => ?_⟩
  have hS1 := s1.seq hS
  wtm_at "lm"
  obtain ⟨c1, ec1⟩ : ∃ c, ns.getD 1 0 = c := ⟨_, rfl⟩
  obtain ⟨c2, ec2⟩ : ∃ c, ns.getD 2 0 = c := ⟨_, rfl⟩
  obtain ⟨c3, ec3⟩ : ∃ c, ns.getD 3 0 = c := ⟨_, rfl⟩
  obtain ⟨c4, ec4⟩ : ∃ c, ns.getD 4 0 = c := ⟨_, rfl⟩
  obtain ⟨c5, ec5⟩ : ∃ c, ns.getD 5 0 = c := ⟨_, rfl⟩
  obtain ⟨f, if1, mf, af⟩ := atI_ix (ns := nm) (i := c1 % 4) (by omega) (by omega)
  obtain ⟨o, io1, mo, ao⟩ := atI_ix (ns := nm) (i := 4 + c1 / 4 % 4) (by omega) (by omega)
  have hof : o ≠ f := nd_ne nk.nd io1 if1 (by omega)
  refine ⟨s0, ns, 1, rfl, hS1, ?_⟩
  rw [ec1]
  wtm_at "lm"
  refine i_lst (SqL.of h1) af ?_
  wtm_at "lm"
  refine ⟨s0, ns, 1, rfl, hS1, ?_⟩
  rw [ec1]
  wtm_at "lm"
  refine i_lst (SqL.of h1) ao ?_
  wtm_at "lm"
  refine ⟨s0, ns, 3, rfl, hS1, ?_⟩
  rw [ec3]
  wtm_at "lm"
  refine ⟨s0, ns, 4, rfl, hS1, ?_⟩
  rw [ec4]
  wtm_at "lm"
  obtain ⟨b, eb, hb⟩ : ∃ b : Nat, c4 % 2 = (b : Int) ∧ b ≤ 1 := ⟨(c4 % 2).toNat, by omega, by omega⟩
  obtain ⟨a, ea, ha⟩ : ∃ a : Nat, c4 / 2 % 2 = (a : Int) ∧ a ≤ 1 := ⟨(c4 / 2 % 2).toNat, by omega, by omega⟩
  rw [eb]
  refine ⟨s0, ns, 4, rfl, hS1, ?_⟩
  rw [ec4]
  wtm_at "lm"
  rw [ea]
  refine ⟨s0, ns, 2, rfl, hS1, ?_⟩
  rw [ec2]
  wtm_at "lm"
  obtain ⟨k, ek, hk, hbk⟩ : ∃ k : Nat, (if c2 % 250 > (b : Int) then c2 % 250 else (b : Int)) = (k : Int) ∧ k < 250 ∧ b ≤ k := by
    by_cases c : c2 % 250 > (b : Int)
    · rw [if_pos c]
      exact ⟨(c2 % 250).toNat, by omega, by omega, by omega⟩
    · rw [if_neg c]
      exact ⟨b, rfl, by omega, Nat.le_refl _⟩
  rw [ek]
  refine b_mul (.inl ⟨by omega, by omega⟩) ?_
  obtain ⟨z, ez⟩ : ∃ z : Nat, z = (3 + a) * k + 3 - b := ⟨_, rfl⟩
  have zz : (3 + (a : Int)) * (k : Int) + 3 - (b : Int) = (z : Int) := by
    rw [ez]
    have : ((3 + a) * k : Nat) + 3 - b + b = (3 + a) * k + 3 := by omega
    rw [show (3 + (a : Int)) * (k : Int) = (((3 + a) * k : Nat) : Int) by rw [Int.natCast_mul, Int.natCast_add]; rfl]
    omega
  have zb : z ≤ 1000 ∧ 0 < z := by
    obtain rfl | rfl : a = 0 ∨ a = 1 := by omega
    · omega
    · omega
  wtm_at "lm"
  rw [zz]
  intro t1 H2 ht1 s2 h2
  wtm_at "lm"
  intro l1 H3 hl1 s3 h3
  wtm_at "lm"
  intro t2 H4 ht2 s4 h4
  wtm_at "lm"
  intro l2 H5 hl2 s5 h5
  wtm_at "lm"
  refine b_rep h5 (by omega) (by show 1 ≤ 1000; decide) fun l3 H6 hl3 s6 h6 => ?_
  have rl : (List.replicate a [V.ref t2]).flatten = List.replicate a (V.ref t2) := by
    obtain rfl | rfl : a = 0 ∨ a = 1 := by omega
    · rfl
    · rfl
  rw [rl] at h6
  refine b_cat (((s4.trans s5).trans s6) _ _ h3) h6 (sz (by rw [List.length_replicate]; show 1 + a ≤ _; omega)) fun l4 H7 hl4 s7 h7 => ?_
  wtm_at "lm"
  intro t3 H8 ht3 s8 h8
  wtm_at "lm"
  intro l5 H9 hl5 s9 h9
  refine b_cat ((s8.trans s9) _ _ h7) h9 (sz (by rw [List.length_append, List.length_replicate]; show 1 + a + 1 ≤ _; omega)) fun B H10 hB10 s10 h10 => ?_
  have q1 : H10 t1 = _ := ((((((((s3.trans s4).trans s5).trans s6).trans s7).trans s8).trans s9).trans s10)) _ _ h2
  have q2 : H10 t2 = _ := ((((((s5.trans s6).trans s7).trans s8).trans s9).trans s10)) _ _ h4
  have q3 : H10 t3 = _ := (s9.trans s10) _ _ h8
  have rB : RowsIn H10 B (bodyOf a o f) [B] := by
    refine .mk h10 ?_
    unfold bodyOf
    obtain rfl | rfl : a = 0 ∨ a = 1 := by omega
    · exact .cons (.lt (sg := .add) (x := .inr o) (y := .inr f) q1) (.cons (.lt (sg := .sub) (x := .inr f) (y := .inl 1) q3) .nil)
    · exact .cons (.lt (sg := .add) (x := .inr o) (y := .inr f) q1) (.cons (.say (x := .inr o) q2) (.cons (.lt (sg := .sub) (x := .inr f) (y := .inl 1) q3) .nil))
  have hS10 := (((((((((s2.trans s3).trans s4).trans s5).trans s6).trans s7).trans s8).trans s9).trans s10)).seq hS1
  wtm_at "lm"
  intro t4 H11 ht4 s11 h11
  wtm_at "lm"
  intro l6 H12 hl6 s12 h12
  wtm_at "lm"
  obtain ⟨kd, ekd, ekd2⟩ : ∃ kd : Kd, atI [V.str "loop", .str "again"] (b : Int) = some (.str kd.nm) ∧ kd = (if b = 1 then .agn else .lop) := by
    obtain rfl | rfl : b = 0 ∨ b = 1 := by omega
    · exact ⟨.lop, rfl, rfl⟩
    · exact ⟨.agn, rfl, rfl⟩
  refine i_lst (SqL.of h12) ekd ?_
  wtm_at "lm"
  intro t5 H13 ht5 s13 h13
  wtm_at "lm"
  intro t6 H14 ht6 s14 h14
  wtm_at "lm"
  intro R H15 hR s15 h15
  have hS15 := ((((s11.trans s12).trans s13).trans s14).trans s15).seq hS10
  have rR : RowsIn H15 R (progOf a b k o f) (R :: ([] ++ ([B] ++ ([] ++ [])))) := by
    refine .mk h15 ?_
    unfold progOf
    rw [← ekd2]
    exact .cons (.lt (sg := .add) (x := .inl k) (y := .inl 0) ((((s12.trans s13).trans s14).trans s15) _ _ h11)) (.cons (.blk ((s14.trans s15) _ _ h13) (rB.mono ((((s11.trans s12).trans s13).trans s14).trans s15))) (.cons (.say (x := .inr o) (s15 _ _ h14)) .nil))
  wtm_at "lm"
  refine ⟨s0, ns, 5, rfl, hS15, ?_⟩
  rw [ec5]
  wtm_at "lm"
  refine b_mod (by omega) ?_
  wtm_at "lm"
  intro l7 H16 hl7 s16 h16
  wtm_at "lm"
  refine ⟨s0, ns, 4, rfl, s16.seq hS15, ?_⟩
  rw [ec4]
  wtm_at "lm"
  obtain ⟨m, em, hm⟩ : ∃ m : Nat, atI [V.int z, .int (z - 1), .int (z + 1), .int 1000, .int (c5 % z)] (c4 / 4 % 5) = some (.int (m : Int)) ∧ m ≤ 1001 := by
    have : c4 / 4 % 5 = 0 ∨ c4 / 4 % 5 = 1 ∨ c4 / 4 % 5 = 2 ∨ c4 / 4 % 5 = 3 ∨ c4 / 4 % 5 = 4 := by omega
    rcases this with e | e | e | e | e <;> rw [e]
    · exact ⟨z, rfl, by omega⟩
    · refine ⟨z - 1, ?_, by omega⟩
      show some (V.int _) = some (V.int _)
      congr 2
      omega
    · exact ⟨z + 1, rfl, by omega⟩
    · exact ⟨1000, rfl, by omega⟩
    · have g1 : 0 ≤ c5 % (z : Int) := Int.emod_nonneg _ (by omega)
      have g2 : c5 % (z : Int) < z := Int.emod_lt_of_pos _ (by omega)
      refine ⟨(c5 % (z : Int)).toNat, ?_, by omega⟩
      show some (V.int _) = some (V.int _)
      congr 2
      omega
  refine i_lst (SqL.of h16) em ?_
  have rR16 := rR.mono s16
  obtain ⟨x, ex, hx⟩ : ∃ x, c3 % 1000000 = x ∧ 0 ≤ x ∧ x < 1000000 := ⟨_, rfl, by omega, by omega⟩
  rw [ex]
  wtm_at "lm"
  refine w_disp (by rfl) (by rfl) (by simp) (by show 1 ≤ 15; decide) fun g hg => ?_
  have sg0 : Same H16 (upd H16 g (.dK [])) := same_new hg
  refine wd_cons ?_
  wtm_at "lm"
  refine wd_nil ?_
  refine ⟨upd_same, [(.inr o, .int x)], rfl, by show 1 ≤ 15; decide, ?_⟩
  rw [show mergeK [] [((.inr o : Key), V.int x)] = [(.inr o, .int x)] from rfl]
  have sg : Same H16 (upd (upd H16 g (.dK [])) g (.dK [(.inr o, .int x)])) := Same.mut sg0 hg
  have N : NumsIn nm [((.inr o : Key), V.int x)] := ⟨by simp, fun kv hkv => by rw [List.mem_singleton.mp hkv]; exact ⟨o, x, rfl, mo, hx.1, by omega⟩⟩
  have rRg := rR16.mono sg
  have hgg : (upd (upd H16 g (.dK [])) g (.dK [((.inr o : Key), V.int x)])) g = some (.dK [(.inr o, .int x)]) := upd_same
  have okB : RowsOk nm (bodyOf a o f) := by
    unfold bodyOf
    obtain rfl | rfl : a = 0 ∨ a = 1 := by omega
    · show RowsOk nm [.lt o .add (.inr o) (.inr f), .lt f .sub (.inr f) (.inl 1)]
      rw [RowsOk, RowsOk, RowsOk, RowOk, RowOk]
      exact ⟨⟨mo, mo, mf⟩, ⟨mf, mf, by decide, by decide⟩, trivial⟩
    · show RowsOk nm [.lt o .add (.inr o) (.inr f), .say (.inr o), .lt f .sub (.inr f) (.inl 1)]
      rw [RowsOk, RowsOk, RowsOk, RowsOk, RowOk, RowOk, RowOk]
      exact ⟨⟨mo, mo, mf⟩, mo, ⟨mf, mf, by decide, by decide⟩, trivial⟩
  have okR : RowsOk nm (progOf a b k o f) := by
    unfold progOf
    rw [RowsOk, RowsOk, RowsOk, RowsOk, RowOk, RowOk, RowOk]
    exact ⟨⟨mf, ⟨by omega, by omega⟩, by decide, by decide⟩, ⟨mf, okB⟩, mo, trivial⟩
  have dB : deps (bodyOf a o f) = 0 := by
    unfold bodyOf
    obtain rfl | rfl : a = 0 ∨ a = 1 := by omega
    · rfl
    · rfl
  have dR : deps (progOf a b k o f) ≤ 1 := by
    unfold progOf
    rw [deps, deps, deps, deps, Row.dep, Row.dep, Row.dep, dB]
    decide
  wtm_at "lm"
  refine ⟨R, g, m, nm, progOf a b k o f, _, [(.inr o, .int x)], rfl, rRg, dR, okR, by omega, hgg, N, by omega, fun p v s Hl sl hs0 hv0 hv hs hp => ?_⟩
  obtain ⟨P1, P2⟩ := prog_ok (x := x) (m := m) (b := b) hof (show k < 1000 by omega) ha hb hbk
  rw [← ez] at P1 P2
  wtm_at "lms"
  refine s_cons ?_
  wtm_at "lms"
  refine s_cons ?_
  wtm_at "lm"
  refine ite_dec (fun c => ?_) (fun c => ?_)
  · obtain ⟨kvs', eR⟩ := P1 (by omega)
    rw [eR] at hp hs
    replace hp : Hl p = some (.tup [.ref s, .str "too long", .non, .int ((m : Int) - 0)]) := hp
    replace hs : Hl s = some (.lst ((sums x k (a * min k ((m + b) / 4))).map V.int)) := hs
    wtm_at "lm"
    have mn : (if ((m : Int) + b) / 4 < (k : Int) then ((m : Int) + b) / 4 else (k : Int)) = ((min k ((m + b) / 4) : Nat) : Int) := by
      split <;> omega
    rw [mn]
    have mk : min k ((m + b) / 4) ≤ 250 := by omega
    generalize min k ((m + b) / 4) = j at hs mk ⊢
    refine b_mul (.inl ⟨by omega, by omega⟩) ?_
    rw [← Int.natCast_mul]
    have jl : a * j ≤ 250 := by
      obtain rfl | rfl : a = 0 ∨ a = 1 := by omega
      · omega
      · omega
    wtm_at "lm"
    refine ⟨x, k, a * j, rfl, by omega, fun sd Hm sm hsd hm2 => ?_⟩
    wtm_at "lm"
    intro u1 Hn hu1 sn hn
    wtm_at "lm"
    intro u2 Ho hu2 so ho
    wtm_at "lm"
    refine ⟨.ref u1, .ref u2, taleD (sums x k (a * j)) "too long" m, rfl, tale_dp (SqL.of (so _ _ (by rw [hn, Int.sub_zero]))) (SqL.of ((((sm.trans sn).trans so)) _ _ hs)), tale_dp (SqL.of ho) (SqL.of ((sn.trans so) _ _ hm2)), tale_plain (by rw [sums_len]; omega), fun Hp' sp' => ?_⟩
    have hpp := (((sm.trans sn).trans so).trans sp') _ _ hp
    wtm_at "lm"
    refine c_isN ?_
    wtm_at "lm"
    exact q _
  · have eR := P2 (by omega)
    rw [eR] at hp hs hv
    replace hp : Hl p = some (.tup [.ref s, .str "done", .ref v, .int ((m : Int) - ((m - z : Nat) : Int))]) := hp
    replace hs : Hl s = some (.lst ((sums x k (a * k) ++ [tot x k]).map V.int)) := hs
    replace hv : Hl v = some (.dK (two o f (tot x k) 0)) := hv
    rw [show (m : Int) - ((m - z : Nat) : Int) = (z : Int) by omega] at hp
    wtm_at "lm"
    refine b_mul (.inl ⟨by omega, by omega⟩) ?_
    wtm_at "lm"
    rw [← tot_eq k x hx.1 hx.2]
    refine b_mul (.inl ⟨by omega, by omega⟩) ?_
    rw [← Int.natCast_mul]
    have jl : a * k ≤ 250 := by
      obtain rfl | rfl : a = 0 ∨ a = 1 := by omega
      · omega
      · omega
    wtm_at "lm"
    refine ⟨x, k, a * k, rfl, by omega, fun sd Hm sm hsd hm2 => ?_⟩
    wtm_at "lm"
    intro u0 Hm2 hu0 sm2 hu02
    refine b_cat (sm2 _ _ hm2) hu02 (sz (by rw [List.length_map, sums_len]; show a * k + 1 ≤ _; omega)) fun sd2 Hm3 hsd2 sm3 hm3 => ?_
    wtm_at "lm"
    intro u1 Hn hu1 sn hn
    wtm_at "lm"
    intro u2 Ho hu2 so ho
    wtm_at "lm"
    have hm3' : Hm3 sd2 = some (.lst ((sums x k (a * k) ++ [tot x k]).map V.int)) := by rw [hm3, List.map_append]; rfl
    have sAll := (((sm.trans sm2).trans sm3).trans sn).trans so
    refine ⟨.ref u1, .ref u2, taleD (sums x k (a * k) ++ [tot x k]) "done" z, rfl, tale_dp (SqL.of (so _ _ hn)) (SqL.of (sAll _ _ hs)), tale_dp (SqL.of ho) (SqL.of ((sn.trans so) _ _ hm3')), tale_plain (by rw [List.length_append, sums_len]; show a * k + 1 ≤ _; omega), fun Hp' sp' => ?_⟩
    have hpp := (sAll.trans sp') _ _ hp
    have hvp := (sAll.trans sp') _ _ hv
    wtm_at "lm"
    refine w_disp (by rfl) (by rfl) (by simp) (by show 2 ≤ 15; decide) fun g3 hg3 => ?_
    have sg3 : Same Hp' (upd Hp' g3 (.dK [])) := same_new hg3
    refine wd_cons ?_
    wtm_at "lm"
    refine wd_cons ?_
    wtm_at "lm"
    refine wd_nil ?_
    refine ⟨upd_same, two o f (tot x k) 0, rfl, by show 2 ≤ 15; decide, ?_⟩
    have em : mergeK [] (two o f (tot x k) 0) = two o f (tot x k) 0 := put_new hof
    rw [em]
    have sg4 : Same Hp' (upd (upd Hp' g3 (.dK [])) g3 (.dK (two o f (tot x k) 0))) := Same.mut sg3 hg3
    have rt : 0 ≤ tot x k ∧ tot x k ≤ 999999 := by
      rw [tot_eq k x hx.1 hx.2]
      omega
    have N2 : NumsIn nm (two o f (tot x k) 0) := by
      have := (N.put (s := o) (i := tot x k) mo rt.1 rt.2).put (s := f) (i := 0) mf (by decide) (by decide)
      rw [show putK [((.inr o : Key), V.int x)] (.inr o) (.int (tot x k)) = [(.inr o, .int (tot x k))] by unfold putK; simp, put_new hof] at this
      exact this
    have vg : v ≠ g3 := fun e => by
      rw [e, hg3] at hvp
      cases hvp
    wtm_at "lm"
    refine ⟨v, g3, nm, _, rfl, vg, sg4 _ _ hvp, upd_same, N2, fun Hq _ => ?_⟩
    exact q _
end
theorem all_mk {l : PySem.W.OpenLaw} {w : World} {K : PySem.W.Frag} {h : Heap} {mg : Str → Option Value} {fa : Addr} (X : K.In h) (G : h.Ns mainGlobals mg) (hfa : mg "law" = some (.ref fa))
    {f0 : Addr} {od0 an0 : Option Addr} {sl0 : Array (Option Value)} {oc0 kV0 dc0 pm0 cd0 ct0 : Value}
    (a0 : PySem.W.nsIn K mainGlobals "reckoned" = some (some (.ref f0))) (l0 : K.lookup f0 = some ⟨oc0, od0, .func (PySem.W.fnOf "reckoned" "reckoned" (defArgs s_p_reckoned) (defBody s_p_reckoned) (defScope s_p_reckoned) .none kV0 dc0 pm0 an0 cd0 ct0), sl0⟩) (c0 : PySem.W.codeIn K cd0 "reckoned" = true) (k0 : PySem.W.keepIn K (.ref f0) = true)
    {f1 : Addr} {od1 an1 : Option Addr} {sl1 : Array (Option Value)} {oc1 kV1 dc1 pm1 cd1 ct1 : Value}
    (a1 : PySem.W.nsIn K mainGlobals "run" = some (some (.ref f1))) (l1 : K.lookup f1 = some ⟨oc1, od1, .func (PySem.W.fnOf "run" "run" (defArgs s_p_run) (defBody s_p_run) (defScope s_p_run) .none kV1 dc1 pm1 an1 cd1 ct1), sl1⟩) (c1 : PySem.W.codeIn K cd1 "run" = true) (k1 : PySem.W.keepIn K (.ref f1) = true)
    {f2 : Addr} {od2 an2 : Option Addr} {sl2 : Array (Option Value)} {oc2 kV2 dc2 pm2 cd2 ct2 : Value}
    (a2 : PySem.W.nsIn K mainGlobals "_law_cell_at" = some (some (.ref f2))) (l2 : K.lookup f2 = some ⟨oc2, od2, .func (PySem.W.fnOf "_law_cell_at" "_law_cell_at" (defArgs s_l_cell_at) (defBody s_l_cell_at) (defScope s_l_cell_at) .none kV2 dc2 pm2 an2 cd2 ct2), sl2⟩) (c2 : PySem.W.codeIn K cd2 "_law_cell_at" = true) (k2 : PySem.W.keepIn K (.ref f2) = true)
    {f3 : Addr} {od3 an3 : Option Addr} {sl3 : Array (Option Value)} {oc3 kV3 dc3 pm3 cd3 ct3 : Value}
    (a3 : PySem.W.nsIn K mainGlobals "_law_names" = some (some (.ref f3))) (l3 : K.lookup f3 = some ⟨oc3, od3, .func (PySem.W.fnOf "_law_names" "_law_names" (defArgs s_l_names) (defBody s_l_names) (defScope s_l_names) .none kV3 dc3 pm3 an3 cd3 ct3), sl3⟩) (c3 : PySem.W.codeIn K cd3 "_law_names" = true) (k3 : PySem.W.keepIn K (.ref f3) = true)
    {f4 : Addr} {od4 an4 : Option Addr} {sl4 : Array (Option Value)} {oc4 kV4 dc4 pm4 cd4 ct4 : Value}
    (a4 : PySem.W.nsIn K mainGlobals "_law_whole" = some (some (.ref f4))) (l4 : K.lookup f4 = some ⟨oc4, od4, .func (PySem.W.fnOf "_law_whole" "_law_whole" (defArgs s_l_whole) (defBody s_l_whole) (defScope s_l_whole) .none kV4 dc4 pm4 an4 cd4 ct4), sl4⟩) (c4 : PySem.W.codeIn K cd4 "_law_whole" = true) (k4 : PySem.W.keepIn K (.ref f4) = true)
    {f5 : Addr} {od5 an5 : Option Addr} {sl5 : Array (Option Value)} {oc5 kV5 dc5 pm5 cd5 ct5 : Value}
    (a5 : PySem.W.nsIn K mainGlobals "_law_alike" = some (some (.ref f5))) (l5 : K.lookup f5 = some ⟨oc5, od5, .func (PySem.W.fnOf "_law_alike" "_law_alike" (defArgs s_l_alike) (defBody s_l_alike) (defScope s_l_alike) .none kV5 dc5 pm5 an5 cd5 ct5), sl5⟩) (c5 : PySem.W.codeIn K cd5 "_law_alike" = true) (k5 : PySem.W.keepIn K (.ref f5) = true)
    {f6 : Addr} {od6 an6 : Option Addr} {sl6 : Array (Option Value)} {oc6 kV6 dc6 pm6 cd6 ct6 : Value}
    (a6 : PySem.W.nsIn K mainGlobals "_law_same_values" = some (some (.ref f6))) (l6 : K.lookup f6 = some ⟨oc6, od6, .func (PySem.W.fnOf "_law_same_values" "_law_same_values" (defArgs s_l_same_values) (defBody s_l_same_values) (defScope s_l_same_values) .none kV6 dc6 pm6 an6 cd6 ct6), sl6⟩) (c6 : PySem.W.codeIn K cd6 "_law_same_values" = true) (k6 : PySem.W.keepIn K (.ref f6) = true)
    {f7 : Addr} {od7 an7 : Option Addr} {sl7 : Array (Option Value)} {oc7 kV7 dc7 pm7 cd7 ct7 : Value}
    (a7 : PySem.W.nsIn K mainGlobals "_law_sums" = some (some (.ref f7))) (l7 : K.lookup f7 = some ⟨oc7, od7, .func (PySem.W.fnOf "_law_sums" "_law_sums" (defArgs s_l_sums) (defBody s_l_sums) (defScope s_l_sums) .none kV7 dc7 pm7 an7 cd7 ct7), sl7⟩) (c7 : PySem.W.codeIn K cd7 "_law_sums" = true) (k7 : PySem.W.keepIn K (.ref f7) = true)
    {f8 : Addr} {od8 an8 : Option Addr} {sl8 : Array (Option Value)} {oc8 kV8 dc8 pm8 cd8 ct8 : Value}
    (a8 : PySem.W.nsIn K mainGlobals "law" = some (some (.ref f8))) (l8 : K.lookup f8 = some ⟨oc8, od8, .func (PySem.W.fnOf "law" "law" (defArgs s_law) (defBody s_law) (defScope s_law) .none kV8 dc8 pm8 an8 cd8 ct8), sl8⟩) (c8 : PySem.W.codeIn K cd8 "law" = true) (k8 : PySem.W.keepIn K (.ref f8) = true)
    (z_all : PySem.W.nsIn K mainGlobals "all" = some none)
    (z_bool : PySem.W.nsIn K mainGlobals "bool" = some none)
    (z_dict : PySem.W.nsIn K mainGlobals "dict" = some none)
    (z_int : PySem.W.nsIn K mainGlobals "int" = some none)
    (z_isinstance : PySem.W.nsIn K mainGlobals "isinstance" = some none)
    (z_len : PySem.W.nsIn K mainGlobals "len" = some none)
    (z_list : PySem.W.nsIn K mainGlobals "list" = some none)
    (z_max : PySem.W.nsIn K mainGlobals "max" = some none)
    (z_min : PySem.W.nsIn K mainGlobals "min" = some none)
    (z_range : PySem.W.nsIn K mainGlobals "range" = some none)
    (z_str : PySem.W.nsIn K mainGlobals "str" = some none)
    (z_tuple : PySem.W.nsIn K mainGlobals "tuple" = some none)
    {t_GREATEST : Tok} (m_GREATEST : PySem.W.nsIn K mainGlobals "GREATEST" = some (some (.int 999999 t_GREATEST)))
    {C_Runner : Addr} (aC_Runner : PySem.W.nsIn K mainGlobals "Runner" = some (some (.ref C_Runner)))
    (pg_Runner : PySem.W.plainGet K C_Runner Str.empty = true) (hd_Runner : PySem.W.hasDictIn K C_Runner = true) (po_Runner : PySem.W.plainOver K C_Runner = true) (sa_Runner : PySem.W.findIn K (.ref C_Runner) "__setattr__" = some (some (.builtin "object.__setattr__"))) (mk_Runner : PySem.W.makesIn K C_Runner = true) (kc_Runner : PySem.W.keepIn K (.ref C_Runner) = true)
    {f_Runner___init__ : Addr} {od_Runner___init__ an_Runner___init__ : Option Addr} {sl_Runner___init__ : Array (Option Value)} {oc_Runner___init__ kV_Runner___init__ dc_Runner___init__ pm_Runner___init__ cd_Runner___init__ ct_Runner___init__ : Value}
    (ma_Runner___init__ : PySem.W.findIn K (.ref C_Runner) "__init__" = some (some (.ref f_Runner___init__))) (mi_Runner___init__ : PySem.W.isFn K (.ref f_Runner___init__) = true) (ml_Runner___init__ : K.lookup f_Runner___init__ = some ⟨oc_Runner___init__, od_Runner___init__, .func (PySem.W.fnOf "__init__" "Runner.__init__" (defArgs s_Runner___init__) (defBody s_Runner___init__) (defScope s_Runner___init__) .none kV_Runner___init__ dc_Runner___init__ pm_Runner___init__ an_Runner___init__ cd_Runner___init__ ct_Runner___init__), sl_Runner___init__⟩) (mc_Runner___init__ : PySem.W.codeIn K cd_Runner___init__ "Runner.__init__" = true) (mk_Runner___init__ : PySem.W.keepIn K (.ref f_Runner___init__) = true)
    {f_Runner_stepped : Addr} {od_Runner_stepped an_Runner_stepped : Option Addr} {sl_Runner_stepped : Array (Option Value)} {oc_Runner_stepped kV_Runner_stepped dc_Runner_stepped pm_Runner_stepped cd_Runner_stepped ct_Runner_stepped : Value}
    (ma_Runner_stepped : PySem.W.findIn K (.ref C_Runner) "stepped" = some (some (.ref f_Runner_stepped))) (mi_Runner_stepped : PySem.W.isFn K (.ref f_Runner_stepped) = true) (ml_Runner_stepped : K.lookup f_Runner_stepped = some ⟨oc_Runner_stepped, od_Runner_stepped, .func (PySem.W.fnOf "stepped" "Runner.stepped" (defArgs s_Runner_stepped) (defBody s_Runner_stepped) (defScope s_Runner_stepped) .none kV_Runner_stepped dc_Runner_stepped pm_Runner_stepped an_Runner_stepped cd_Runner_stepped ct_Runner_stepped), sl_Runner_stepped⟩) (mc_Runner_stepped : PySem.W.codeIn K cd_Runner_stepped "Runner.stepped" = true) (mk_Runner_stepped : PySem.W.keepIn K (.ref f_Runner_stepped) = true)
    {f_Runner_value : Addr} {od_Runner_value an_Runner_value : Option Addr} {sl_Runner_value : Array (Option Value)} {oc_Runner_value kV_Runner_value dc_Runner_value pm_Runner_value cd_Runner_value ct_Runner_value : Value}
    (ma_Runner_value : PySem.W.findIn K (.ref C_Runner) "value" = some (some (.ref f_Runner_value))) (mi_Runner_value : PySem.W.isFn K (.ref f_Runner_value) = true) (ml_Runner_value : K.lookup f_Runner_value = some ⟨oc_Runner_value, od_Runner_value, .func (PySem.W.fnOf "value" "Runner.value" (defArgs s_Runner_value) (defBody s_Runner_value) (defScope s_Runner_value) .none kV_Runner_value dc_Runner_value pm_Runner_value an_Runner_value cd_Runner_value ct_Runner_value), sl_Runner_value⟩) (mc_Runner_value : PySem.W.codeIn K cd_Runner_value "Runner.value" = true) (mk_Runner_value : PySem.W.keepIn K (.ref f_Runner_value) = true)
    {f_Runner_asked : Addr} {od_Runner_asked an_Runner_asked : Option Addr} {sl_Runner_asked : Array (Option Value)} {oc_Runner_asked kV_Runner_asked dc_Runner_asked pm_Runner_asked cd_Runner_asked ct_Runner_asked : Value}
    (ma_Runner_asked : PySem.W.findIn K (.ref C_Runner) "asked" = some (some (.ref f_Runner_asked))) (mi_Runner_asked : PySem.W.isFn K (.ref f_Runner_asked) = true) (ml_Runner_asked : K.lookup f_Runner_asked = some ⟨oc_Runner_asked, od_Runner_asked, .func (PySem.W.fnOf "asked" "Runner.asked" (defArgs s_Runner_asked) (defBody s_Runner_asked) (defScope s_Runner_asked) .none kV_Runner_asked dc_Runner_asked pm_Runner_asked an_Runner_asked cd_Runner_asked ct_Runner_asked), sl_Runner_asked⟩) (mc_Runner_asked : PySem.W.codeIn K cd_Runner_asked "Runner.asked" = true) (mk_Runner_asked : PySem.W.keepIn K (.ref f_Runner_asked) = true)
    {f_Runner_all_done : Addr} {od_Runner_all_done an_Runner_all_done : Option Addr} {sl_Runner_all_done : Array (Option Value)} {oc_Runner_all_done kV_Runner_all_done dc_Runner_all_done pm_Runner_all_done cd_Runner_all_done ct_Runner_all_done : Value}
    (ma_Runner_all_done : PySem.W.findIn K (.ref C_Runner) "all_done" = some (some (.ref f_Runner_all_done))) (mi_Runner_all_done : PySem.W.isFn K (.ref f_Runner_all_done) = true) (ml_Runner_all_done : K.lookup f_Runner_all_done = some ⟨oc_Runner_all_done, od_Runner_all_done, .func (PySem.W.fnOf "all_done" "Runner.all_done" (defArgs s_Runner_all_done) (defBody s_Runner_all_done) (defScope s_Runner_all_done) .none kV_Runner_all_done dc_Runner_all_done pm_Runner_all_done an_Runner_all_done cd_Runner_all_done ct_Runner_all_done), sl_Runner_all_done⟩) (mc_Runner_all_done : PySem.W.codeIn K cd_Runner_all_done "Runner.all_done" = true) (mk_Runner_all_done : PySem.W.keepIn K (.ref f_Runner_all_done) = true)
    {f_Runner_row_done : Addr} {od_Runner_row_done an_Runner_row_done : Option Addr} {sl_Runner_row_done : Array (Option Value)} {oc_Runner_row_done kV_Runner_row_done dc_Runner_row_done pm_Runner_row_done cd_Runner_row_done ct_Runner_row_done : Value}
    (ma_Runner_row_done : PySem.W.findIn K (.ref C_Runner) "row_done" = some (some (.ref f_Runner_row_done))) (mi_Runner_row_done : PySem.W.isFn K (.ref f_Runner_row_done) = true) (ml_Runner_row_done : K.lookup f_Runner_row_done = some ⟨oc_Runner_row_done, od_Runner_row_done, .func (PySem.W.fnOf "row_done" "Runner.row_done" (defArgs s_Runner_row_done) (defBody s_Runner_row_done) (defScope s_Runner_row_done) .none kV_Runner_row_done dc_Runner_row_done pm_Runner_row_done an_Runner_row_done cd_Runner_row_done ct_Runner_row_done), sl_Runner_row_done⟩) (mc_Runner_row_done : PySem.W.codeIn K cd_Runner_row_done "Runner.row_done" = true) (mk_Runner_row_done : PySem.W.keepIn K (.ref f_Runner_row_done) = true)
    {f_Runner_let_done : Addr} {od_Runner_let_done an_Runner_let_done : Option Addr} {sl_Runner_let_done : Array (Option Value)} {oc_Runner_let_done kV_Runner_let_done dc_Runner_let_done pm_Runner_let_done cd_Runner_let_done ct_Runner_let_done : Value}
    (ma_Runner_let_done : PySem.W.findIn K (.ref C_Runner) "let_done" = some (some (.ref f_Runner_let_done))) (mi_Runner_let_done : PySem.W.isFn K (.ref f_Runner_let_done) = true) (ml_Runner_let_done : K.lookup f_Runner_let_done = some ⟨oc_Runner_let_done, od_Runner_let_done, .func (PySem.W.fnOf "let_done" "Runner.let_done" (defArgs s_Runner_let_done) (defBody s_Runner_let_done) (defScope s_Runner_let_done) .none kV_Runner_let_done dc_Runner_let_done pm_Runner_let_done an_Runner_let_done cd_Runner_let_done ct_Runner_let_done), sl_Runner_let_done⟩) (mc_Runner_let_done : PySem.W.codeIn K cd_Runner_let_done "Runner.let_done" = true) (mk_Runner_let_done : PySem.W.keepIn K (.ref f_Runner_let_done) = true)
    (nf_Runner_names : PySem.W.findIn K (.ref C_Runner) "names" = some none)
    (nf_Runner_said : PySem.W.findIn K (.ref C_Runner) "said" = some none)
    (nf_Runner_steps : PySem.W.findIn K (.ref C_Runner) "steps" = some none)
    (nf_Runner_most : PySem.W.findIn K (.ref C_Runner) "most" = some none)
    (nf_Runner_ending : PySem.W.findIn K (.ref C_Runner) "ending" = some none)
    : ∃ fd : FuncData, (∀ (s : Shared) (v : Value), BindsTo s fd ⟨[v], []⟩ [("_law_script", v)]) ∧ ∀ base : Heap, K.In base → base.Ns mainGlobals mg → FnOk l.prog w K mg base CX0 150 fa fd ["_law_script"] (spLaw K) := by
  have e := hfa.symm.trans (PySem.W.mg_of X G a8)
  cases e
  have F0 := fun_mk (x := "reckoned") (st := s_p_reckoned) l0 c0 k0
  have D0 : Def K mg "reckoned" s_p_reckoned ["sign", "one", "other"] := ⟨_, _, F0, PySem.W.mg_of X G a0, F0.binds fun _ _ _ _ _ _ us hl => match us, hl with | [_, _, _], _ => rfl⟩
  have F1 := fun_mk (x := "run") (st := s_p_run) l1 c1 k1
  have D1 : Def K mg "run" s_p_run ["rows", "given", "most"] := ⟨_, _, F1, PySem.W.mg_of X G a1, F1.binds fun _ _ _ _ _ _ us hl => match us, hl with | [_, _, _], _ => rfl⟩
  have F2 := fun_mk (x := "_law_cell_at") (st := s_l_cell_at) l2 c2 k2
  have D2 : Def K mg "_law_cell_at" s_l_cell_at ["_law_script", "_law_k"] := ⟨_, _, F2, PySem.W.mg_of X G a2, F2.binds fun _ _ _ _ _ _ us hl => match us, hl with | [_, _], _ => rfl⟩
  have F3 := fun_mk (x := "_law_names") (st := s_l_names) l3 c3 k3
  have D3 : Def K mg "_law_names" s_l_names ["_law_cell"] := ⟨_, _, F3, PySem.W.mg_of X G a3, F3.binds fun _ _ _ _ _ _ us hl => match us, hl with | [_], _ => rfl⟩
  have F4 := fun_mk (x := "_law_whole") (st := s_l_whole) l4 c4 k4
  have D4 : Def K mg "_law_whole" s_l_whole ["_law_found"] := ⟨_, _, F4, PySem.W.mg_of X G a4, F4.binds fun _ _ _ _ _ _ us hl => match us, hl with | [_], _ => rfl⟩
  have F5 := fun_mk (x := "_law_alike") (st := s_l_alike) l5 c5 k5
  have D5 : Def K mg "_law_alike" s_l_alike ["_law_found", "_law_due"] := ⟨_, _, F5, PySem.W.mg_of X G a5, F5.binds fun _ _ _ _ _ _ us hl => match us, hl with | [_, _], _ => rfl⟩
  have F6 := fun_mk (x := "_law_same_values") (st := s_l_same_values) l6 c6 k6
  have D6 : Def K mg "_law_same_values" s_l_same_values ["_law_found", "_law_due"] := ⟨_, _, F6, PySem.W.mg_of X G a6, F6.binds fun _ _ _ _ _ _ us hl => match us, hl with | [_, _], _ => rfl⟩
  have F7 := fun_mk (x := "_law_sums") (st := s_l_sums) l7 c7 k7
  have D7 : Def K mg "_law_sums" s_l_sums ["_law_start", "_law_count", "_law_many"] := ⟨_, _, F7, PySem.W.mg_of X G a7, F7.binds fun _ _ _ _ _ _ us hl => match us, hl with | [_, _, _], _ => rfl⟩
  have F8 := fun_mk (x := "law") (st := s_law) l8 c8 k8
  have D8 : Def K mg "law" s_law ["_law_script"] := ⟨_, _, F8, PySem.W.mg_of X G a8, F8.binds fun _ _ _ _ _ _ us hl => match us, hl with | [_], _ => rfl⟩
  have M_Runner___init__ := fun_mk (x := "__init__") (st := s_Runner___init__) ml_Runner___init__ mc_Runner___init__ mk_Runner___init__
  have M_Runner_stepped := fun_mk (x := "stepped") (st := s_Runner_stepped) ml_Runner_stepped mc_Runner_stepped mk_Runner_stepped
  have M_Runner_value := fun_mk (x := "value") (st := s_Runner_value) ml_Runner_value mc_Runner_value mk_Runner_value
  have M_Runner_asked := fun_mk (x := "asked") (st := s_Runner_asked) ml_Runner_asked mc_Runner_asked mk_Runner_asked
  have M_Runner_all_done := fun_mk (x := "all_done") (st := s_Runner_all_done) ml_Runner_all_done mc_Runner_all_done mk_Runner_all_done
  have M_Runner_row_done := fun_mk (x := "row_done") (st := s_Runner_row_done) ml_Runner_row_done mc_Runner_row_done mk_Runner_row_done
  have M_Runner_let_done := fun_mk (x := "let_done") (st := s_Runner_let_done) ml_Runner_let_done mc_Runner_let_done mk_Runner_let_done
  have T : Txt K mg := ⟨D0, D1, D2, D3, D4, D5, D6, D7, PySem.W.mg_none_of X G z_all, PySem.W.mg_none_of X G z_bool, PySem.W.mg_none_of X G z_dict, PySem.W.mg_none_of X G z_int, PySem.W.mg_none_of X G z_isinstance, PySem.W.mg_none_of X G z_len, PySem.W.mg_none_of X G z_list, PySem.W.mg_none_of X G z_max, PySem.W.mg_none_of X G z_min, PySem.W.mg_none_of X G z_range, PySem.W.mg_none_of X G z_str, PySem.W.mg_none_of X G z_tuple, ⟨_, PySem.W.mg_of X G m_GREATEST⟩, ⟨C_Runner, ⟨PySem.W.mg_of X G aC_Runner, ⟨pg_Runner, hd_Runner, po_Runner, sa_Runner⟩, mk_Runner, kc_Runner, ⟨_, _, M_Runner___init__, ⟨ma_Runner___init__, mi_Runner___init__, mk_Runner___init__⟩, M_Runner___init__.binds fun _ _ _ _ _ _ us hl => match us, hl with | [_, _, _], _ => rfl⟩, ⟨_, _, M_Runner_stepped, ⟨ma_Runner_stepped, mi_Runner_stepped, mk_Runner_stepped⟩, M_Runner_stepped.binds fun _ _ _ _ _ _ us hl => match us, hl with | [_], _ => rfl⟩, ⟨_, _, M_Runner_value, ⟨ma_Runner_value, mi_Runner_value, mk_Runner_value⟩, M_Runner_value.binds fun _ _ _ _ _ _ us hl => match us, hl with | [_, _], _ => rfl⟩, ⟨_, _, M_Runner_asked, ⟨ma_Runner_asked, mi_Runner_asked, mk_Runner_asked⟩, M_Runner_asked.binds fun _ _ _ _ _ _ us hl => match us, hl with | [_, _], _ => rfl⟩, ⟨_, _, M_Runner_all_done, ⟨ma_Runner_all_done, mi_Runner_all_done, mk_Runner_all_done⟩, M_Runner_all_done.binds fun _ _ _ _ _ _ us hl => match us, hl with | [_, _], _ => rfl⟩, ⟨_, _, M_Runner_row_done, ⟨ma_Runner_row_done, mi_Runner_row_done, mk_Runner_row_done⟩, M_Runner_row_done.binds fun _ _ _ _ _ _ us hl => match us, hl with | [_, _], _ => rfl⟩, ⟨_, _, M_Runner_let_done, ⟨ma_Runner_let_done, mi_Runner_let_done, mk_Runner_let_done⟩, M_Runner_let_done.binds fun _ _ _ _ _ _ us hl => match us, hl with | [_, _], _ => rfl⟩, nf_Runner_names, nf_Runner_said, nf_Runner_steps, nf_Runner_most, nf_Runner_ending⟩⟩⟩
  refine ⟨PySem.W.fnOf "law" "law" (defArgs s_law) (defBody s_law) (defScope s_law) .none kV8 dc8 pm8 an8 cd8 ct8, fun s v => .of_eq rfl, fun base _ _ => ?_⟩
  exact ok_law F8 T
theorem walk {l : PySem.W.OpenLaw} {q : Program} {loose : List Str} {XP : (Str → Option Value) → Heap → Prop} {YP : World → Heap → Prop} {d : DefRec} {K : Params → PySem.W.Frag} (hn : l.most = some 63) (hdf : d.params.defaults = [])
    (hY : ∀ (w : World) (h : Heap), YP w h → (K w.params).In h)
    (F : ∀ (w : World) (mg : Str → Option Value) (fa : Addr) (h : Heap), (K w.params).In h → h.Ns mainGlobals mg → mg d.name = some (.ref fa) →
      ∃ fd : FuncData, (∀ (s : Shared) (u : Value), BindsTo s fd ⟨[u], []⟩ [("_law_script", u)]) ∧ ∀ base : Heap, (K w.params).In base → base.Ns mainGlobals mg → FnOk l.prog w (K w.params) mg base CX0 150 fa fd ["_law_script"] (spLaw (K w.params))) :
    PySem.W.WalkO q loose XP YP l.row.toRowW d [] (fun f vs => PySem.call f vs) :=
  L2.walk_of (n := 63) (k := 150) (x := "_law_script") (CX := fun _ => CX0) (sp := fun w => spLaw (K w.params)) hn (by decide) hdf ⟨rfl, by decide, by decide⟩ hY F (fun _ _ a ns hl _ hS => ⟨a, ns, rfl, hS, hl, fun _ => rfl⟩) fun _ _ _ _ _ z => z
end LM
open PySem PySem.W PyProof.Rows
set_option maxRecDepth 100000 in
set_option maxHeartbeats 0 in
theorem PySem.Challenge.cw_loopmover_k06_long_runs_holds : PySem.Challenge.rw_loopmover_k06_long_runs.Holds := by
  w_on; o_law; k_head; (case hw => w_witness2)
  k_fill
  refine LM.walk (l := PySem.Challenge.rw_loopmover_k06_long_runs) rfl rfl (fun w h Y => PySem.W.kIn_of Y) ?F
  case F =>
    intro w mg fa h KX G hmg
    refine' LM.all_mk KX G hmg ?a0 ?l0 ?c0 ?k0 ?a1 ?l1 ?c1 ?k1 ?a2 ?l2 ?c2 ?k2 ?a3 ?l3 ?c3 ?k3 ?a4 ?l4 ?c4 ?k4 ?a5 ?l5 ?c5 ?k5 ?a6 ?l6 ?c6 ?k6 ?a7 ?l7 ?c7 ?k7 ?a8 ?l8 ?c8 ?k8 ?z_all ?z_bool ?z_dict ?z_int ?z_isinstance ?z_len ?z_list ?z_max ?z_min ?z_range ?z_str ?z_tuple ?m_GREATEST ?aC_Runner ?pg_Runner ?hd_Runner ?po_Runner ?sa_Runner ?mk_Runner ?kc_Runner ?ma_Runner___init__ ?mi_Runner___init__ ?ml_Runner___init__ ?mc_Runner___init__ ?mk_Runner___init__ ?ma_Runner_stepped ?mi_Runner_stepped ?ml_Runner_stepped ?mc_Runner_stepped ?mk_Runner_stepped ?ma_Runner_value ?mi_Runner_value ?ml_Runner_value ?mc_Runner_value ?mk_Runner_value ?ma_Runner_asked ?mi_Runner_asked ?ml_Runner_asked ?mc_Runner_asked ?mk_Runner_asked ?ma_Runner_all_done ?mi_Runner_all_done ?ml_Runner_all_done ?mc_Runner_all_done ?mk_Runner_all_done ?ma_Runner_row_done ?mi_Runner_row_done ?ml_Runner_row_done ?mc_Runner_row_done ?mk_Runner_row_done ?ma_Runner_let_done ?mi_Runner_let_done ?ml_Runner_let_done ?mc_Runner_let_done ?mk_Runner_let_done ?nf_Runner_names ?nf_Runner_said ?nf_Runner_steps ?nf_Runner_most ?nf_Runner_ending
    (case a0 => k_is)
    (case l0 => k_is)
    (case c0 => k_is)
    (case k0 => k_is)
    (case a1 => k_is)
    (case l1 => k_is)
    (case c1 => k_is)
    (case k1 => k_is)
    (case a2 => k_is)
    (case l2 => k_is)
    (case c2 => k_is)
    (case k2 => k_is)
    (case a3 => k_is)
    (case l3 => k_is)
    (case c3 => k_is)
    (case k3 => k_is)
    (case a4 => k_is)
    (case l4 => k_is)
    (case c4 => k_is)
    (case k4 => k_is)
    (case a5 => k_is)
    (case l5 => k_is)
    (case c5 => k_is)
    (case k5 => k_is)
    (case a6 => k_is)
    (case l6 => k_is)
    (case c6 => k_is)
    (case k6 => k_is)
    (case a7 => k_is)
    (case l7 => k_is)
    (case c7 => k_is)
    (case k7 => k_is)
    (case a8 => k_is)
    (case l8 => k_is)
    (case c8 => k_is)
    (case k8 => k_is)
    (case z_all => k_is)
    (case z_bool => k_is)
    (case z_dict => k_is)
    (case z_int => k_is)
    (case z_isinstance => k_is)
    (case z_len => k_is)
    (case z_list => k_is)
    (case z_max => k_is)
    (case z_min => k_is)
    (case z_range => k_is)
    (case z_str => k_is)
    (case z_tuple => k_is)
    (case m_GREATEST => k_is)
    (case aC_Runner => k_is)
    (case pg_Runner => k_is)
    (case hd_Runner => k_is)
    (case po_Runner => k_is)
    (case sa_Runner => k_is)
    (case mk_Runner => k_is)
    (case kc_Runner => k_is)
    (case ma_Runner___init__ => k_is)
    (case mi_Runner___init__ => k_is)
    (case ml_Runner___init__ => k_is)
    (case mc_Runner___init__ => k_is)
    (case mk_Runner___init__ => k_is)
    (case ma_Runner_stepped => k_is)
    (case mi_Runner_stepped => k_is)
    (case ml_Runner_stepped => k_is)
    (case mc_Runner_stepped => k_is)
    (case mk_Runner_stepped => k_is)
    (case ma_Runner_value => k_is)
    (case mi_Runner_value => k_is)
    (case ml_Runner_value => k_is)
    (case mc_Runner_value => k_is)
    (case mk_Runner_value => k_is)
    (case ma_Runner_asked => k_is)
    (case mi_Runner_asked => k_is)
    (case ml_Runner_asked => k_is)
    (case mc_Runner_asked => k_is)
    (case mk_Runner_asked => k_is)
    (case ma_Runner_all_done => k_is)
    (case mi_Runner_all_done => k_is)
    (case ml_Runner_all_done => k_is)
    (case mc_Runner_all_done => k_is)
    (case mk_Runner_all_done => k_is)
    (case ma_Runner_row_done => k_is)
    (case mi_Runner_row_done => k_is)
    (case ml_Runner_row_done => k_is)
    (case mc_Runner_row_done => k_is)
    (case mk_Runner_row_done => k_is)
    (case ma_Runner_let_done => k_is)
    (case mi_Runner_let_done => k_is)
    (case ml_Runner_let_done => k_is)
    (case mc_Runner_let_done => k_is)
    (case mk_Runner_let_done => k_is)
    (case nf_Runner_names => k_is)
    (case nf_Runner_said => k_is)
    (case nf_Runner_steps => k_is)
    (case nf_Runner_most => k_is)
    (case nf_Runner_ending => k_is)
