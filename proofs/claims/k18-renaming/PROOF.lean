import PyProof.Rows.All
import Wide.All
import OpenK.AllK
import Wide.FinOn
import HandS.ForMost
import HandS.Flow
import HandS.IsInst
import HandS.Zip
import HandS.More
import HandS.SetKeys
import HandS.Deep
import HandS.TupAny
import HandS.TupSets
import HandS.SetTxt0
import HandS.Small
import HandS.OwnEq
import KE.KDictKeyed
import KE.KSortTupG
import PySem.Challenge.RW_sayso_k18_whole_renaming_keeps_meaning
import HandS.Conv
import HandS.SetFor
import PyProof.DictFindH
import HandS.DictEq
import KE.GoesZip
import KE.GoesMore
import HandS.DictComp
import KE.KDictCopyH
import KE.KDictDisplayH
import HandS.Codes
set_option Elab.async false
set_option linter.all false
set_option maxRecDepth 100000
set_option maxHeartbeats 4000000
set_option linter.unusedSectionVars false
namespace Sy
open PySem PySem.Spec PyProof.Rows L2

def topS (i : Nat) : Stmt := PySem.Challenge.pw_sayso_k18_whole_renaming_keeps_meaning.main.body.getD i (.Pass ⟨0, 0, 0, 0⟩)

/-! ### judgements by the state -/
abbrev Pins := List (Addr × Obj)
structure EE (X : Cx) (e : Expr) (σ : L2.St) (H : Hp) (Q : VK) : Prop where
  run : ∀ (pins : Pins) (s : Shared), Inv X pins σ H s → wpAny (model X.prog X.w) X.A (eval e X.env) (EP X pins σ Q) X.xe s
structure BB (X : Cx) (e : Expr) (σ : L2.St) (H : Hp) (Q : Bool → Hp → Prop) : Prop where
  run : ∀ (pins : Pins) (s : Shared), Inv X pins σ H s → wpAny (model X.prog X.w) X.A (isTrue e X.env (eval e X.env)) (TP X pins σ Q) X.xe s
structure BW (X : Cx) (e : Expr) (σ : L2.St) (H : Hp) (Q : Bool → Hp → Prop) : Prop where
  run : ∀ (whole : Sem Value) (pins : Pins) (s : Shared), Inv X pins σ H s → wpAny (model X.prog X.w) X.A (isTrue e X.env whole) (TP X pins σ Q) X.xe s
structure AA (X : Cx) (es : List Expr) (σ : L2.St) (H : Hp) (Q : List V → Hp → Prop) : Prop where
  run : ∀ (pos : Pos) (pins : Pins) (s : Shared), Inv X pins σ H s → wpAny (model X.prog X.w) X.A (spliced (backTo pos (starEach es X.env))) (AP X pins σ Q) X.xe s
structure S1 (X : Cx) (st : Stmt) (D : Ends) (σ : L2.St) (H : Hp) : Prop where
  run : ∀ (pins : Pins) (s : Shared), Inv X pins σ H s → wpAny (model X.prog X.w) X.A (exec st X.env) (SP X pins D) X.xe s
structure SS (X : Cx) (st : List Stmt) (D : Ends) (σ : L2.St) (H : Hp) : Prop where
  run : ∀ (pins : Pins) (s : Shared), Inv X pins σ H s → wpAny (model X.prog X.w) X.A (execs st X.env) (SP X pins D) X.xe s
structure GG (X : Cx) (target : Expr) (v : V) (σ : L2.St) (H : Hp) (Q : L2.St → Hp → Prop) : Prop where
  run : ∀ (pins : Pins) (s : Shared) (u : Value), Inv X pins σ H s → RelV v u →
    wpAny (model X.prog X.w) X.A (assign target X.env u) (fun _ s' => ∃ σ' H', Inv X pins σ' H' s' ∧ Q σ' H') X.xe s
structure GGs (X : Cx) (ts : List Expr) (vs : List V) (σ : L2.St) (H : Hp) (Q : L2.St → Hp → Prop) : Prop where
  run : ∀ (pins : Pins) (s : Shared) (us : List Value), Inv X pins σ H s → Vals vs us →
    wpAny (model X.prog X.w) X.A (assignInOrder ((assignEach ts X.env).map (·.2)) us) (fun _ s' => ∃ σ' H', Inv X pins σ' H' s' ∧ Q σ' H') X.xe s
structure II (X : Cx) (tg iter : Expr) (σ : L2.St) (H : Hp) (R : It → Hp → Prop) : Prop where
  run : ∀ (pins : Pins) (s : Shared), Inv X pins σ H s →
    wpAny (model X.prog X.w) X.A (eval iter X.env) (fun v s1 => wpAny (model X.prog X.w) X.A (pyIter v) (PIE X pins σ tg R) X.xe s1) X.xe s
structure OO (X : Cx) (f : Value → Value → Sem Value) (x y : V) (H : Hp) (Q : VK) : Prop where
  run : ∀ (pins : Pins) (s : Shared) (σ : L2.St) (v u : Value), Inv X pins σ H s → RelV x v → RelV y u → wpAny (model X.prog X.w) X.A (f v u) (EP X pins σ Q) X.xe s
structure BO (X : Cx) (op : Operator) (x y : V) (H : Hp) (Q : VK) : Prop where
  run : OO X (binaryOp op) x y H Q
structure CO (X : Cx) (op : CmpOp) (x y : V) (H : Hp) (Q : VK) : Prop where
  run : OO X (compareOp op) x y H Q
structure IO (X : Cx) (op : Operator) (x y : V) (H : Hp) (Q : VK) : Prop where
  run : OO X (inplaceOp op) x y H Q
structure UU (X : Cx) (f : Value → Sem Value) (x : V) (H : Hp) (Q : VK) : Prop where
  run : ∀ (pins : Pins) (s : Shared) (σ : L2.St) (v : Value), Inv X pins σ H s → RelV x v → wpAny (model X.prog X.w) X.A (f v) (EP X pins σ Q) X.xe s
structure CC (X : Cx) (f : Value) (xs : List V) (H : Hp) (Q : VK) : Prop where
  run : ∀ (pins : Pins) (s : Shared) (σ : L2.St) (us : List Value), Inv X pins σ H s → Vals xs us → wpAny (model X.prog X.w) X.A (call f us) (EP X pins σ Q) X.xe s
structure MM (X : Cx) (id : String) (x : V) (xs : List V) (H : Hp) (Q : VK) : Prop where
  run : ∀ (pins : Pins) (s : Shared) (σ : L2.St) (v : Value) (us : List Value), Inv X pins σ H s → RelV x v → Vals xs us → wpAny (model X.prog X.w) X.A (call (.builtin id) (v :: us)) (EP X pins σ Q) X.xe s
structure IX (X : Cx) (x y : V) (H : Hp) (Q : VK) : Prop where
  run : ∀ (value slice : Expr) (pins : Pins) (s : Shared) (σ : L2.St) (v u : Value), Inv X pins σ H s → RelV x v → RelV y u →
    subscripted slice false v u = operate [v, u] (getItem v u) → wpAny (model X.prog X.w) X.A (subscriptTail value slice v u) (EP X pins σ Q) X.xe s
structure TR (X : Cx) (x : V) (H : Hp) (Q : Bool → Hp → Prop) : Prop where
  run : ∀ (pins : Pins) (s : Shared) (σ : L2.St) (v : Value), Inv X pins σ H s → RelV x v → wpAny (model X.prog X.w) X.A (truthy v) (TP X pins σ Q) X.xe s
structure SL (X : Cx) (x : V) (lo hi : Option Int) (H : Hp) (Q : VK) : Prop where
  run : ∀ (pins : Pins) (s : Shared) (σ : L2.St) (v vl vu : Value) (sl : Addr), Inv X pins σ H s → RelV x v → s.heap.IsSliceOf sl vl vu .none → IsPart vl lo → IsPart vu hi →
    ∃ T id, typeLookup (.type T) "__getitem__" = pure (some (.builtin id)) ∧ s.TypeIs v T ∧ wpAny (model X.prog X.w) X.A (getItem v (.ref sl)) (EP X pins σ Q) X.xe s
structure OP (X : Cx) (e : Option Expr) (σ : L2.St) (H : Hp) (Q : Option Int → Hp → Prop) : Prop where
  run : ∀ (pins : Pins) (s : Shared), Inv X pins σ H s →
    wpAny (model X.prog X.w) X.A (evalPart e X.env) (fun u s' => ∃ o H', Inv X pins σ H' s' ∧ IsPart u o ∧ Q o H') X.xe s
structure PSt (X : Cx) (o i v : V) (H : Hp) (Q : Hp → Prop) : Prop where
  run : ∀ (pins : Pins) (s : Shared) (σ : L2.St) (ov iv u : Value), Inv X pins σ H s → RelV o ov → RelV i iv → RelV v u →
    wpAny (model X.prog X.w) X.A (setItem ov iv u) (fun _ s' => ∃ H', Inv X pins σ H' s' ∧ Q H') X.xe s

section
variable {X : Cx} {σ : L2.St} {H : Hp} {Q : VK} {QB : Bool → Hp → Prop} {QA : List V → Hp → Prop} {a b c e : Expr} {es : List Expr} {D : Ends} {pos : Pos} {x y : V}

/-! ### the judgements of the layer by these, and back -/
theorem EE.pe : PE X e (EE X e) := ⟨fun pins s _ _ _ I h => h.run pins s I⟩
theorem ee_of {t : TE} (h : PE X e t) (q : t σ H Q) : EE X e σ H Q := ⟨fun pins s I => h.run pins s σ H Q I q⟩
theorem BB.pt : PT X e (BB X e) := ⟨fun pins s _ _ _ I h => h.run pins s I⟩
theorem bb_of {t : TT} (h : PT X e t) (q : t σ H QB) : BB X e σ H QB := ⟨fun pins s I => h.run pins s σ H QB I q⟩
theorem BW.pw : PW X e (BW X e) := ⟨fun wh pins s _ _ _ I h => h.run wh pins s I⟩
theorem bw_of {t : TT} (h : PW X e t) (q : t σ H QB) : BW X e σ H QB := ⟨fun wh pins s I => h.run wh pins s σ H QB I q⟩
theorem AA.pa : PA X es (AA X es) := ⟨fun pos pins s _ _ _ I h => h.run pos pins s I⟩
theorem aa_of {t : TA} (h : PA X es t) (q : t σ H QA) : AA X es σ H QA := ⟨fun pos pins s I => h.run pos pins s σ H QA I q⟩
theorem S1.ps {st : Stmt} : PS X st (S1 X st) := ⟨fun pins s _ _ _ I h => h.run pins s I⟩
theorem s1_of {st : Stmt} {t : TS} (h : PS X st t) (q : t D σ H) : S1 X st D σ H := ⟨fun pins s I => h.run pins s σ H D I q⟩
theorem SS.pss {st : List Stmt} : PSs X st (SS X st) := ⟨fun pins s _ _ _ I h => h.run pins s I⟩
theorem ss_of {st : List Stmt} {t : TS} (h : PSs X st t) (q : t D σ H) : SS X st D σ H := ⟨fun pins s I => h.run pins s σ H D I q⟩
theorem GG.pg {tg : Expr} : PG X tg (GG X tg) := ⟨fun pins s _ _ _ u _ I r h => h.run pins s u I r⟩
theorem gg_of {tg : Expr} {t : TG} {Q : L2.St → Hp → Prop} (h : PG X tg t) (q : t x σ H Q) : GG X tg x σ H Q := ⟨fun pins s u I r => h.run pins s σ H x u Q I r q⟩
theorem GGs.pgs {ts : List Expr} : PGs X ts (GGs X ts) := ⟨fun pins s _ _ _ u _ I r h => h.run pins s u I r⟩
theorem ggs_of {ts : List Expr} {t : TGs} {vs : List V} {Q : L2.St → Hp → Prop} (h : PGs X ts t) (q : t vs σ H Q) : GGs X ts vs σ H Q := ⟨fun pins s u I r => h.run pins s σ H vs u Q I r q⟩
theorem II.pi {tg it : Expr} : PI X tg it (II X tg it) := ⟨fun pins s _ _ _ I h => h.run pins s I⟩
theorem ii_of {tg it : Expr} {t : TI} {R : It → Hp → Prop} (h : PI X tg it t) (q : t σ H R) : II X tg it σ H R := ⟨fun pins s I => h.run pins s σ H R I q⟩
theorem OO.op {f : Value → Value → Sem Value} : OpR X f (OO X f) := fun pins s σ _ _ _ v u _ I r1 r2 h => h.run pins s σ v u I r1 r2
theorem oo_of {f : Value → Value → Sem Value} {r : R2} (h : OpR X f r) (q : r x y H Q) : OO X f x y H Q := ⟨fun pins s σ v u I r1 r2 => h pins s σ H x y v u Q I r1 r2 q⟩
theorem BO.op {op : Operator} : OpR X (binaryOp op) (BO X op) := fun pins s σ _ _ _ v u _ I r1 r2 h => h.run.run pins s σ v u I r1 r2
theorem CO.op {op : CmpOp} : OpR X (compareOp op) (CO X op) := fun pins s σ _ _ _ v u _ I r1 r2 h => h.run.run pins s σ v u I r1 r2
theorem IO.op {op : Operator} : OpR X (inplaceOp op) (IO X op) := fun pins s σ _ _ _ v u _ I r1 r2 h => h.run.run pins s σ v u I r1 r2
theorem bo_of {op : Operator} {r : R2} (h : OpR X (binaryOp op) r) (q : r x y H Q) : BO X op x y H Q := ⟨oo_of h q⟩
theorem co_of {op : CmpOp} {r : R2} (h : OpR X (compareOp op) r) (q : r x y H Q) : CO X op x y H Q := ⟨oo_of h q⟩
theorem io_of {op : Operator} {r : R2} (h : OpR X (inplaceOp op) r) (q : r x y H Q) : IO X op x y H Q := ⟨oo_of h q⟩
theorem UU.un {f : Value → Sem Value} : UnR X f (UU X f) := fun pins s σ _ _ v _ I r h => h.run pins s σ v I r
theorem uu_of {f : Value → Sem Value} {r : V → Hp → VK → Prop} (h : UnR X f r) (q : r x H Q) : UU X f x H Q := ⟨fun pins s σ v I r1 => h pins s σ H x v Q I r1 q⟩
theorem CC.call {f : Value} : CallR X f (CC X f) := fun pins s σ _ _ us _ I r h => h.run pins s σ us I r
theorem cc_of {f : Value} {r : List V → Hp → VK → Prop} {xs : List V} (h : CallR X f r) (q : r xs H Q) : CC X f xs H Q := ⟨fun pins s σ us I r1 => h pins s σ H xs us Q I r1 q⟩
theorem MM.mt {id : String} : MtR X id (MM X id) := fun pins s σ _ _ _ v us _ I r rs h => h.run pins s σ v us I r rs
theorem mm_of {id : String} {r : V → List V → Hp → VK → Prop} {xs : List V} (h : MtR X id r) (q : r x xs H Q) : MM X id x xs H Q := ⟨fun pins s σ v us I r1 rs => h pins s σ H x xs v us Q I r1 rs q⟩
theorem IX.ix : IxR X (IX X) := fun vl sl pins s σ _ _ _ v u _ I r1 r2 h hs => h.run vl sl pins s σ v u I r1 r2 hs
theorem ix_of {r : R2} (h : IxR X r) (q : r x y H Q) : IX X x y H Q := ⟨fun vl sl pins s σ v u I r1 r2 hs => h vl sl pins s σ H x y v u Q I r1 r2 q hs⟩
theorem TR.tr : TruR X (TR X) := fun pins s σ _ _ v _ I r h => h.run pins s σ v I r
theorem tr_of {r : V → Hp → (Bool → Hp → Prop) → Prop} (h : TruR X r) (q : r x H QB) : TR X x H QB := ⟨fun pins s σ v I r1 => h pins s σ H x v QB I r1 q⟩
theorem SL.sl : SlR X (SL X) := fun pins s σ _ _ v vl vu _ _ sl _ I r hs pl pu h => h.run pins s σ v vl vu sl I r hs pl pu
theorem sl_of {r : V → Option Int → Option Int → Hp → VK → Prop} {lo hi : Option Int} (h : SlR X r) (q : r x lo hi H Q) : SL X x lo hi H Q := ⟨fun pins s σ v vl vu sl I r1 hs pl pu => h pins s σ H x v vl vu lo hi sl Q I r1 hs pl pu q⟩
theorem OP.po {o : Option Expr} : PO X o (OP X o) := ⟨fun pins s _ _ _ I h => h.run pins s I⟩
theorem op_of {o : Option Expr} {t : TO} {Q : Option Int → Hp → Prop} (h : PO X o t) (q : t σ H Q) : OP X o σ H Q := ⟨fun pins s I => h.run pins s σ H Q I q⟩
theorem PSt.ps : PSet X (PSt X) := fun pins s σ _ _ _ _ ov iv u _ I r1 r2 r3 h => h.run pins s σ ov iv u I r1 r2 r3
theorem pst_of {t : TSet} {o i v : V} {Q : Hp → Prop} (h : PSet X t) (q : t o i v H Q) : PSt X o i v H Q := ⟨fun pins s σ ov iv u I r1 r2 r3 => h pins s σ H o i v ov iv u Q I r1 r2 r3 q⟩

/-! ### expressions -/
theorem ee_var (i : Nat) {x : Str} {v : V} (hv : σ[i]? = some (some v)) (q : Q v H) (hN : X.N[i]? = some x := by rfl)
    (hs : Vis X.env.scope x := by first | exact Or.inl rfl | exact Or.inr (Or.inl rfl) | exact Or.inr (Or.inr rfl)) (hd : (x == ("__debug__" : Str)) = false := by decide)
    (hcd : (x == ("__classdict__" : Str)) = false := by decide) : EE X (.Name x pos) σ H Q := ee_of (pe_var hN hs hd hcd) ⟨v, hv, q⟩
theorem ee_glob {x : Str} {v : V} {u : Value} (hm : X.mg x = some u) (r : RelV v u) (q : Q v H) (hg : Gl X x := by rfl) (hd : (x == ("__debug__" : Str)) = false := by decide) : EE X (.Name x pos) σ H Q := ee_of (pe_glob hg hm r hd) q
theorem ee_blt {x : Str} {v : V} {u : Value} (hm : X.mg x = none) (hv : bootBuiltins x = some u) (r : RelV v u) (q : Q v H) (hg : Gl X x := by rfl) (hn : x ≠ "__name__" := by decide) (hd : (x == ("__debug__" : Str)) = false := by decide) : EE X (.Name x pos) σ H Q := ee_of (pe_bltn hg hm hv r hn hd) q
theorem ee_int {i j} (q : Q (.int i) H) : EE X (.Constant (.int i) j pos) σ H Q := ee_of pe_int q
theorem ee_bl {i j} (q : Q (.bl i) H) : EE X (.Constant (.bool i) j pos) σ H Q := ee_of pe_bl q
theorem ee_non {j} (q : Q .non H) : EE X (.Constant .none j pos) σ H Q := ee_of pe_non q
theorem ee_str {i j} (q : Q (.str i) H) : EE X (.Constant (.str i) j pos) σ H Q := ee_of pe_str q
theorem ee_bin {op : Operator} (h : EE X a σ H fun x H1 => EE X b σ H1 fun y H2 => BO X op x y H2 Q) : EE X (.BinOp a op b pos) σ H Q := ee_of (pe_op BO.op EE.pe EE.pe) h
theorem ee_un {op : UnaryOp} (h : EE X a σ H fun x H1 => UU X (unaryOp op) x H1 Q) : EE X (.UnaryOp op a pos) σ H Q := ee_of (pe_un UU.un EE.pe) h
theorem ee_not (h : EE X a σ H fun x H1 => ∃ c, x = .bl c ∧ Q (.bl (!c)) H1) : EE X (.UnaryOp .Not a pos) σ H Q := ee_of (pe_not EE.pe) h
theorem ee_cmp {op : CmpOp} (h : EE X a σ H fun x H1 => EE X b σ H1 fun y H2 => CO X op x y H2 Q)
    (hm : behindInMarks op b = false := by first | exact nobehind _ (by decide) (by decide) | with_unfolding_all rfl) : EE X (.Compare a [op] [b] pos) σ H Q := ee_of (pe_cmpR CO.op EE.pe EE.pe hm) h
theorem ee_chain {op op' : CmpOp} (h : EE X a σ H fun x H1 => EE X b σ H1 fun y H2 => CO X op x y H2 fun z H3 => ∃ k, z = .bl k ∧ (if k = true then EE X c σ H3 fun w H4 => CO X op' y w H4 Q else Q (.bl false) H3))
    (hm : lastMarks [op, op'] [b, c] = false := by with_unfolding_all rfl) : EE X (.Compare a [op, op'] [b, c] pos) σ H Q := ee_of (pe_chain CO.op CO.op EE.pe EE.pe EE.pe hm) h
theorem ee_one {op} (h : EE X a σ H Q) : EE X (.BoolOp op [a] pos) σ H Q := ee_of (pe_one EE.pe) h
theorem ee_and {rest : List Expr} (h : EE X a σ H fun x H1 => ∃ c, x = .bl c ∧ if c = true then EE X (.BoolOp .And (b :: rest) pos) σ H1 Q else Q (.bl false) H1) : EE X (.BoolOp .And (a :: b :: rest) pos) σ H Q := ee_of (pe_and EE.pe EE.pe) h
theorem ee_or {rest : List Expr} (h : EE X a σ H fun x H1 => ∃ c, x = .bl c ∧ if c = true then Q (.bl true) H1 else EE X (.BoolOp .Or (b :: rest) pos) σ H1 Q) : EE X (.BoolOp .Or (a :: b :: rest) pos) σ H Q := ee_of (pe_or EE.pe EE.pe) h
theorem ee_if (h : BB X c σ H fun k H1 => if k = true then EE X a σ H1 Q else EE X b σ H1 Q) : EE X (.IfExp c a b pos) σ H Q := ee_of (pe_ifExp BB.pt EE.pe EE.pe) h
theorem ee_ix (h : EE X a σ H fun x H1 => EE X b σ H1 fun y H2 => IX X x y H2 Q) (hs : PlainIx b := by exact fun _ _ => rfl) : EE X (.Subscript a b pos) σ H Q := ee_of (pe_ix IX.ix EE.pe EE.pe hs) h
theorem ee_dget (hu : X.A.units + 1 < cLine) (h : EE X a σ H fun x H1 => EE X b σ H1 fun y H2 => ∃ p v, x = .ref p ∧ DGet H2 p y (some v) ∧ Q v H2) (hs : NoSl b := by exact fun _ _ => rfl) : EE X (.Subscript a b pos) σ H Q := ee_of (pe_dget hu EE.pe EE.pe hs) h
theorem ee_slice {lo hi : Option Expr} {p2 : Pos} (h : EE X a σ H fun x H1 => OP X lo σ H1 fun l H2 => OP X hi σ H2 fun u H3 => SL X x l u H3 Q) : EE X (.Subscript a (.Slice lo hi none p2) pos) σ H Q := ee_of (pe_slice SL.sl EE.pe OP.po OP.po) h
theorem op_none {Q : Option Int → Hp → Prop} (q : Q none H) : OP X none σ H Q := op_of po_none q
theorem op_some {Q : Option Int → Hp → Prop} (q : EE X e σ H fun x H1 => ∃ i, x = .int i ∧ Q (some i) H1) : OP X (some e) σ H Q := op_of (po_some EE.pe) q
theorem aa_nil (q : QA [] H) : AA X [] σ H QA := aa_of pa_nil q
theorem aa_cons (h : EE X e σ H fun x H1 => AA X es σ H1 fun xs H2 => QA (x :: xs) H2) (hs : starEach (e :: es) X.env = (false, eval e X.env) :: starEach es X.env := by rfl) : AA X (e :: es) σ H QA := aa_of (pa_cons EE.pe AA.pa hs) h
theorem ee_tup {k} (h : AA X es σ H fun xs H1 => xs.length ≤ sizeLine ∧ ∀ p, H1 p = none → Q (.ref p) (upd H1 p (.tup xs))) : EE X (.Tuple es k pos) σ H Q := ee_of (pe_tup AA.pa) h
theorem ee_lst (h : AA X es σ H fun xs H1 => xs.length ≤ sizeLine ∧ ∀ p, H1 p = none → Q (.ref p) (upd H1 p (.lst xs))) : EE X (.List es pos) σ H Q := ee_of (pe_lst AA.pa) h
theorem ee_callB {x : Str} {p : Pos} {id : String} (hm : X.mg x = none) (hv : bootBuiltins x = some (.builtin id)) (h : AA X (e :: es) σ H fun xs H1 => CC X (.builtin id) xs H1 Q) (hg : Gl X x := by rfl) (hn : x ≠ "__name__" := by decide) (hdb : (x == ("__debug__" : Str)) = false := by decide)
    (he : starEach (e :: es) X.env = (false, eval e X.env) :: starEach es X.env := by rfl) (hpl : (backTo pos (starEach es X.env)).any (·.1) = false := by rfl) : EE X (.Call (.Name x p) (e :: es) [] pos) σ H Q := ee_of (pe_callB CC.call hg hm hv AA.pa hn hdb he hpl) h
theorem ee_callTy {x : Str} {p : Pos} {T : String} (hm : X.mg x = none) (hv : bootBuiltins x = some (.type T)) (h : AA X (e :: es) σ H fun xs H1 => CC X (.type T) xs H1 Q) (hg : Gl X x := by rfl) (hn : x ≠ "__name__" := by decide) (hdb : (x == ("__debug__" : Str)) = false := by decide)
    (he : starEach (e :: es) X.env = (false, eval e X.env) :: starEach es X.env := by rfl) (hpl : (backTo pos (starEach es X.env)).any (·.1) = false := by rfl) : EE X (.Call (.Name x p) (e :: es) [] pos) σ H Q := ee_of (pe_callTy CC.call hg hm hv AA.pa hn hdb he hpl) h
theorem ee_fld {f : Str} (h : EE X e σ H fun x H1 => ∃ a C dx fs v, x = .ref a ∧ H1 a = some (.ins C dx fs) ∧ Cls X.K C ∧ NoAttr X.K C f ∧ fs.lookup f = some v ∧ Q v H1) (hb : attributeBase e f X.env (eval e X.env) = eval e X.env := by rfl) : EE X (.Attribute e f pos) σ H Q := ee_of (pe_fld EE.pe hb) h
theorem ee_bm0 {o : Expr} {name : Str} {apos : Pos} {T id : String} (pa : PlainAttrs T) (slot : Slot T name id) (hty : typeOf (.builtin id) = pure (.type "method_descriptor")) (h : EE X o σ H fun x H1 => tyV X.K T x H1 ∧ MM X id x [] H1 Q)
    (hbase : attributeBase o name X.env (eval o X.env) = eval o X.env := by rfl) (hline : (apos.endLine == pos.line) = true := by rfl) : EE X (.Call (.Attribute o name apos) [] [] pos) σ H Q := ee_of (pe_bm0 pa slot hty MM.mt EE.pe hbase hline) h
theorem ee_bm {o : Expr} {name : Str} {apos : Pos} {T id : String} (pa : PlainAttrs T) (slot : Slot T name id) (hty : typeOf (.builtin id) = pure (.type "method_descriptor")) (h : EE X o σ H fun x H1 => tyV X.K T x H1 ∧ AA X (e :: es) σ H1 fun xs H2 => MM X id x xs H2 Q)
    (hbase : attributeBase o name X.env (eval o X.env) = eval o X.env := by rfl)
    (hfew : ((backTo pos (starEach (e :: es) X.env)).all (fun x => !x.1) && (backToKw pos (keywordEach [] X.env)).all (fun x => x.1.isSome)
      && decide ((e :: es).length + ([] : List Keyword).length + (if ([] : List Keyword).isEmpty then 0 else 1) < 30)) = true := by rfl)
    (hline : (apos.endLine == pos.line) = true := by rfl) (hs : starEach (e :: es) X.env = (false, eval e X.env) :: starEach es X.env := by rfl) (hplain : (backTo pos (starEach es X.env)).any (·.1) = false := by rfl) :
    EE X (.Call (.Attribute o name apos) (e :: es) [] pos) σ H Q := ee_of (pe_bm pa slot hty MM.mt EE.pe AA.pa hbase hfew hline hs hplain) h
theorem ee_dnewK (q : ∀ p, H p = none → Q (.ref p) (upd H p (.dK []))) : EE X (.Dict [] [] pos) σ H Q := ee_of pe_dnewK q
theorem ee_dnewT (q : ∀ p, H p = none → Q (.ref p) (upd H p (.dT []))) : EE X (.Dict [] [] pos) σ H Q := ee_of pe_dnewT q
theorem ee_din (hu : X.A.units + 1 < cLine) (h : EE X a σ H fun y H1 => EE X b σ H1 fun x H2 => ∃ p o, x = .ref p ∧ DGet H2 p y o ∧ Q (.bl o.isSome) H2)
    (hm : behindInMarks .In b = false := by first | exact nobehind _ (by decide) (by decide) | with_unfolding_all rfl) : EE X (.Compare a [.In] [b] pos) σ H Q := ee_of (pe_cmp (pc_din hu EE.pe EE.pe) hm) h
theorem ee_dnotin (hu : X.A.units + 1 < cLine) (h : EE X a σ H fun y H1 => EE X b σ H1 fun x H2 => ∃ p o, x = .ref p ∧ DGet H2 p y o ∧ Q (.bl (!o.isSome)) H2)
    (hm : behindInMarks .NotIn b = false := by first | exact nobehind _ (by decide) (by decide) | with_unfolding_all rfl) : EE X (.Compare a [.NotIn] [b] pos) σ H Q := ee_of (pe_cmp (pc_dnotin hu EE.pe EE.pe) hm) h

/-! ### tests -/
theorem bb_cmp {op : CmpOp} (h : EE X a σ H fun x H1 => EE X b σ H1 fun y H2 => CO X op x y H2 fun z H3 => ∃ k, z = .bl k ∧ QB k H3)
    (hm : behindInMarks op b = false := by first | exact nobehind _ (by decide) (by decide) | with_unfolding_all rfl) : BB X (.Compare a [op] [b] pos) σ H QB := bb_of (pt_cmpR CO.op EE.pe EE.pe hm) h
theorem bb_chain {op op' : CmpOp} (h : EE X a σ H fun x H1 => EE X b σ H1 fun y H2 => CO X op x y H2 fun z H3 => ∃ k, z = .bl k ∧ (if k = true then EE X c σ H3 fun w H4 => CO X op' y w H4 fun z H5 => ∃ k, z = .bl k ∧ QB k H5 else ∃ k, V.bl false = .bl k ∧ QB k H3))
    (hm : lastMarks [op, op'] [b, c] = false := by with_unfolding_all rfl) : BB X (.Compare a [op, op'] [b, c] pos) σ H QB := bb_of (pt_chain CO.op CO.op EE.pe EE.pe EE.pe hm) h
theorem bb_din (hu : X.A.units + 1 < cLine) (h : EE X a σ H fun y H1 => EE X b σ H1 fun x H2 => ∃ p o, x = .ref p ∧ DGet H2 p y o ∧ QB o.isSome H2)
    (hm : behindInMarks .In b = false := by first | exact nobehind _ (by decide) (by decide) | with_unfolding_all rfl) : BB X (.Compare a [.In] [b] pos) σ H QB :=
  ⟨fun pins s I => (pt_cmp (pc_din hu EE.pe EE.pe) hm).run pins s σ H QB I
    ⟨fun pins s I => thn (h.run pins s I) fun u s' ⟨v, H', I', r, q⟩ => ⟨v, H', I', r, ⟨fun pins s I => thn (q.run pins s I) fun u s' ⟨v, H', I', r, ⟨p, o, e1, e2, e3⟩⟩ => ⟨v, H', I', r, p, o, e1, e2, _, rfl, e3⟩⟩⟩⟩⟩
theorem bb_dnotin (hu : X.A.units + 1 < cLine) (h : EE X a σ H fun y H1 => EE X b σ H1 fun x H2 => ∃ p o, x = .ref p ∧ DGet H2 p y o ∧ QB (!o.isSome) H2)
    (hm : behindInMarks .NotIn b = false := by first | exact nobehind _ (by decide) (by decide) | with_unfolding_all rfl) : BB X (.Compare a [.NotIn] [b] pos) σ H QB :=
  ⟨fun pins s I => (pt_cmp (pc_dnotin hu EE.pe EE.pe) hm).run pins s σ H QB I
    ⟨fun pins s I => thn (h.run pins s I) fun u s' ⟨v, H', I', r, q⟩ => ⟨v, H', I', r, ⟨fun pins s I => thn (q.run pins s I) fun u s' ⟨v, H', I', r, ⟨p, o, e1, e2, e3⟩⟩ => ⟨v, H', I', r, p, o, e1, e2, _, rfl, e3⟩⟩⟩⟩⟩
theorem bb_val (h : EE X e σ H fun x H1 => ∃ k, x = .bl k ∧ QB k H1) (he : ∀ whole, isTrue e X.env whole = (do let v ← whole; standAt e.pos; holding [v] (truthy v)) := by intro _; rfl) : BB X e σ H QB := bb_of (pt_val EE.pe he) h
theorem bb_tru (h : EE X e σ H fun x H1 => ∃ k, TruV X.K x H1 k ∧ QB k H1) (he : ∀ whole, isTrue e X.env whole = (do let v ← whole; standAt e.pos; holding [v] (truthy v)) := by intro _; rfl) : BB X e σ H QB := bb_of (pt_truth EE.pe he) h
theorem bb_not (h : BB X e σ H fun k H1 => QB (!k) H1) : BB X (.UnaryOp .Not e pos) σ H QB := bb_of (pt_not BB.pt) h
theorem bw_and1 (h : BB X e σ H QB) : BW X (.BoolOp .And [e] pos) σ H QB := bw_of (pw_and1 BB.pt) h
theorem bw_or1 (h : BB X e σ H QB) : BW X (.BoolOp .Or [e] pos) σ H QB := bw_of (pw_or1 BB.pt) h
theorem bw_and {rest : List Expr} (h : BB X a σ H fun k H1 => if k = true then BW X (.BoolOp .And (b :: rest) pos) σ H1 QB else QB false H1) : BW X (.BoolOp .And (a :: b :: rest) pos) σ H QB := bw_of (pw_and BB.pt BW.pw) h
theorem bw_or {rest : List Expr} (h : BB X a σ H fun k H1 => if k = true then QB true H1 else BW X (.BoolOp .Or (b :: rest) pos) σ H1 QB) : BW X (.BoolOp .Or (a :: b :: rest) pos) σ H QB := bw_of (pw_or BB.pt BW.pw) h
theorem bb_bw (h : BW X e σ H QB) : BB X e σ H QB := bb_of BW.pw.pt h

/-! ### statements -/
theorem ss_nil (h : D.nx σ H) : SS X [] D σ H := ss_of pss_nil h
theorem ss_cons {st : Stmt} {rest : List Stmt} (h : S1 X st { D with nx := fun σ' H' => SS X rest D σ' H' } σ H) : SS X (st :: rest) D σ H := ss_of (pss_cons S1.ps SS.pss) h
theorem s_set (i : Nat) {x : Str} {pos' : Pos} (he : EE X e σ H fun v H1 => D.nx (σ.set i (some v)) H1) (hN : X.N.Nodup) (hi : X.N[i]? = some x := by rfl) (hx : Loc X.env.scope x := by first | exact Or.inl rfl | exact Or.inr rfl)
    (hs : swapsWith e (some (.Name x pos')) pos.line X.env = pure false := by rfl) (hf : X.fn x = true ∨ X.env.scope.names.lookup x = some .local := by first | exact .inl rfl | exact .inr rfl) : S1 X (.Assign [.Name x pos'] e pos) D σ H := s1_of (ps_set hN hi hx EE.pe hs hf) he
theorem s_asg {tg : Expr} (he : EE X e σ H fun v H1 => GG X tg v σ H1 D.nx) (hs : swapsWithSole [tg] e pos.line X.env = pure false := by rfl) (hw : swappedStores [tg] e X.env = pure none := by rfl)
    (h1 : (assignEach [tg] X.env).map (·.2) = [assign tg X.env] := by rfl) : S1 X (.Assign [tg] e pos) D σ H := s1_of (ps_asg EE.pe GG.pg hs hw h1) he
theorem s_aug (i : Nat) {x : Str} {pos' : Pos} {op : Operator} {v : V} (hv : σ[i]? = some (some v)) (he : EE X e σ H fun y H1 => IO X op v y H1 fun z H2 => D.nx (σ.set i (some z)) H2) (hN : X.N.Nodup) (hi : X.N[i]? = some x := by rfl)
    (hx : Loc X.env.scope x := by first | exact Or.inl rfl | exact Or.inr rfl) (hf : X.fn x = true ∨ X.env.scope.names.lookup x = some .local := by first | exact .inl rfl | exact .inr rfl) :
    S1 X (.AugAssign (.Name x pos') op e pos) D σ H := s1_of (ps_aug hN hi hx EE.pe (ti := fun x y H Q => IO X op x y H Q) (fun pins s σ H x y v u Q I r1 r2 h => h.run.run pins s σ v u I r1 r2) hf) ⟨v, hv, he⟩
theorem s_fld {o : Expr} {f : Str} {pos' : Pos} (h : EE X e σ H fun y H1 => EE X o σ H1 fun x H2 => ∃ a C dx fs, x = .ref a ∧ H2 a = some (.ins C dx fs) ∧ Cls X.K C ∧ NoAttr X.K C f ∧ fs.length < 1000 ∧ D.nx σ (upd H2 a (.ins C dx (putF f y fs))))
    (hs : swapsWith e (some (.Attribute o f pos')) pos.line X.env = pure false := by rfl) : S1 X (.Assign [.Attribute o f pos'] e pos) D σ H := s1_of (ps_fld EE.pe EE.pe hs) h
theorem s_dput {o i : Expr} {pos' : Pos} (hu : X.A.units + 1 < cLine) (h : EE X e σ H fun v H1 => EE X o σ H1 fun x H2 => EE X i σ H2 fun y H3 => ∃ p H4, x = .ref p ∧ DPut H3 p y v H4 ∧ D.nx σ H4)
    (hs : swapsWith e (some (.Subscript o i pos')) pos.line X.env = pure false := by rfl) : S1 X (.Assign [.Subscript o i pos'] e pos) D σ H := s1_of (ps_dput hu EE.pe EE.pe EE.pe hs) h
theorem s_if {th el : List Stmt} (h : BB X c σ H fun k H1 => if k = true then SS X th D σ H1 else SS X el D σ H1) : S1 X (.If c th el pos) D σ H := s1_of (ps_if BB.pt SS.pss SS.pss) h
theorem s_ret (h : EE X e σ H D.rt) : S1 X (.Return (some e) pos) D σ H := s1_of (ps_ret EE.pe) h
theorem s_retN (h : D.rt .non H) : S1 X (.Return none pos) D σ H := s1_of ps_retN h
theorem s_expr (h : EE X e σ H fun _ H1 => D.nx σ H1) (hs : swapsWith e none pos.line X.env = pure false := by rfl) : S1 X (.Expr e pos) D σ H := s1_of (ps_expr EE.pe hs) h
theorem s_cont (h : D.ct σ H) : S1 X (.Continue pos) D σ H := s1_of ps_continue h
theorem s_brk (h : D.bk σ H) : S1 X (.Break pos) D σ H := s1_of ps_break h
theorem s_pass (h : D.nx σ H) : S1 X (.Pass pos) D σ H := s1_of ps_pass h
theorem s_for {tg iter : Expr} {body : List Stmt} (hp : PassesOwn (model X.prog X.w) X.A X.env X.xe) (hc : X.calm = true)
    (h : II X tg iter σ H fun J H1 => ∃ W : Nat → Nat → L2.St → Hp → Prop, (∃ m, W 0 m σ H1) ∧ ∀ i m σ H, W i m σ H →
      (J.stop i H ∧ D.nx σ H) ∨ (J.go i H ∧ ∃ N : L2.St → Hp → Prop, (∀ σ' H', N σ' H' → ∃ m', m' < m ∧ W (i + 1) m' σ' H') ∧ ∀ x H', J.yld i H x H' → GG X tg x σ H' fun σ2 H2 => SS X body { D with nx := N, ct := N, bk := D.nx } σ2 H2))
    (hs : ∀ x, foldedSetIterable iter X.env x = pure x := by intro _; rfl) : S1 X (.For tg iter body [] pos) D σ H := s1_of (ps_for hp hc II.pi GG.pg SS.pss hs) h
theorem s_while {body : List Stmt} (hp : PassesOwn (model X.prog X.w) X.A X.env X.xe) (h : ∃ W : Nat → L2.St → Hp → Prop, (∃ m, W m σ H) ∧ ∀ m σ H, W m σ H →
    BB X c σ H fun b H1 => if b = true then ∃ N : L2.St → Hp → Prop, (∀ σ' H', N σ' H' → ∃ m', m' < m ∧ W m' σ' H') ∧ SS X body { D with nx := N, ct := N, bk := D.nx } σ H1 else D.nx σ H1) : S1 X (.While c body [] pos) D σ H := s1_of (ps_while hp BB.pt SS.pss) h

/-! ### targets -/
theorem gg_name (i : Nat) {x : Str} {v : V} {Q : L2.St → Hp → Prop} (q : Q (σ.set i (some v)) H) (hN : X.N.Nodup) (hi : X.N[i]? = some x := by rfl) (hx : Loc X.env.scope x := by first | exact Or.inl rfl | exact Or.inr rfl)
    (hf : X.fn x = true ∨ X.env.scope.names.lookup x = some .local := by first | exact .inl rfl | exact .inr rfl) : GG X (.Name x pos) v σ H Q := gg_of (pg_name hN hi hx hf) q
theorem gg_sub {o i : Expr} {v : V} {Q : L2.St → Hp → Prop} (h : EE X o σ H fun o H1 => EE X i σ H1 fun i H2 => PSt X o i v H2 fun H3 => Q σ H3)
    (ha : ∀ v, assign (.Subscript o i pos) X.env v = (do
      let ov ← holding [v] (eval o X.env)
      let iv ← holding [v, ov] (eval i X.env)
      standAt pos
      holding [v, ov, iv] (setItem ov iv v)
      release [v, ov, iv] []) := by intro _; rfl) : GG X (.Subscript o i pos) v σ H Q := gg_of (pg_sub EE.pe EE.pe PSt.ps ha) h
theorem ggs_nil {Q : L2.St → Hp → Prop} (q : Q σ H) : GGs X [] [] σ H Q := ggs_of pgs_nil ⟨rfl, q⟩
theorem ggs_cons {v : V} {vs : List V} {Q : L2.St → Hp → Prop} (h : GG X e v σ H fun σ' H' => GGs X es vs σ' H' Q) (hs : (assignEach (e :: es) X.env).map (·.2) = assign e X.env :: (assignEach es X.env).map (·.2) := by rfl) : GGs X (e :: es) (v :: vs) σ H Q :=
  ggs_of (pgs_cons GG.pg GGs.pgs hs) ⟨v, vs, rfl, h⟩
theorem gg_tup {k n : Nat} {a : Addr} {xs : List V} {Q : L2.St → Hp → Prop} (hc : X.calm = true) (hq : SqT X.K H a xs) (h : GGs X es xs σ H Q) (hl : xs.length = n) (hn : (assignEach es X.env).length = n := by rfl) (hst : (assignEach es X.env).findIdx? (·.1) = none := by rfl) :
    GG X (.Tuple es k pos) (.ref a) σ H Q := gg_of (pg_tup hc GGs.pgs hn hst) ⟨a, xs, rfl, hq, hl, h⟩
end
end Sy
namespace Sy
open PySem PySem.Spec PyProof.Rows L2
abbrev s_is_integer : Stmt := topS 17
abbrev N_is_integer : List Str := ["value"]
theorem sc_is_integer : FnScope N_is_integer ["value"] (defScope s_is_integer) := ⟨rfl, rfl, rfl, by decide +kernel, rfl, by decide +kernel, by decide +kernel⟩
abbrev s_is_below : Stmt := topS 18
abbrev N_is_below : List Str := ["value", "bound"]
theorem sc_is_below : FnScope N_is_below ["value", "bound"] (defScope s_is_below) := ⟨rfl, rfl, rfl, by decide +kernel, rfl, by decide +kernel, by decide +kernel⟩
abbrev s_power : Stmt := topS 19
abbrev N_power : List Str := ["base", "exponent", "total", "_"]
theorem sc_power : FnScope N_power ["base", "exponent"] (defScope s_power) := ⟨rfl, rfl, rfl, by decide +kernel, rfl, by decide +kernel, by decide +kernel⟩
abbrev s_rows_of : Stmt := topS 20
abbrev N_rows_of : List Str := ["size", "many", "rows", "_", "row", "number"]
theorem sc_rows_of : FnScope N_rows_of ["size", "many"] (defScope s_rows_of) := ⟨rfl, rfl, rfl, by decide +kernel, rfl, by decide +kernel, by decide +kernel⟩
abbrev s_is_name : Stmt := topS 21
abbrev N_is_name : List Str := ["text", "sign"]
theorem sc_is_name : FnScope N_is_name ["text"] (defScope s_is_name) := ⟨rfl, rfl, rfl, by decide +kernel, rfl, by decide +kernel, by decide +kernel⟩
abbrev s_is_row : Stmt := topS 22
abbrev N_is_row : List Str := ["value", "size", "many", "number"]
theorem sc_is_row : FnScope N_is_row ["value", "size", "many"] (defScope s_is_row) := ⟨rfl, rfl, rfl, by decide +kernel, rfl, by decide +kernel, by decide +kernel⟩
abbrev s_checked : Stmt := topS 23
abbrev N_checked : List Str := ["size", "relation", "row", "name", "arity", "rows"]
theorem sc_checked : FnScope N_checked ["size", "relation"] (defScope s_checked) := ⟨rfl, rfl, rfl, by decide +kernel, rfl, by decide +kernel, by decide +kernel⟩
abbrev s_Structure_init : Stmt := inClass (topS 24) 0
abbrev N_Structure_init : List Str := ["self", "size", "relations", "kept", "relation", "name", "_"]
theorem sc_Structure_init : FnScope N_Structure_init ["self", "size", "relations"] (defScope s_Structure_init) := ⟨rfl, rfl, rfl, by decide +kernel, rfl, by decide +kernel, by decide +kernel⟩
abbrev s_Structure_eq : Stmt := inClass (topS 24) 1
abbrev N_Structure_eq : List Str := ["self", "other"]
theorem sc_Structure_eq : FnScope N_Structure_eq ["self", "other"] (defScope s_Structure_eq) := ⟨rfl, rfl, rfl, by decide +kernel, rfl, by decide +kernel, by decide +kernel⟩
abbrev s_Structure_renamed : Stmt := inClass (topS 24) 5
abbrev N_Structure_renamed : List Str := ["self", "permutation", "relations", "at", "element", "name", "arity", "rows", "turned", "row"]
theorem sc_Structure_renamed : FnScope N_Structure_renamed ["self", "permutation"] (defScope s_Structure_renamed) := ⟨rfl, rfl, rfl, by decide +kernel, rfl, by decide +kernel, by decide +kernel⟩
abbrev s_Structure_symbols : Stmt := inClass (topS 24) 6
abbrev N_Structure_symbols : List Str := ["self", "name", "arity", "_"]
theorem sc_Structure_symbols : FnScope N_Structure_symbols ["self"] (defScope s_Structure_symbols) := ⟨rfl, rfl, rfl, by decide +kernel, rfl, by decide +kernel, by decide +kernel⟩
abbrev s_inner : Stmt := topS 34
abbrev N_inner : List Str := ["formula", "word"]
theorem sc_inner : FnScope N_inner ["formula"] (defScope s_inner) := ⟨rfl, rfl, rfl, by decide +kernel, rfl, by decide +kernel, by decide +kernel⟩
abbrev s_own_variables : Stmt := topS 35
abbrev N_own_variables : List Str := ["formula"]
theorem sc_own_variables : FnScope N_own_variables ["formula"] (defScope s_own_variables) := ⟨rfl, rfl, rfl, by decide +kernel, rfl, by decide +kernel, by decide +kernel⟩
abbrev s_own_name : Stmt := topS 36
abbrev N_own_name : List Str := ["formula"]
theorem sc_own_name : FnScope N_own_name ["formula"] (defScope s_own_name) := ⟨rfl, rfl, rfl, by decide +kernel, rfl, by decide +kernel, by decide +kernel⟩
abbrev s_own_arguments : Stmt := topS 37
abbrev N_own_arguments : List Str := ["formula", "word"]
theorem sc_own_arguments : FnScope N_own_arguments ["formula"] (defScope s_own_arguments) := ⟨rfl, rfl, rfl, by decide +kernel, rfl, by decide +kernel, by decide +kernel⟩
abbrev s_are_names : Stmt := topS 38
abbrev N_are_names : List Str := ["value", "least", "most", "name"]
theorem sc_are_names : FnScope N_are_names ["value", "least", "most"] (defScope s_are_names) := ⟨rfl, rfl, rfl, by decide +kernel, rfl, by decide +kernel, by decide +kernel⟩
abbrev s_are_variables : Stmt := topS 39
abbrev N_are_variables : List Str := ["value", "least", "most"]
theorem sc_are_variables : FnScope N_are_variables ["value", "least", "most"] (defScope s_are_variables) := ⟨rfl, rfl, rfl, by decide +kernel, rfl, by decide +kernel, by decide +kernel⟩
abbrev s_is_well_made : Stmt := topS 40
abbrev N_is_well_made : List Str := ["formula", "word"]
theorem sc_is_well_made : FnScope N_is_well_made ["formula"] (defScope s_is_well_made) := ⟨rfl, rfl, rfl, by decide +kernel, rfl, by decide +kernel, by decide +kernel⟩
abbrev s_Look_init : Stmt := inClass (topS 41) 0
abbrev N_Look_init : List Str := ["self"]
theorem sc_Look_init : FnScope N_Look_init ["self"] (defScope s_Look_init) := ⟨rfl, rfl, rfl, by decide +kernel, rfl, by decide +kernel, by decide +kernel⟩
abbrev s_Look_rel : Stmt := inClass (topS 41) 1
abbrev N_Look_rel : List Str := ["self", "name", "arity", "bound"]
theorem sc_Look_rel : FnScope N_Look_rel ["self", "name", "arity", "bound"] (defScope s_Look_rel) := ⟨rfl, rfl, rfl, by decide +kernel, rfl, by decide +kernel, by decide +kernel⟩
abbrev s_Look_go : Stmt := inClass (topS 41) 2
abbrev N_Look_go : List Str := ["self", "formula", "bound", "deep", "own", "part"]
theorem sc_Look_go : FnScope N_Look_go ["self", "formula", "bound", "deep"] (defScope s_Look_go) := ⟨rfl, rfl, rfl, by decide +kernel, rfl, by decide +kernel, by decide +kernel⟩
abbrev s_agrees : Stmt := topS 42
abbrev N_agrees : List Str := ["formula", "name", "even", "own", "part"]
theorem sc_agrees : FnScope N_agrees ["formula", "name", "even"] (defScope s_agrees) := ⟨rfl, rfl, rfl, by decide +kernel, rfl, by decide +kernel, by decide +kernel⟩
abbrev s_occurs : Stmt := topS 43
abbrev N_occurs : List Str := ["formula", "name", "own", "part"]
theorem sc_occurs : FnScope N_occurs ["formula", "name"] (defScope s_occurs) := ⟨rfl, rfl, rfl, by decide +kernel, rfl, by decide +kernel, by decide +kernel⟩
abbrev s_looked : Stmt := topS 44
abbrev N_looked : List Str := ["formula", "look"]
theorem sc_looked : FnScope N_looked ["formula"] (defScope s_looked) := ⟨rfl, rfl, rfl, by decide +kernel, rfl, by decide +kernel, by decide +kernel⟩
abbrev s_free_of : Stmt := topS 45
abbrev N_free_of : List Str := ["formula", "found", "part", "name"]
theorem sc_free_of : FnScope N_free_of ["formula"] (defScope s_free_of) := ⟨rfl, rfl, rfl, by decide +kernel, rfl, by decide +kernel, by decide +kernel⟩
abbrev s_doubled : Stmt := topS 50
abbrev N_doubled : List Str := ["exponent", "total", "_"]
theorem sc_doubled : FnScope N_doubled ["exponent"] (defScope s_doubled) := ⟨rfl, rfl, rfl, by decide +kernel, rfl, by decide +kernel, by decide +kernel⟩
abbrev s_cost_of : Stmt := topS 51
abbrev N_cost_of : List Str := ["formula", "n", "total", "word", "many", "part"]
theorem sc_cost_of : FnScope N_cost_of ["formula", "n"] (defScope s_cost_of) := ⟨rfl, rfl, rfl, by decide +kernel, rfl, by decide +kernel, by decide +kernel⟩
abbrev s_is_wide : Stmt := topS 52
abbrev N_is_wide : List Str := ["formula", "n", "word", "part"]
theorem sc_is_wide : FnScope N_is_wide ["formula", "n"] (defScope s_is_wide) := ⟨rfl, rfl, rfl, by decide +kernel, rfl, by decide +kernel, by decide +kernel⟩
abbrev s_check_fitting : Stmt := topS 53
abbrev N_check_fitting : List Str := ["found", "structure", "known", "name"]
theorem sc_check_fitting : FnScope N_check_fitting ["found", "structure"] (defScope s_check_fitting) := ⟨rfl, rfl, rfl, by decide +kernel, rfl, by decide +kernel, by decide +kernel⟩
abbrev s_check_cost : Stmt := topS 54
abbrev N_check_cost : List Str := ["formula", "n"]
theorem sc_check_cost : FnScope N_check_cost ["formula", "n"] (defScope s_check_cost) := ⟨rfl, rfl, rfl, by decide +kernel, rfl, by decide +kernel, by decide +kernel⟩
abbrev s_relations_of : Stmt := topS 55
abbrev N_relations_of : List Str := ["structure", "found", "name", "_", "rows"]
theorem sc_relations_of : FnScope N_relations_of ["structure"] (defScope s_relations_of) := ⟨rfl, rfl, rfl, by decide +kernel, rfl, by decide +kernel, by decide +kernel⟩
abbrev s_keys_of : Stmt := topS 56
abbrev N_keys_of : List Str := ["rows", "row"]
theorem sc_keys_of : FnScope N_keys_of ["rows"] (defScope s_keys_of) := ⟨rfl, rfl, rfl, by decide +kernel, rfl, by decide +kernel, by decide +kernel⟩
abbrev s_World_init : Stmt := inClass (topS 57) 0
abbrev N_World_init : List Str := ["self", "size", "relations"]
theorem sc_World_init : FnScope N_World_init ["self", "size", "relations"] (defScope s_World_init) := ⟨rfl, rfl, rfl, by decide +kernel, rfl, by decide +kernel, by decide +kernel⟩
abbrev s_World_with_name : Stmt := inClass (topS 57) 1
abbrev N_World_with_name : List Str := ["self", "name", "rows", "relations"]
theorem sc_World_with_name : FnScope N_World_with_name ["self", "name", "rows"] (defScope s_World_with_name) := ⟨rfl, rfl, rfl, by decide +kernel, rfl, by decide +kernel, by decide +kernel⟩
abbrev s_World_true : Stmt := inClass (topS 57) 2
abbrev N_World_true : List Str := ["self", "formula", "values", "word", "fixed", "name"]
theorem sc_World_true : FnScope N_World_true ["self", "formula", "values"] (defScope s_World_true) := ⟨rfl, rfl, rfl, by decide +kernel, rfl, by decide +kernel, by decide +kernel⟩
abbrev s_World_joined : Stmt := inClass (topS 57) 3
abbrev N_World_joined : List Str := ["self", "formula", "values", "sign", "part"]
theorem sc_World_joined : FnScope N_World_joined ["self", "formula", "values"] (defScope s_World_joined) := ⟨rfl, rfl, rfl, by decide +kernel, rfl, by decide +kernel, by decide +kernel⟩
abbrev s_World_ranged : Stmt := inClass (topS 57) 4
abbrev N_World_ranged : List Str := ["self", "formula", "values", "sign", "names", "here", "row", "_", "name", "element"]
theorem sc_World_ranged : FnScope N_World_ranged ["self", "formula", "values"] (defScope s_World_ranged) := ⟨rfl, rfl, rfl, by decide +kernel, rfl, by decide +kernel, by decide +kernel⟩
abbrev s_World_stage : Stmt := inClass (topS 57) 5
abbrev N_World_stage : List Str := ["self", "body", "names", "values", "here", "found", "row", "name", "element"]
theorem sc_World_stage : FnScope N_World_stage ["self", "body", "names", "values"] (defScope s_World_stage) := ⟨rfl, rfl, rfl, by decide +kernel, rfl, by decide +kernel, by decide +kernel⟩
abbrev s_World_fixed : Stmt := inClass (topS 57) 6
abbrev N_World_fixed : List Str := ["self", "formula", "values", "now", "seen", "word", "name", "names", "body", "_", "after", "key"]
theorem sc_World_fixed : FnScope N_World_fixed ["self", "formula", "values"] (defScope s_World_fixed) := ⟨rfl, rfl, rfl, by decide +kernel, rfl, by decide +kernel, by decide +kernel⟩
abbrev s_World_guessed : Stmt := inClass (topS 57) 7
abbrev N_World_guessed : List Str := ["self", "formula", "values", "rows", "mask", "_", "name", "arity", "body", "chosen", "at", "row"]
theorem sc_World_guessed : FnScope N_World_guessed ["self", "formula", "values"] (defScope s_World_guessed) := ⟨rfl, rfl, rfl, by decide +kernel, rfl, by decide +kernel, by decide +kernel⟩
abbrev s_World_reached : Stmt := inClass (topS 57) 8
abbrev N_World_reached : List Str := ["self", "formula", "values", "half", "here", "ends", "goal", "seen", "queue", "rows", "at", "_", "names", "body", "arguments", "row", "name", "element"]
theorem sc_World_reached : FnScope N_World_reached ["self", "formula", "values"] (defScope s_World_reached) := ⟨rfl, rfl, rfl, by decide +kernel, rfl, by decide +kernel, by decide +kernel⟩
abbrev s_following : Stmt := topS 58
abbrev N_following : List Str := ["row", "size", "at"]
theorem sc_following : FnScope N_following ["row", "size"] (defScope s_following) := ⟨rfl, rfl, rfl, by decide +kernel, rfl, by decide +kernel, by decide +kernel⟩
abbrev s_check_values : Stmt := topS 59
abbrev N_check_values : List Str := ["formula", "structure", "values", "name"]
theorem sc_check_values : FnScope N_check_values ["formula", "structure", "values"] (defScope s_check_values) := ⟨rfl, rfl, rfl, by decide +kernel, rfl, by decide +kernel, by decide +kernel⟩
abbrev s_holds : Stmt := topS 60
abbrev N_holds : List Str := ["formula", "structure", "values", "look"]
theorem sc_holds : FnScope N_holds ["formula", "structure", "values"] (defScope s_holds) := ⟨rfl, rfl, rfl, by decide +kernel, rfl, by decide +kernel, by decide +kernel⟩
abbrev s_query : Stmt := topS 61
abbrev N_query : List Str := ["formula", "structure", "names", "look", "name", "many", "world"]
theorem sc_query : FnScope N_query ["formula", "structure", "names"] (defScope s_query) := ⟨rfl, rfl, rfl, by decide +kernel, rfl, by decide +kernel, by decide +kernel⟩
abbrev s_L_mixed : Stmt := topS 63
abbrev N_L_mixed : List Str := ["_law_number", "_law_k", "_law_step"]
theorem sc_L_mixed : FnScope N_L_mixed ["_law_number", "_law_k"] (defScope s_L_mixed) := ⟨rfl, rfl, rfl, by decide +kernel, rfl, by decide +kernel, by decide +kernel⟩
abbrev s_L_numbers : Stmt := topS 64
abbrev N_L_numbers : List Str := ["_law_script", "_law_numbers_here", "_law_cell", "_law_rest", "_law_k"]
theorem sc_L_numbers : FnScope N_L_numbers ["_law_script"] (defScope s_L_numbers) := ⟨rfl, rfl, rfl, by decide +kernel, rfl, by decide +kernel, by decide +kernel⟩
abbrev s_L_draw : Stmt := topS 65
abbrev N_L_draw : List Str := ["_law_draws", "_law_at", "_law_first"]
theorem sc_L_draw : FnScope N_L_draw ["_law_draws"] (defScope s_L_draw) := ⟨rfl, rfl, rfl, by decide +kernel, rfl, by decide +kernel, by decide +kernel⟩
abbrev s_L_equal : Stmt := topS 66
abbrev N_L_equal : List Str := ["_law_actual", "_law_due"]
theorem sc_L_equal : FnScope N_L_equal ["_law_actual", "_law_due"] (defScope s_L_equal) := ⟨rfl, rfl, rfl, by decide +kernel, rfl, by decide +kernel, by decide +kernel⟩
abbrev s_L_all_equal : Stmt := topS 67
abbrev N_L_all_equal : List Str := ["_law_actual", "_law_due", "_law_k"]
theorem sc_L_all_equal : FnScope N_L_all_equal ["_law_actual", "_law_due"] (defScope s_L_all_equal) := ⟨rfl, rfl, rfl, by decide +kernel, rfl, by decide +kernel, by decide +kernel⟩
abbrev s_L_some_of : Stmt := topS 68
abbrev N_L_some_of : List Str := ["_law_draws", "_law_pool", "_law_many", "_law_left", "_law_chosen", "_law_k"]
theorem sc_L_some_of : FnScope N_L_some_of ["_law_draws", "_law_pool", "_law_many"] (defScope s_L_some_of) := ⟨rfl, rfl, rfl, by decide +kernel, rfl, by decide +kernel, by decide +kernel⟩
abbrev s_L_atom : Stmt := topS 69
abbrev N_L_atom : List Str := ["_law_draws", "_law_pool", "_law_names_here", "_law_usable", "_law_pick", "_law_word", "_law_one", "_law_k"]
theorem sc_L_atom : FnScope N_L_atom ["_law_draws", "_law_pool", "_law_names_here"] (defScope s_L_atom) := ⟨rfl, rfl, rfl, by decide +kernel, rfl, by decide +kernel, by decide +kernel⟩
abbrev s_L_within : Stmt := topS 70
abbrev N_L_within : List Str := ["_law_names_here", "_law_name", "_law_arity", "_law_mode", "_law_one"]
theorem sc_L_within : FnScope N_L_within ["_law_names_here", "_law_name", "_law_arity", "_law_mode"] (defScope s_L_within) := ⟨rfl, rfl, rfl, by decide +kernel, rfl, by decide +kernel, by decide +kernel⟩
abbrev s_L_turned : Stmt := topS 71
abbrev N_L_turned : List Str := ["_law_names_here", "_law_one"]
theorem sc_L_turned : FnScope N_L_turned ["_law_names_here"] (defScope s_L_turned) := ⟨rfl, rfl, rfl, by decide +kernel, rfl, by decide +kernel, by decide +kernel⟩
abbrev s_L_barred : Stmt := topS 72
abbrev N_L_barred : List Str := ["_law_names_here", "_law_one"]
theorem sc_L_barred : FnScope N_L_barred ["_law_names_here"] (defScope s_L_barred) := ⟨rfl, rfl, rfl, by decide +kernel, rfl, by decide +kernel, by decide +kernel⟩
abbrev s_L_bound : Stmt := topS 73
abbrev N_L_bound : List Str := ["_law_draws", "_law_deep", "_law_pool", "_law_names_here", "_law_kinds", "_law_pick", "_law_args", "_law_given", "_law_name", "_law_arity", "_law_inner", "_law_x"]
theorem sc_L_bound : FnScope N_L_bound ["_law_draws", "_law_deep", "_law_pool", "_law_names_here", "_law_kinds"] (defScope s_L_bound) := ⟨rfl, rfl, rfl, by decide +kernel, rfl, by decide +kernel, by decide +kernel⟩
abbrev s_L_formula : Stmt := topS 74
abbrev N_L_formula : List Str := ["_law_draws", "_law_deep", "_law_pool", "_law_names_here", "_law_kinds", "_law_pick", "_law_word", "_law_many", "_law_k"]
theorem sc_L_formula : FnScope N_L_formula ["_law_draws", "_law_deep", "_law_pool", "_law_names_here", "_law_kinds"] (defScope s_L_formula) := ⟨rfl, rfl, rfl, by decide +kernel, rfl, by decide +kernel, by decide +kernel⟩
abbrev s_L_names : Stmt := topS 75
abbrev N_L_names : List Str := ["_law_draws"]
theorem sc_L_names : FnScope N_L_names ["_law_draws"] (defScope s_L_names) := ⟨rfl, rfl, rfl, by decide +kernel, rfl, by decide +kernel, by decide +kernel⟩
abbrev s_L_parts : Stmt := topS 76
abbrev N_L_parts : List Str := ["_law_f"]
theorem sc_L_parts : FnScope N_L_parts ["_law_f"] (defScope s_L_parts) := ⟨rfl, rfl, rfl, by decide +kernel, rfl, by decide +kernel, by decide +kernel⟩
abbrev s_L_bound_here : Stmt := topS 77
abbrev N_L_bound_here : List Str := ["_law_f"]
theorem sc_L_bound_here : FnScope N_L_bound_here ["_law_f"] (defScope s_L_bound_here) := ⟨rfl, rfl, rfl, by decide +kernel, rfl, by decide +kernel, by decide +kernel⟩
abbrev s_L_tuples : Stmt := topS 78
abbrev N_L_tuples : List Str := ["_law_n", "_law_width", "_law_rows", "_law_k", "_law_longer", "_law_row", "_law_x"]
theorem sc_L_tuples : FnScope N_L_tuples ["_law_n", "_law_width"] (defScope s_L_tuples) := ⟨rfl, rfl, rfl, by decide +kernel, rfl, by decide +kernel, by decide +kernel⟩
abbrev s_L_cost : Stmt := topS 79
abbrev N_L_cost : List Str := ["_law_f", "_law_n", "_law_inner", "_law_power", "_law_x", "_law_k", "_law_part"]
theorem sc_L_cost : FnScope N_L_cost ["_law_f", "_law_n"] (defScope s_L_cost) := ⟨rfl, rfl, rfl, by decide +kernel, rfl, by decide +kernel, by decide +kernel⟩
abbrev s_L_subset : Stmt := topS 80
abbrev N_L_subset : List Str := ["_law_draws", "_law_rows", "_law_kind", "_law_row"]
theorem sc_L_subset : FnScope N_L_subset ["_law_draws", "_law_rows"] (defScope s_L_subset) := ⟨rfl, rfl, rfl, by decide +kernel, rfl, by decide +kernel, by decide +kernel⟩
abbrev s_L_world : Stmt := topS 81
abbrev N_L_world : List Str := ["_law_draws", "_law_n", "_law_signs", "_law_name", "_law_arity"]
theorem sc_L_world : FnScope N_L_world ["_law_draws", "_law_n"] (defScope s_L_world) := ⟨rfl, rfl, rfl, by decide +kernel, rfl, by decide +kernel, by decide +kernel⟩
abbrev s_L_no_less : Stmt := topS 82
abbrev N_L_no_less : List Str := ["_law_f", "_law_part"]
theorem sc_L_no_less : FnScope N_L_no_less ["_law_f"] (defScope s_L_no_less) := ⟨rfl, rfl, rfl, by decide +kernel, rfl, by decide +kernel, by decide +kernel⟩
abbrev s_L_lists : Stmt := topS 83
abbrev N_L_lists : List Str := ["_law_relations", "_law_name", "_law_arity", "_law_rows"]
theorem sc_L_lists : FnScope N_L_lists ["_law_relations"] (defScope s_L_lists) := ⟨rfl, rfl, rfl, by decide +kernel, rfl, by decide +kernel, by decide +kernel⟩
abbrev s_L_valued : Stmt := topS 84
abbrev N_L_valued : List Str := ["_law_row"]
theorem sc_L_valued : FnScope N_L_valued ["_law_row"] (defScope s_L_valued) := ⟨rfl, rfl, rfl, by decide +kernel, rfl, by decide +kernel, by decide +kernel⟩
abbrev s_law : Stmt := topS 85
abbrev N_law : List Str := ["_law_script", "_law_draws", "_law_n", "_law_world_here", "_law_structure", "_law_permutation", "_law_other", "_law_kinds", "_law_turn", "_law_f", "_law_values", "_law_turned_here", "_law_rows", "_law_due", "_law_k", "_law_row", "_law_image", "_law_x"]
theorem sc_law : FnScope N_law ["_law_script"] (defScope s_law) := ⟨rfl, rfl, rfl, by decide +kernel, rfl, by decide +kernel, by decide +kernel⟩
end Sy
namespace Sy
open PySem PySem.Spec PyProof.Rows L2

/-! ### heaps that grow; the list of the draws alone moves on -/
def NotDraw (o : HO) : Prop := ∀ N i, o ≠ .lst [.ref N, .int i]
def Draws (K : PySem.W.Frag) (D N : Addr) (ns : List Int) (H : Hp) : Prop :=
  ∃ i : Int, H D = some (.lst [.ref N, .int i]) ∧ SqL K H N (ns.map V.int) ∧ (∀ n ∈ ns, 0 ≤ n ∧ n < 1000000) ∧ 0 ≤ i
structure Ex (K : PySem.W.Frag) (H H' : Hp) : Prop where
  keep : ∀ b o, NotDraw o → H b = some o → H' b = some o
  dr : ∀ D N ns, Draws K D N ns H → Draws K D N ns H'
  there : ∀ b, H' b = none → H b = none
section
variable {K : PySem.W.Frag} {H H' H1 H2 : Hp} {a b p : Addr} {o : HO} {xs : List V}
theorem Ex.refl : Ex K H H := ⟨fun _ _ _ h => h, fun _ _ _ h => h, fun _ h => h⟩
theorem Ex.trans (e : Ex K H H1) (f : Ex K H1 H2) : Ex K H H2 := ⟨fun b o n h => f.keep b o n (e.keep b o n h), fun D N ns h => f.dr D N ns (e.dr D N ns h), fun b h => e.there b (f.there b h)⟩
theorem nd_tup : NotDraw (.tup xs) := fun _ _ e => nomatch e
theorem nd_frz {o : Obj} {u : HO} : NotDraw (.frz o u) := fun _ _ e => nomatch e
theorem nd_dK {kvs} : NotDraw (.dK kvs) := fun _ _ e => nomatch e
theorem nd_dT {kvs} : NotDraw (.dT kvs) := fun _ _ e => nomatch e
theorem nd_ins {C dx fs} : NotDraw (.ins C dx fs) := fun _ _ e => nomatch e
theorem nd_own {x} : NotDraw (.own x) := fun _ _ e => nomatch e
theorem nd_ext {φ} : NotDraw (.ext φ) := fun _ _ e => nomatch e
theorem nd_len (h : xs.length ≠ 2) : NotDraw (.lst xs) := fun _ _ e => h (by injection e with e; rw [e]; rfl)
theorem nd_ints {ns : List Int} : NotDraw (.lst (ns.map V.int)) := fun _ _ e => by
  injection e with e
  cases ns with
  | nil => cases e
  | cons n r => rw [List.map_cons] at e; injection e with e _; cases e
theorem nd_strs {ns : List Str} : NotDraw (.lst (ns.map V.str)) := fun _ _ e => by
  injection e with e
  cases ns with
  | nil => cases e
  | cons n r => rw [List.map_cons] at e; injection e with e _; cases e
theorem nd_refs {ns : List Addr} : NotDraw (.lst (ns.map V.ref)) := fun _ _ e => by
  injection e with e
  cases ns with
  | nil => cases e
  | cons n r =>
    rw [List.map_cons] at e
    injection e with _ e
    cases r with
    | nil => cases e
    | cons m r => rw [List.map_cons] at e; injection e with e _; cases e
theorem Ex.t (e : Ex K H H') (h : SqT K H a xs) : SqT K H' a xs := by
  rcases h with (h | ⟨o, h⟩) | h
  · exact .inl (.inl (e.keep _ _ nd_tup h))
  · exact .inl (.inr ⟨o, e.keep _ _ nd_frz h⟩)
  · exact .inr h
theorem Ex.l (e : Ex K H H') (n : NotDraw (.lst xs)) (h : SqL K H a xs) : SqL K H' a xs := by
  rcases h with (h | ⟨o, h⟩) | h
  · exact .inl (.inl (e.keep _ _ n h))
  · exact .inl (.inr ⟨o, e.keep _ _ nd_frz h⟩)
  · exact .inr h
theorem Ex.tr (e : Ex K H H') {xs : List V} (h : H a = some (.tup xs)) : H' a = some (.tup xs) := e.keep _ _ nd_tup h
/-- a thing that H did not know is laid or changed -/
theorem Ex.mut (e : Ex K H H1) (h : H p = none) : Ex K H (upd H1 p o) := by
  refine ⟨fun b u n q => ?_, fun D N ns q => ?_, fun b q => ?_⟩
  · rw [upd_ne (ne_of_none q h)]
    exact e.keep b u n q
  · obtain ⟨i0, q0, l0, _⟩ := id q
    obtain ⟨i, q1, l1, r⟩ := e.dr D N ns q
    refine ⟨i, ?_, ?_, r⟩
    · rw [upd_ne (ne_of_none q0 h)]
      exact q1
    · rcases l0 with (l0 | ⟨o0, l0⟩) | l0
      · refine .inl (.inl ?_)
        rw [upd_ne (ne_of_none l0 h)]
        exact e.keep _ _ nd_ints l0
      · refine .inl (.inr ⟨o0, ?_⟩)
        rw [upd_ne (ne_of_none l0 h)]
        exact e.keep _ _ nd_frz l0
      · exact .inr l0
  · by_cases hb : b = p
    · rw [hb]; exact h
    · rw [upd_ne hb] at q; exact e.there b q
theorem Ex.new (h : H p = none) : Ex K H (upd H p o) := Ex.refl.mut h
/-- one's own thing, made behind H, is changed -/
theorem Ex.upd2 (e : Ex K H H1) (f : Ex K H1 H2) (h : H p = none) : Ex K H (upd H2 p o) := (e.trans f).mut h
end
def P : Program := PySem.Challenge.pw_sayso_k18_whole_renaming_keeps_meaning

/-! ### defs as they are called -/
section
variable (w : World) (K : PySem.W.Frag) (mg : Str → Option Value) (base : Heap)
/-- the def x keeps the promise sp, at the level k -/
structure Dn (x : Str) (k : Nat) (sp : Sp) : Prop where
  ex : ∃ (f : Addr) (fd : FuncData) (ps : List Str), FnOk P w K mg base CX0 k f fd ps sp ∧ mg x = some (.ref f) ∧ PySem.W.keepIn K (.ref f) = true ∧ Binds K fd ps []
/-- the method m of the class at C -/
structure Dm (C : Addr) (m : Str) (k : Nat) (sp : Sp) : Prop where
  ex : ∃ (f : Addr) (fd : FuncData) (ps : List Str), FnOk P w K mg base CX0 k f fd ps sp ∧ Meth K C m f ∧ Binds K fd ps []
/-- the class x at C made by its __init__ -/
structure Dk (x : Str) (C : Addr) (k : Nat) (sp : Sp) : Prop where
  ex : ∃ (f : Addr) (fd : FuncData) (ps : List Str), FnOk P w K mg base CX0 k f fd ps sp ∧ Mk K C f ∧ mg x = some (.ref C) ∧ Binds K fd ps []
end
section
variable {w : World} {K : PySem.W.Frag} {mg : Str → Option Value} {base : Heap} {X : Cx} {σ : L2.St} {H : Hp} {Q : VK} {e o : Expr} {es : List Expr} {pos p apos : Pos} {x m : Str} {k : Nat} {sp : Sp} {C : Addr}
theorem Dn.mono {j : Nat} (d : Dn w K mg base x j sp) (h : j ≤ k) : Dn w K mg base x k sp := let ⟨f, fd, ps, F, r⟩ := d.ex; ⟨f, fd, ps, F.mono h, r⟩
theorem Dm.mono {j : Nat} (d : Dm w K mg base C m j sp) (h : j ≤ k) : Dm w K mg base C m k sp := let ⟨f, fd, ps, F, r⟩ := d.ex; ⟨f, fd, ps, F.mono h, r⟩
theorem ee_call (d : Dn X.w X.K X.mg X.base x k sp) (hP : X.prog = P) (hr : Room k X.A) (h : AA X (e :: es) σ H fun vs H1 => sp vs H1 Q E0) (hg : Gl X x := by rfl) (hdb : (x == ("__debug__" : Str)) = false := by decide)
    (he : starEach (e :: es) X.env = (false, eval e X.env) :: starEach es X.env := by rfl) (hpl : (backTo pos (starEach es X.env)).any (·.1) = false := by rfl) : EE X (.Call (.Name x p) (e :: es) [] pos) σ H Q := by
  obtain ⟨f, fd, ps, F, hm, hk, hb⟩ := d.ex
  rw [← hP] at F
  refine ee_of (pe_call (E := E0) F hr hg hm hk hb .nil pass0 AA.pa hdb he hpl) ?_
  show AA X (e :: es) σ H fun vs H1 => sp (vs ++ []) H1 Q E0
  simpa only [List.append_nil] using h
theorem ee_meth {pl : Sem Bool} (d : Dm X.w X.K X.mg X.base C m k sp) (c : Cls X.K C) (hP : X.prog = P) (hr : Room k X.A)
    (h : EE X o σ H fun x H1 => ∃ a dx fs, x = .ref a ∧ H1 a = some (.ins C dx fs) ∧ fs.lookup m = none ∧ AA X (e :: es) σ H1 fun vs H2 => sp (x :: vs) H2 Q E0)
    (hst : starEach (e :: es) X.env = (false, eval e X.env) :: starEach es X.env := by rfl) (hpl : (backTo pos (starEach es X.env)).any (·.1) = false := by rfl)
    (ht : eval (.Call (.Attribute o m apos) (e :: es) [] pos) X.env = (do
      let ov ← eval o X.env
      standAt apos.atName
      let (f, first) ← holding [ov] (getMethod ov m pl)
      callWith pos f first (backTo pos (starEach (e :: es) X.env)) (backToKw pos (keywordEach [] X.env))) := by rfl) : EE X (.Call (.Attribute o m apos) (e :: es) [] pos) σ H Q := by
  obtain ⟨f, fd, ps, F, hm, hb⟩ := d.ex
  rw [← hP] at F
  refine ee_of (pe_meth (E := E0) EE.pe c hm F hr hb .nil pass0 AA.pa hst hpl ht) ?_
  show EE X o σ H fun x H1 => ∃ a dx fs, x = .ref a ∧ H1 a = some (.ins C dx fs) ∧ fs.lookup m = none ∧ AA X (e :: es) σ H1 fun vs H2 => sp (x :: (vs ++ [])) H2 Q E0
  simpa only [List.append_nil] using h
theorem ee_meth0 {pl : Sem Bool} (d : Dm X.w X.K X.mg X.base C m k sp) (c : Cls X.K C) (hP : X.prog = P) (hr : Room k X.A)
    (h : EE X o σ H fun x H1 => ∃ a dx fs, x = .ref a ∧ H1 a = some (.ins C dx fs) ∧ fs.lookup m = none ∧ sp [x] H1 Q E0)
    (ht : eval (.Call (.Attribute o m apos) [] [] pos) X.env = (do
      let ov ← eval o X.env
      standAt apos.atName
      let (f, first) ← holding [ov] (getMethod ov m pl)
      callWith pos f first (backTo pos (starEach [] X.env)) (backToKw pos (keywordEach [] X.env))) := by rfl) : EE X (.Call (.Attribute o m apos) [] [] pos) σ H Q := by
  obtain ⟨f, fd, ps, F, hm, hb⟩ := d.ex
  rw [← hP] at F
  exact ee_of (pe_meth0 (E := E0) EE.pe c hm F hr hb .nil pass0 ht) h
theorem ee_make (d : Dk X.w X.K X.mg X.base x C k sp) (hP : X.prog = P) (hr : Room (k + 1) X.A)
    (h : AA X (e :: es) σ H fun vs H1 => ∀ x dx, H1 x = none → H1 dx = none → dx ≠ x → sp (.ref x :: vs) (upd (upd H1 dx (.own x)) x (.ins C dx [])) (fun v H2 => v = .non ∧ Q (.ref x) H2) E0) (hg : Gl X x := by rfl) (hdb : (x == ("__debug__" : Str)) = false := by decide)
    (he : starEach (e :: es) X.env = (false, eval e X.env) :: starEach es X.env := by rfl) (hpl : (backTo pos (starEach es X.env)).any (·.1) = false := by rfl) : EE X (.Call (.Name x p) (e :: es) [] pos) σ H Q := by
  obtain ⟨f, fd, ps, F, M, hm, hb⟩ := d.ex
  rw [← hP] at F
  refine ee_of (pe_make (E := E0) M F hr hg hm hb .nil pass0 AA.pa hdb he hpl) ?_
  show AA X (e :: es) σ H fun vs H1 => ∀ x dx, H1 x = none → H1 dx = none → dx ≠ x → sp (.ref x :: (vs ++ [])) (upd (upd H1 dx (.own x)) x (.ins C dx [])) (fun v H2 => v = .non ∧ Q (.ref x) H2) E0
  simpa only [List.append_nil] using h
theorem ee_make0 (d : Dk X.w X.K X.mg X.base x C k sp) (hP : X.prog = P) (hr : Room (k + 1) X.A)
    (h : ∀ x dx, H x = none → H dx = none → dx ≠ x → sp [.ref x] (upd (upd H dx (.own x)) x (.ins C dx [])) (fun v H2 => v = .non ∧ Q (.ref x) H2) E0) (hg : Gl X x := by rfl) (hdb : (x == ("__debug__" : Str)) = false := by decide) : EE X (.Call (.Name x p) [] [] pos) σ H Q := by
  obtain ⟨f, fd, ps, F, M, hm, hb⟩ := d.ex
  rw [← hP] at F
  exact ee_of (pe_make0 (E := E0) M F hr hg hm hb .nil pass0 hdb) h
end

/-! ### the defs of the text -/
section
variable {w : World} {K : PySem.W.Frag} {mg : Str → Option Value} {base : Heap}
/-- the context of a def's body -/
abbrev Cxd (w : World) (K : PySem.W.Frag) (mg : Str → Option Value) (base : Heap) (N : List Str) (qual : Str) (st : Stmt) (f : Addr) (cd : Value) (A : Around) (outer : List Env) (s : Shared) (H : Hp) (E : XK) : Cx :=
  (cxOf CX0 P w K mg base N qual (defScope st) f cd A outer s H E).nox
theorem def_ok {x qual : Str} {st : Stmt} {f : Addr} {fd : FuncData} {N ps : List Str} {k : Nat} {sp : Sp} (F : Fun K x qual st f fd) (S : FnScope N ps (defScope st)) (len : ∀ vs H Q E, sp vs H Q E → vs.length = ps.length)
    (hb : ∀ (cd : Value) (A : Around) (outer : List Env) (s : Shared) (H : Hp) (vs : List V) (Q : VK) (E : XK), Room k (A.deeper (envOfC qual (defScope st) s.heap.objs.size f cd)) → sp vs H Q E →
      SS (Cxd w K mg base N qual st f cd A outer s H E) (defBody st) { nx := fun _ H' => Q .non H', rt := Q } (start N vs) H) : FnOk P w K mg base CX0 (k + 1) f fd ps sp :=
  F.ok S len fun cd A outer s H vs Q E hr h => ⟨_, SS.pss, hb cd A outer s H vs Q E hr h⟩
/-- what the top has of a def -/
structure Top (K : PySem.W.Frag) (mg : Str → Option Value) (x : Str) (st : Stmt) : Prop where
  ex : ∃ (f : Addr) (fd : FuncData), Fun K x x st f fd ∧ mg x = some (.ref f)
structure TopM (K : PySem.W.Frag) (C : Addr) (x qual : Str) (st : Stmt) : Prop where
  ex : ∃ (f : Addr) (fd : FuncData), Fun K x qual st f fd ∧ Meth K C x f
structure TopK (K : PySem.W.Frag) (mg : Str → Option Value) (x : Str) (C : Addr) (qual : Str) (st : Stmt) : Prop where
  ex : ∃ (f : Addr) (fd : FuncData), Fun K "__init__" qual st f fd ∧ Mk K C f ∧ mg x = some (.ref C)
theorem Top.dn {x : Str} {st : Stmt} {N ps : List Str} {k : Nat} {sp : Sp} (T : Top K mg x st) (S : FnScope N ps (defScope st)) (len : ∀ vs H Q E, sp vs H Q E → vs.length = ps.length)
    (b : ∀ (kV doc pm : Value) (an : Option Addr) (cdv ct : Value) (us : List Value), us.length = ps.length → bindArgs (PySem.W.fnOf x x (defArgs st) (defBody st) (defScope st) .none kV doc pm an cdv ct) ⟨us, []⟩ = pure (ps.zip us))
    (hb : ∀ (f : Addr) (cd : Value) (A : Around) (outer : List Env) (s : Shared) (H : Hp) (vs : List V) (Q : VK) (E : XK), Room k (A.deeper (envOfC x (defScope st) s.heap.objs.size f cd)) → sp vs H Q E →
      SS (Cxd w K mg base N x st f cd A outer s H E) (defBody st) { nx := fun _ H' => Q .non H', rt := Q } (start N vs) H) : Dn w K mg base x (k + 1) sp := by
  obtain ⟨f, fd, F, hm⟩ := T.ex
  exact ⟨f, fd, ps, def_ok F S len (hb f), hm, F.kp, F.binds b⟩
theorem TopM.dm {C : Addr} {x qual : Str} {st : Stmt} {N ps : List Str} {k : Nat} {sp : Sp} (T : TopM K C x qual st) (S : FnScope N ps (defScope st)) (len : ∀ vs H Q E, sp vs H Q E → vs.length = ps.length)
    (b : ∀ (kV doc pm : Value) (an : Option Addr) (cdv ct : Value) (us : List Value), us.length = ps.length → bindArgs (PySem.W.fnOf x qual (defArgs st) (defBody st) (defScope st) .none kV doc pm an cdv ct) ⟨us, []⟩ = pure (ps.zip us))
    (hb : ∀ (f : Addr) (cd : Value) (A : Around) (outer : List Env) (s : Shared) (H : Hp) (vs : List V) (Q : VK) (E : XK), Room k (A.deeper (envOfC qual (defScope st) s.heap.objs.size f cd)) → sp vs H Q E →
      SS (Cxd w K mg base N qual st f cd A outer s H E) (defBody st) { nx := fun _ H' => Q .non H', rt := Q } (start N vs) H) : Dm w K mg base C x (k + 1) sp := by
  obtain ⟨f, fd, F, hm⟩ := T.ex
  exact ⟨f, fd, ps, def_ok F S len (hb f), hm, F.binds b⟩
theorem TopK.dk {C : Addr} {x qual : Str} {st : Stmt} {N ps : List Str} {k : Nat} {sp : Sp} (T : TopK K mg x C qual st) (S : FnScope N ps (defScope st)) (len : ∀ vs H Q E, sp vs H Q E → vs.length = ps.length)
    (b : ∀ (kV doc pm : Value) (an : Option Addr) (cdv ct : Value) (us : List Value), us.length = ps.length → bindArgs (PySem.W.fnOf "__init__" qual (defArgs st) (defBody st) (defScope st) .none kV doc pm an cdv ct) ⟨us, []⟩ = pure (ps.zip us))
    (hb : ∀ (f : Addr) (cd : Value) (A : Around) (outer : List Env) (s : Shared) (H : Hp) (vs : List V) (Q : VK) (E : XK), Room k (A.deeper (envOfC qual (defScope st) s.heap.objs.size f cd)) → sp vs H Q E →
      SS (Cxd w K mg base N qual st f cd A outer s H E) (defBody st) { nx := fun _ H' => Q .non H', rt := Q } (start N vs) H) : Dk w K mg base x C (k + 1) sp := by
  obtain ⟨f, fd, F, hm, hg⟩ := T.ex
  exact ⟨f, fd, ps, def_ok F S len (hb f), hm, hg, F.binds b⟩
end
/-! ### what the top has of names -/
structure Gs (K : PySem.W.Frag) (mg : Str → Option Value) : Prop where
  z_len : mg "len" = none
  z_isinstance : mg "isinstance" = none
  z_range : mg "range" = none
  z_zip : mg "zip" = none
  z_enumerate : mg "enumerate" = none
  z_sorted : mg "sorted" = none
  z_set : mg "set" = none
  z_list : mg "list" = none
  z_tuple : mg "tuple" = none
  z_dict : mg "dict" = none
  z_int : mg "int" = none
  z_bool : mg "bool" = none
  z_str : mg "str" = none
  z_min : mg "min" = none
  z_sum : mg "sum" = none
  c_LONGEST : ∃ t, mg "LONGEST" = some (.int 12 t)
  c_LARGEST : ∃ t, mg "LARGEST" = some (.int 16 t)
  c_RELATIONS : ∃ t, mg "RELATIONS" = some (.int 6 t)
  c_PLACES : ∃ t, mg "PLACES" = some (.int 6 t)
  c_TUPLES : ∃ t, mg "TUPLES" = some (.int 4096 t)
  c_MOST_syntax : ∃ t, mg "MOST_syntax" = some (.int 2000 t)
  c_DEEPEST : ∃ t, mg "DEEPEST" = some (.int 40 t)
  c_BRANCHES : ∃ t, mg "BRANCHES" = some (.int 40 t)
  c_GUESSED : ∃ t, mg "GUESSED" = some (.int 3 t)
  c_STEPS : ∃ t, mg "STEPS" = some (.int 8 t)
  c_CAP : ∃ t, mg "CAP" = some (.int 1000000000 t)
  c_MOST_meaning : ∃ t, mg "MOST_meaning" = some (.int 3000000 t)
  c_FEW : ∃ t, mg "FEW" = some (.int 12 t)
  c_LETTERS : ∃ t, mg "LETTERS" = some (.str "abcdefghijklmnopqrstuvwxyz" t)
  c_FIGURES : ∃ t, mg "FIGURES" = some (.str "0123456789" t)
  c_WORDS : ∃ a, mg "WORDS" = some (.ref a) ∧ ∀ H, SqT K H a ((["and", "or", "not", "some", "all", "lfp", "pfp", "tc", "guess", "true", "false"] : List Str).map V.str)
  c_QUANTIFIERS : ∃ a, mg "QUANTIFIERS" = some (.ref a) ∧ ∀ H, SqT K H a ((["some", "all"] : List Str).map V.str)
  c_FIXED : ∃ a, mg "FIXED" = some (.ref a) ∧ ∀ H, SqT K H a ((["lfp", "pfp"] : List Str).map V.str)
theorem bt_len : bootBuiltins "len" = some (.builtin "len") := PySem.boot_len
theorem bt_isinstance : bootBuiltins "isinstance" = some (.builtin "isinstance") := by decide +kernel
theorem bt_sorted : bootBuiltins "sorted" = some (.builtin "sorted") := by decide +kernel
theorem bt_min : bootBuiltins "min" = some (.builtin "min") := by decide +kernel
theorem bt_sum : bootBuiltins "sum" = some (.builtin "sum") := by decide +kernel
theorem bt_set : bootBuiltins "set" = some (.type "set") := by decide +kernel
theorem bt_list : bootBuiltins "list" = some (.type "list") := by decide +kernel
theorem bt_tuple : bootBuiltins "tuple" = some (.type "tuple") := by decide +kernel
theorem bt_dict : bootBuiltins "dict" = some (.type "dict") := by decide +kernel
theorem bt_int : bootBuiltins "int" = some (.type "int") := by decide +kernel
theorem bt_bool : bootBuiltins "bool" = some (.type "bool") := by decide +kernel
theorem bt_str : bootBuiltins "str" = some (.type "str") := by decide +kernel
end Sy
namespace Sy
open PySem PySem.Spec PyProof.Rows L2
section
variable {X : Cx} {σ : L2.St} {H : Hp} {Q : VK} {QB : Bool → Hp → Prop} {i j : Int} {x y v : V} {a p : Addr} {xs : List V}
/-! ### branches -/
theorem if_t {b : Bool} {A B : Prop} (h : b = true) (q : A) : if b = true then A else B := by rw [h]; exact iteT q
theorem if_f {b : Bool} {A B : Prop} (h : b = false) (q : B) : if b = true then A else B := by rw [h]; exact iteF q
theorem if_c {b : Bool} {A B : Prop} (h : b = true → A) (h' : b = false → B) : if b = true then A else B := by
  cases b with
  | true => exact iteT (h rfl)
  | false => exact iteF (h' rfl)
theorem if_d {c A B : Prop} [Decidable c] (h : c → A) (h' : ¬ c → B) : if decide c = true then A else B := if_c (fun e => h (of_decide_eq_true e)) (fun e => h' (of_decide_eq_false e))
theorem if_nd {c A B : Prop} [Decidable c] (h : ¬ c → A) (h' : c → B) : if (!decide c) = true then A else B := if_c (fun e => h (of_decide_eq_false (by simpa using e))) (fun e => h' (of_decide_eq_true (by simpa using e)))
theorem bq {b : Bool} {R : Bool → Prop} (h : R b) : ∃ k, V.bl b = V.bl k ∧ R k := ⟨b, rfl, h⟩
theorem if_tt {A B : Prop} (q : A) : if true = true then A else B := iteT q
theorem if_ff {A B : Prop} (q : B) : if false = true then A else B := iteF q
theorem rq {a : Addr} {R : Addr → Prop} (h : R a) : ∃ k, V.ref a = V.ref k ∧ R k := ⟨a, rfl, h⟩
theorem iq {a : Int} {R : Int → Prop} (h : R a) : ∃ k, V.int a = V.int k ∧ R k := ⟨a, rfl, h⟩
theorem sq {a : Str} {R : Str → Prop} (h : R a) : ∃ k, V.str a = V.str k ∧ R k := ⟨a, rfl, h⟩
theorem lq {a : Int} {R : Int → Prop} (h : R a) : ∃ k, [V.int a] = [V.int k] ∧ R k := ⟨a, rfl, h⟩
/-! ### operators -/
theorem oo_add (q : Q (.int (i + j)) H) : BO X .Add (.int i) (.int j) H Q := bo_of op_add ⟨i, j, rfl, rfl, q⟩
theorem oo_sub (q : Q (.int (i - j)) H) : BO X .Sub (.int i) (.int j) H Q := bo_of op_sub ⟨i, j, rfl, rfl, q⟩
theorem oo_mul (c : CMul i j) (q : Q (.int (i * j)) H) : BO X .Mult (.int i) (.int j) H Q := bo_of op_mul ⟨i, j, rfl, rfl, c, q⟩
theorem oo_mod (c : 0 < j) (q : Q (.int (i % j)) H) : BO X .Mod (.int i) (.int j) H Q := bo_of op_mod ⟨i, j, rfl, rfl, c, q⟩
theorem oo_fdiv (c : 0 < j) (c' : j < 1073741824) (q : Q (.int (i / j)) H) : BO X .FloorDiv (.int i) (.int j) H Q := bo_of op_fdiv ⟨i, j, rfl, rfl, ⟨c, c'⟩, q⟩
theorem oo_pow (c : CPow i j) (q : Q (.int (i ^ j.toNat)) H) : BO X .Pow (.int i) (.int j) H Q := bo_of op_pow ⟨i, j, rfl, rfl, c, q⟩
theorem oo_shl (c : CPow i j) (q : Q (.int (i * 2 ^ j.toNat)) H) : BO X .LShift (.int i) (.int j) H Q := bo_of op_shl ⟨i, j, rfl, rfl, c, q⟩
theorem oo_band (q : Q (.int (Builtin.bitAnd i j)) H) : BO X .BitAnd (.int i) (.int j) H Q := bo_of op_and ⟨i, j, rfl, rfl, q⟩
theorem io_add (q : Q (.int (i + j)) H) : IO X .Add (.int i) (.int j) H Q := io_of iop_add ⟨i, j, rfl, rfl, q⟩
theorem io_sub (q : Q (.int (i - j)) H) : IO X .Sub (.int i) (.int j) H Q := io_of iop_sub ⟨i, j, rfl, rfl, q⟩
theorem io_mul (c : CMul i j) (q : Q (.int (i * j)) H) : IO X .Mult (.int i) (.int j) H Q := io_of iop_mul ⟨i, j, rfl, rfl, c, q⟩
theorem oo_lt (q : Q (.bl (decide (i < j))) H) : CO X .Lt (.int i) (.int j) H Q := co_of op_lt ⟨i, j, rfl, rfl, q⟩
theorem oo_le (q : Q (.bl (decide (i ≤ j))) H) : CO X .LtE (.int i) (.int j) H Q := co_of op_le ⟨i, j, rfl, rfl, q⟩
theorem oo_gt (q : Q (.bl (decide (j < i))) H) : CO X .Gt (.int i) (.int j) H Q := co_of op_gt ⟨i, j, rfl, rfl, q⟩
theorem oo_ge (q : Q (.bl (decide (j ≤ i))) H) : CO X .GtE (.int i) (.int j) H Q := co_of op_ge ⟨i, j, rfl, rfl, q⟩
theorem oo_eqi (q : Q (.bl (decide (i = j))) H) : CO X .Eq (.int i) (.int j) H Q := co_of op_eq ⟨rfl, by
  have e : decide (V.int i = V.int j) = decide (i = j) := by simp
  rw [e]; exact q⟩
theorem oo_nei (q : Q (.bl (!decide (i = j))) H) : CO X .NotEq (.int i) (.int j) H Q := co_of op_ne ⟨rfl, by
  have e : decide (V.int i = V.int j) = decide (i = j) := by simp
  rw [e]; exact q⟩
theorem oo_eqs {z u : Str} (q : Q (.bl (decide (z = u))) H) : CO X .Eq (.str z) (.str u) H Q := co_of op_eq ⟨rfl, by
  have e : decide (V.str z = V.str u) = decide (z = u) := by simp
  rw [e]; exact q⟩
theorem oo_nes {z u : Str} (q : Q (.bl (!decide (z = u))) H) : CO X .NotEq (.str z) (.str u) H Q := co_of op_ne ⟨rfl, by
  have e : decide (V.str z = V.str u) = decide (z = u) := by simp
  rw [e]; exact q⟩
theorem oo_eqb {z u : Bool} (q : Q (.bl (decide (z = u))) H) : CO X .Eq (.bl z) (.bl u) H Q := co_of op_eq ⟨rfl, by
  have e : decide (V.bl z = V.bl u) = decide (z = u) := by simp
  rw [e]; exact q⟩
theorem oo_isN (q : Q (.bl (decide (x = .non))) H) : CO X .Is x .non H Q := co_of op_isN ⟨rfl, q⟩
theorem oo_notN (q : Q (.bl (!decide (x = .non))) H) : CO X .IsNot x .non H Q := co_of op_notN ⟨rfl, q⟩
theorem eqV_str {z u : Str} : eqV (.str z) (.str u) = decide (z = u) := by
  show (z == u) = decide (z = u)
  by_cases h : z = u
  · subst h; simp
  · rw [decide_eq_false h]; exact beq_eq_false_iff_ne.mpr h
theorem inV_strs {z : Str} : ∀ {ss : List Str}, inV (.str z) (ss.map V.str) = decide (z ∈ ss)
  | [] => rfl
  | s :: ss => by
    have ih := inV_strs (z := z) (ss := ss)
    show (eqV (.str s) (.str z) || inV (.str z) (ss.map V.str)) = _
    rw [ih, eqV_str]
    by_cases h : s = z
    · subst h; simp
    · have h' : ¬ z = s := fun e => h e.symm
      simp [h, h']
theorem flat_strs (ss : List Str) : (ss.map V.str).all flatV = true := by
  rw [List.all_eq_true]
  intro v hv
  obtain ⟨s, _, rfl⟩ := List.mem_map.mp hv
  rfl
theorem oo_inT {z : Str} {ss : List Str} (h : SqT X.K H p (ss.map V.str)) (q : Q (.bl (decide (z ∈ ss))) H) : CO X .In (.str z) (.ref p) H Q :=
  co_of op_in_seq ⟨p, _, rfl, .inr h, rfl, flat_strs ss, by rw [inV_strs]; exact q⟩
theorem oo_inL {z : Str} {ss : List Str} (h : SqL X.K H p (ss.map V.str)) (q : Q (.bl (decide (z ∈ ss))) H) : CO X .In (.str z) (.ref p) H Q :=
  co_of op_in_seq ⟨p, _, rfl, .inl h, rfl, flat_strs ss, by rw [inV_strs]; exact q⟩
theorem oo_ninT {z : Str} {ss : List Str} (h : SqT X.K H p (ss.map V.str)) (q : Q (.bl (!decide (z ∈ ss))) H) : CO X .NotIn (.str z) (.ref p) H Q :=
  co_of op_notIn_seq ⟨p, _, rfl, .inr h, rfl, flat_strs ss, by rw [inV_strs]; exact q⟩
theorem oo_ninL {z : Str} {ss : List Str} (h : SqL X.K H p (ss.map V.str)) (q : Q (.bl (!decide (z ∈ ss))) H) : CO X .NotIn (.str z) (.ref p) H Q :=
  co_of op_notIn_seq ⟨p, _, rfl, .inl h, rfl, flat_strs ss, by rw [inV_strs]; exact q⟩
theorem oo_nsign {c : Nat} {z : Str} (q : Q (.bl (!decide (c ∈ z.cps.toList))) H) : CO X .NotIn (.str ⟨#[c]⟩) (.str z) H Q := co_of op_notIn_sign ⟨c, z, rfl, rfl, q⟩
/-! ### items, lengths -/
theorem ix_t (j : Nat) (h : SqT X.K H a xs) (e : xs[j]? = some v) (q : Q v H) : IX X (.ref a) (.int (j : Int)) H Q := ix_of ix_tup ⟨a, xs, j, v, rfl, rfl, h, atI_nat e, q⟩
theorem ix_l (j : Nat) (h : SqL X.K H a xs) (e : xs[j]? = some v) (q : Q v H) : IX X (.ref a) (.int (j : Int)) H Q := ix_of ix_list ⟨a, xs, j, v, rfl, rfl, h, atI_nat e, q⟩
theorem ix_ti (h : SqT X.K H a xs) (h0 : 0 ≤ i) (e : xs[i.toNat]? = some v) (q : Q v H) : IX X (.ref a) (.int i) H Q := by
  have e1 : i = ((i.toNat : Nat) : Int) := (Int.toNat_of_nonneg h0).symm
  rw [e1]; exact ix_t _ h e q
theorem ix_li (h : SqL X.K H a xs) (h0 : 0 ≤ i) (e : xs[i.toNat]? = some v) (q : Q v H) : IX X (.ref a) (.int i) H Q := by
  have e1 : i = ((i.toNat : Nat) : Int) := (Int.toNat_of_nonneg h0).symm
  rw [e1]; exact ix_l _ h e q
theorem ix_s {z : Str} {c : Nat} (hz : z.length ≤ sizeLine) (e : z.cps.toList[0]? = some c) (q : Q (.str ⟨#[c]⟩) H) : IX X (.str z) (.int 0) H Q := ix_of ix_str ⟨z, 0, c, rfl, rfl, hz, atI_nat (j := 0) e, q⟩
theorem cc_lenT (h : SqT X.K H a xs) (q : Q (.int xs.length) H) : CC X (.builtin "len") [.ref a] H Q := cc_of call_len_seq ⟨a, xs, rfl, .inr h, q⟩
theorem cc_lenL (h : SqL X.K H a xs) (q : Q (.int xs.length) H) : CC X (.builtin "len") [.ref a] H Q := cc_of call_len_seq ⟨a, xs, rfl, .inl h, q⟩
theorem cc_lenS {z : Str} (h : z.length ≤ sizeLine) (q : Q (.int z.length) H) : CC X (.builtin "len") [.str z] H Q := cc_of call_len_str ⟨z, rfl, h, q⟩
theorem cc_min (hc : X.calm = true) (q : Q (.int (if j < i then j else i)) H) : CC X (.builtin "min") [.int i, .int j] H Q := cc_of (call_min2 hc) ⟨i, j, rfl, q⟩
theorem cc_listL (h : SqL X.K H a xs) (q : ∀ l, H l = none → Q (.ref l) (upd H l (.lst xs))) : CC X (.type "list") [.ref a] H Q := cc_of call_list_of ⟨a, xs, rfl, .inl h, q⟩
theorem cc_listT (h : SqT X.K H a xs) (q : ∀ l, H l = none → Q (.ref l) (upd H l (.lst xs))) : CC X (.type "list") [.ref a] H Q := cc_of call_list_of ⟨a, xs, rfl, .inr h, q⟩
theorem cc_tupL (h : SqL X.K H a xs) (q : ∀ l, H l = none → Q (.ref l) (upd H l (.tup xs))) : CC X (.type "tuple") [.ref a] H Q := cc_of call_tuple_of ⟨a, xs, rfl, .inl ⟨h, q⟩⟩
theorem cc_isi {c : V} {t u : Value} {b : Bool} (k : ClsV c u) (ty : TyX X.K H x t) (e : PySem.W.kitOne X.K t u = some b) (q : Q (.bl b) H) : CC X (.builtin "isinstance") [x, c] H Q :=
  cc_of call_isi ⟨x, c, t, u, b, rfl, k, ty, e, q⟩
theorem isi_int {T : String} {b : Bool} (e : kitB "int" T = some b) (q : Q (.bl b) H) : CC X (.builtin "isinstance") [.int i, .ty T] H Q := cc_isi (.ty _) (.base (.int _)) (kit_ty e) q
theorem isi_str {T : String} {z : Str} {b : Bool} (e : kitB "str" T = some b) (q : Q (.bl b) H) : CC X (.builtin "isinstance") [.str z, .ty T] H Q := cc_isi (.ty _) (.base (.str _)) (kit_ty e) q
theorem isi_bl {T : String} {z : Bool} {b : Bool} (e : kitB "bool" T = some b) (q : Q (.bl b) H) : CC X (.builtin "isinstance") [.bl z, .ty T] H Q := cc_isi (.ty _) (.base (.bl _)) (kit_ty e) q
theorem tyx_tup {K : PySem.W.Frag} (h : SqT K H a xs) : TyX K H (.ref a) (.type "tuple") := by
  rcases h with (h | ⟨o, h⟩) | ⟨o, its, n, h1, h2, _⟩
  · exact .base (.tup h)
  · exact .fTuple h
  · exact .kTuple h1 h2
theorem tyx_lst {K : PySem.W.Frag} (h : SqL K H a xs) : TyX K H (.ref a) (.type "list") := by
  rcases h with (h | ⟨o, h⟩) | ⟨o, its, n, h1, h2, _⟩
  · exact .base (.lst h)
  · exact .base (.frz h)
  · exact .kList h1 h2
theorem isi_tup {T : String} {b : Bool} (h : SqT X.K H a xs) (e : kitB "tuple" T = some b) (q : Q (.bl b) H) : CC X (.builtin "isinstance") [.ref a, .ty T] H Q := cc_isi (.ty _) (tyx_tup h) (kit_ty e) q
theorem isi_lst {T : String} {b : Bool} (h : SqL X.K H a xs) (e : kitB "list" T = some b) (q : Q (.bl b) H) : CC X (.builtin "isinstance") [.ref a, .ty T] H Q := cc_isi (.ty _) (tyx_lst h) (kit_ty e) q
theorem isi_dK {T : String} {kvs} {b : Bool} (h : H a = some (.dK kvs)) (e : kitB "dict" T = some b) (q : Q (.bl b) H) : CC X (.builtin "isinstance") [.ref a, .ty T] H Q := cc_isi (.ty _) (.base (.dK h)) (kit_ty e) q
theorem k_ii : kitB "int" "int" = some true := by decide +kernel
theorem k_ib : kitB "int" "bool" = some false := by decide +kernel
theorem k_il : kitB "int" "list" = some false := by decide +kernel
theorem k_it : kitB "int" "tuple" = some false := by decide +kernel
theorem k_bi : kitB "bool" "int" = some true := by decide +kernel
theorem k_bb : kitB "bool" "bool" = some true := by decide +kernel
theorem k_bl : kitB "bool" "list" = some false := by decide +kernel
theorem k_bt : kitB "bool" "tuple" = some false := by decide +kernel
theorem k_ss : kitB "str" "str" = some true := by decide +kernel
theorem k_tt : kitB "tuple" "tuple" = some true := by decide +kernel
theorem k_tl : kitB "tuple" "list" = some false := by decide +kernel
theorem k_ll : kitB "list" "list" = some true := by decide +kernel
theorem k_dd : kitB "dict" "dict" = some true := by decide +kernel

/-! ### what a for walks -/
variable {tg it : Expr} {R : It → Hp → Prop} {e e2 : Expr} {pos pp : Pos} {D : Ends} {body : List Stmt}
theorem ii_list (h : EE X it σ H fun x H1 => ∃ a, x = .ref a ∧ (∃ xs, SqL X.K H1 a xs) ∧ R (Itl X.K a) H1) : II X tg it σ H R := ii_of (pi_list EE.pe) h
theorem ii_tup (h : EE X it σ H fun x H1 => ∃ a, x = .ref a ∧ (∃ xs, SqT X.K H1 a xs) ∧ R (Itt X.K a) H1) : II X tg it σ H R := ii_of (pi_tup EE.pe) h
theorem ii_str (h : EE X it σ H fun v H1 => ∃ x, v = .str x ∧ R (Its x) H1) : II X tg it σ H R := ii_of (pi_str EE.pe) h
theorem ii_range (hm : X.mg "range" = none) (h : AA X [e] σ H fun vs H1 => ∃ j : Int, vs = [.int j] ∧ -(2 ^ 62) ≤ j ∧ j < 2 ^ 62 ∧ R (Itr 0 j.toNat) H1) (hg : Gl X "range" := by rfl) (hs : starEach [e] X.env = [(false, eval e X.env)] := by rfl) :
    II X tg (.Call (.Name "range" pp) [e] [] pos) σ H R := ii_of (pi_range1 hg hm AA.pa hs) h
/-- the body of a for's turn -/
def Turns (X : Cx) (tg : Expr) (body : List Stmt) (D : Ends) (J : It) (σ : L2.St) (H : Hp) : Prop :=
  ∃ W : Nat → Nat → L2.St → Hp → Prop, (∃ m, W 0 m σ H) ∧ ∀ i m σ H, W i m σ H →
      (J.stop i H ∧ D.nx σ H) ∨ (J.go i H ∧ ∃ N : L2.St → Hp → Prop, (∀ σ' H', N σ' H' → ∃ m', m' < m ∧ W (i + 1) m' σ' H') ∧ ∀ x H', J.yld i H x H' → GG X tg x σ H' fun σ2 H2 => SS X body { D with nx := N, ct := N, bk := D.nx } σ2 H2)
theorem s_forT (hp : PassesOwn (model X.prog X.w) X.A X.env X.xe) (hc : X.calm = true) (h : II X tg it σ H fun J H1 => Turns X tg body D J σ H1) (hs : ∀ x, foldedSetIterable it X.env x = pure x := by intro _; rfl) : S1 X (.For tg it body [] pos) D σ H := s_for hp hc h hs
theorem turns_list (xs : List V) (Pv : Nat → L2.St → Hp → Prop) (h0 : Pv 0 σ H) (hl : ∀ i σ H, i ≤ xs.length → Pv i σ H → SqL X.K H a xs)
    (hs : ∀ i x σ H, xs[i]? = some x → Pv i σ H → GG X tg x σ H fun σ2 H2 => SS X body { D with nx := Pv (i + 1), ct := Pv (i + 1), bk := D.nx } σ2 H2) (hd : ∀ σ H, Pv xs.length σ H → D.nx σ H) : Turns X tg body D (Itl X.K a) σ H :=
  for_list (g := GG X tg) (tb := SS X body) Pv h0 hl hs hd
theorem turns_tup (xs : List V) (Pv : Nat → L2.St → Hp → Prop) (h0 : Pv 0 σ H) (hl : ∀ i σ H, i ≤ xs.length → Pv i σ H → SqT X.K H a xs)
    (hs : ∀ i x σ H, xs[i]? = some x → Pv i σ H → GG X tg x σ H fun σ2 H2 => SS X body { D with nx := Pv (i + 1), ct := Pv (i + 1), bk := D.nx } σ2 H2) (hd : ∀ σ H, Pv xs.length σ H → D.nx σ H) : Turns X tg body D (Itt X.K a) σ H :=
  for_tup (g := GG X tg) (tb := SS X body) Pv h0 hl hs hd
theorem turns_range (n : Nat) (Pv : Nat → L2.St → Hp → Prop) (h0 : Pv 0 σ H)
    (hs : ∀ i σ H, i < n → Pv i σ H → GG X tg (.int (0 + i)) σ H fun σ2 H2 => SS X body { D with nx := Pv (i + 1), ct := Pv (i + 1), bk := D.nx } σ2 H2) (hd : ∀ σ H, Pv n σ H → D.nx σ H) : Turns X tg body D (Itr 0 n) σ H :=
  for_range (g := GG X tg) (tb := SS X body) Pv h0 hs hd
theorem turns_str (z : Str) (Pv : Nat → L2.St → Hp → Prop) (h0 : Pv 0 σ H)
    (hs : ∀ i c σ H, z.cps[i]? = some c → Pv i σ H → GG X tg (.str ⟨#[c]⟩) σ H fun σ2 H2 => SS X body { D with nx := Pv (i + 1), ct := Pv (i + 1), bk := D.nx } σ2 H2) (hd : ∀ σ H, Pv z.cps.size σ H → D.nx σ H) : Turns X tg body D (Its z) σ H := by
  refine ⟨fun i m σ H => m = z.cps.size - i ∧ i ≤ z.cps.size ∧ Pv i σ H, ⟨z.cps.size, by simp, Nat.zero_le _, h0⟩, ?_⟩
  rintro i m σ H ⟨rfl, hi, q⟩
  by_cases hlt : i < z.cps.size
  · refine .inr ⟨hlt, Pv (i + 1), fun σ' H' q' => ⟨z.cps.size - (i + 1), by omega, rfl, hlt, q'⟩, fun x H' y => ?_⟩
    obtain ⟨rfl, c, hc, rfl⟩ := y
    exact hs i c σ _ hc q
  · have e : i = z.cps.size := by omega
    subst e
    exact .inl ⟨Nat.le_refl _, hd σ H q⟩
end
end Sy
namespace Sy
open PySem PySem.Spec PyProof.Rows L2
/-! ### comprehensions: the block's own judgements, whatever the block's place -/
/-- in every block of the comprehension -/
def EEb (X : Cx) (scope : Scope) (e : Expr) : TE := fun σ H Q => ∀ (s : Shared) (H0 : Hp) (C : Addr) (cl : List (Str × Addr)) (fp : List Addr), EE (X.blk s H0 scope (compEnvC scope cl C X.env) fp) e σ H Q
def GGb (X : Cx) (scope : Scope) (e : Expr) : TG := fun v σ H Q => ∀ (s : Shared) (H0 : Hp) (C : Addr) (cl : List (Str × Addr)) (fp : List Addr), GG (X.blk s H0 scope (compEnvC scope cl C X.env) fp) e v σ H Q
def IIb (X : Cx) (scope : Scope) (tg e : Expr) : TI := fun σ H R => ∀ (s : Shared) (H0 : Hp) (C : Addr) (cl : List (Str × Addr)) (fp : List Addr), II (X.blk s H0 scope (compEnvC scope cl C X.env) fp) tg e σ H R
def BBb (X : Cx) (scope : Scope) (e : Expr) : TT := fun σ H Q => ∀ (s : Shared) (H0 : Hp) (C : Addr) (cl : List (Str × Addr)) (fp : List Addr), BB (X.blk s H0 scope (compEnvC scope cl C X.env) fp) e σ H Q
section
variable {X : Cx} {σ : L2.St} {H : Hp} {Q : VK} {elt tg iter tg1 iter1 c : Expr} {scope : Scope} {own : List (Str × Nat)} {pos spos py : Pos} {D : Ends} {vs vs1 : List Nat}
theorem eeb {e : Expr} (s : Shared) (H : Hp) (C : Addr) (cl : List (Str × Addr)) (fp : List Addr) : PE (X.blk s H scope (compEnvC scope cl C X.env) fp) e (EEb X scope e) := ⟨fun pins s1 σ H1 Q I h => (h s H C cl fp).run pins s1 I⟩
theorem ggb {e : Expr} (s : Shared) (H : Hp) (C : Addr) (cl : List (Str × Addr)) (fp : List Addr) : PG (X.blk s H scope (compEnvC scope cl C X.env) fp) e (GGb X scope e) := ⟨fun pins s1 σ H1 v u Q I r h => (h s H C cl fp).run pins s1 u I r⟩
theorem iib {t e : Expr} (s : Shared) (H : Hp) (C : Addr) (cl : List (Str × Addr)) (fp : List Addr) : PI (X.blk s H scope (compEnvC scope cl C X.env) fp) t e (IIb X scope t e) := ⟨fun pins s1 σ H1 R I h => (h s H C cl fp).run pins s1 I⟩
theorem bbb {e : Expr} (s : Shared) (H : Hp) (C : Addr) (cl : List (Str × Addr)) (fp : List Addr) : PT (X.blk s H scope (compEnvC scope cl C X.env) fp) e (BBb X scope e) := ⟨fun pins s1 σ H1 Q I h => (h s H C cl fp).run pins s1 I⟩
theorem blk_ok {X : Cx} {N : List Str} {sc scope : Scope} {own : List (Str × Nat)} (ok : blkC N sc scope own = true) (e1 : X.N = N) (e2 : X.env.scope = sc) : BlkOk X.N X.env.scope scope own := by
  rw [e1, e2]; exact blkOk_by ok
/-- the turns of a comprehension: D the new list -/
def LTurns (J : It) (g : TG) (tt : TT) (te : TE) (vs : List Nat) (σ : L2.St) (D : Addr) (H1 : Hp) (Q : Hp → Prop) : Prop :=
  ∃ W : Nat → Nat → Hp → Prop, (∃ m, W 0 m (upd H1 D (.lst []))) ∧ ∀ i m H, W i m H →
  (J.stop i H ∧ Q H) ∨ (J.go i H ∧ ∃ Nx : Hp → Prop, (∀ H', Nx H' → ∃ m', m' < m ∧ W (i + 1) m' H') ∧ ∀ x H', J.yld i H x H' → g x (wipe σ vs) H' fun σ2 H2 => wipe σ2 vs = wipe σ vs ∧ tt σ2 H2 fun b H3 =>
    if b = true then te σ2 H3 fun y H4 => ∃ acc, H4 D = some (.lst acc) ∧ acc.length < sizeLine ∧ Nx (upd H4 D (.lst (acc ++ [y]))) else Nx H3)
theorem ee_lc (own : List (Str × Nat)) (N : List Str) (sc : Scope) (hc : X.calm = true) (hN : X.N.Nodup) (h : II X tg iter σ H fun J H1 => ∀ D, H1 D = none → LTurns J (GGb X scope tg) tYes (EEb X scope elt) (own.map (·.2)) σ D H1 fun H => Q (.ref D) H)
    (ok : blkC N sc scope own = true := by decide +kernel) (e1 : X.N = N := by rfl) (e2 : X.env.scope = sc := by rfl) (hs : ∀ x, foldedSetIterable iter X.env x = pure x := by intro _; rfl) : EE X (.ListComp elt [⟨tg, iter, [], 0⟩] scope pos) σ H Q :=
  ee_of (pe_lc hc hN II.pi (blk_ok ok e1 e2) ggb (fun _ _ _ _ _ => pts_nil) eeb hs) h
theorem ee_lcIf (own : List (Str × Nat)) (N : List Str) (sc : Scope) (hc : X.calm = true) (hN : X.N.Nodup) (h : II X tg iter σ H fun J H1 => ∀ D, H1 D = none → LTurns J (GGb X scope tg) (BBb X scope c) (EEb X scope elt) (own.map (·.2)) σ D H1 fun H => Q (.ref D) H)
    (ok : blkC N sc scope own = true := by decide +kernel) (e1 : X.N = N := by rfl) (e2 : X.env.scope = sc := by rfl) (hs : ∀ x, foldedSetIterable iter X.env x = pure x := by intro _; rfl) : EE X (.ListComp elt [⟨tg, iter, [c], 0⟩] scope pos) σ H Q :=
  ee_of (pe_lc hc hN II.pi (blk_ok ok e1 e2) ggb (fun s H C cl fp => pts_one (bbb s H C cl fp)) eeb hs) h
theorem s_lc (own : List (Str × Nat)) (N : List Str) (sc : Scope) (i : Nat) {y : Str} (hc : X.calm = true) (hN : X.N.Nodup) (h : II X tg iter σ H fun J H1 => ∀ L, H1 L = none → LTurns J (GGb X scope tg) tYes (EEb X scope elt) (own.map (·.2)) σ L H1 fun H => D.nx (σ.set i (some (.ref L))) H)
    (hy : X.N[i]? = some y := by rfl) (hyl : X.env.scope.names.lookup y = some .local := by rfl) (hsw : swapsWith (.ListComp elt [⟨tg, iter, [], 0⟩] scope pos) (some (.Name y py)) spos.line X.env = pure true := by exact sw_true rfl rfl rfl (by decide +kernel))
    (ok : blkC N sc scope own = true := by decide +kernel) (e1 : X.N = N := by rfl) (e2 : X.env.scope = sc := by rfl) (hs : ∀ x, foldedSetIterable iter X.env x = pure x := by intro _; rfl) : S1 X (.Assign [.Name y py] (.ListComp elt [⟨tg, iter, [], 0⟩] scope pos) spos) D σ H :=
  s1_of (ps_setLc hc hN hy hyl hsw II.pi (blk_ok ok e1 e2) ggb (fun _ _ _ _ _ => pts_nil) eeb hs) h
theorem s_lcIf (own : List (Str × Nat)) (N : List Str) (sc : Scope) (i : Nat) {y : Str} (hc : X.calm = true) (hN : X.N.Nodup) (h : II X tg iter σ H fun J H1 => ∀ L, H1 L = none → LTurns J (GGb X scope tg) (BBb X scope c) (EEb X scope elt) (own.map (·.2)) σ L H1 fun H => D.nx (σ.set i (some (.ref L))) H)
    (hy : X.N[i]? = some y := by rfl) (hyl : X.env.scope.names.lookup y = some .local := by rfl) (hsw : swapsWith (.ListComp elt [⟨tg, iter, [c], 0⟩] scope pos) (some (.Name y py)) spos.line X.env = pure true := by exact sw_true rfl rfl rfl (by decide +kernel))
    (ok : blkC N sc scope own = true := by decide +kernel) (e1 : X.N = N := by rfl) (e2 : X.env.scope = sc := by rfl) (hs : ∀ x, foldedSetIterable iter X.env x = pure x := by intro _; rfl) : S1 X (.Assign [.Name y py] (.ListComp elt [⟨tg, iter, [c], 0⟩] scope pos) spos) D σ H :=
  s1_of (ps_setLc hc hN hy hyl hsw II.pi (blk_ok ok e1 e2) ggb (fun s H C cl fp => pts_one (bbb s H C cl fp)) eeb hs) h
/-- two clauses -/
def LTurns2 (J : It) (g : TG) (wi1 : TI) (g1 : TG) (te : TE) (vs vs1 : List Nat) (σ : L2.St) (D : Addr) (H1 : Hp) (Q : Hp → Prop) : Prop :=
  ∃ W : Nat → Nat → Hp → Prop, (∃ m, W 0 m (upd H1 D (.lst []))) ∧ ∀ i m H, W i m H →
  (J.stop i H ∧ Q H) ∨ (J.go i H ∧ ∃ Nx : Hp → Prop, (∀ H', Nx H' → ∃ m', m' < m ∧ W (i + 1) m' H') ∧ ∀ x H', J.yld i H x H' → g x (wipe σ vs) H' fun σ2 H2 => wipe σ2 vs = wipe σ vs ∧ tYes σ2 H2 fun b H3 =>
    if b = true then wi1 σ2 H3 fun J1 H4 => ∃ W1 : Nat → Nat → Hp → Prop, (∃ m, W1 0 m H4) ∧ ∀ j k H, W1 j k H →
      (J1.stop j H ∧ Nx H) ∨ (J1.go j H ∧ ∃ Nx1 : Hp → Prop, (∀ H', Nx1 H' → ∃ k', k' < k ∧ W1 (j + 1) k' H') ∧ ∀ x H', J1.yld j H x H' → g1 x (wipe σ2 vs1) H' fun σ3 H5 => wipe σ3 vs1 = wipe σ2 vs1 ∧ tYes σ3 H5 fun b H6 =>
        if b = true then te σ3 H6 fun y H7 => ∃ acc, H7 D = some (.lst acc) ∧ acc.length < sizeLine ∧ Nx1 (upd H7 D (.lst (acc ++ [y]))) else Nx1 H6)
    else Nx H3)
theorem s_lc2 (own : List (Str × Nat)) (N : List Str) (sc : Scope) (vs1 : List Nat) (i : Nat) {y : Str} (hc : X.calm = true) (hN : X.N.Nodup)
    (h : II X tg iter σ H fun J H1 => ∀ L, H1 L = none → LTurns2 J (GGb X scope tg) (IIb X scope tg1 iter1) (GGb X scope tg1) (EEb X scope elt) (own.map (·.2)) vs1 σ L H1 fun H => D.nx (σ.set i (some (.ref L))) H)
    (hv : ∀ i ∈ vs1, i ∈ own.map (·.2) := by decide) (hy : X.N[i]? = some y := by rfl) (hyl : X.env.scope.names.lookup y = some .local := by rfl)
    (hsw : swapsWith (.ListComp elt [⟨tg, iter, [], 0⟩, ⟨tg1, iter1, [], 0⟩] scope pos) (some (.Name y py)) spos.line X.env = pure true := by exact sw_true rfl rfl rfl (by decide +kernel))
    (ok : blkC N sc scope own = true := by decide +kernel) (e1 : X.N = N := by rfl) (e2 : X.env.scope = sc := by rfl) (hs : ∀ x, foldedSetIterable iter X.env x = pure x := by intro _; rfl) (hs1 : ∀ env x, foldedSetIterable iter1 env x = pure x := by intro _ _; rfl) :
    S1 X (.Assign [.Name y py] (.ListComp elt [⟨tg, iter, [], 0⟩, ⟨tg1, iter1, [], 0⟩] scope pos) spos) D σ H :=
  s1_of (ps_setLc2 hc hN hy hyl hsw II.pi (blk_ok ok e1 e2) hv ggb (fun _ _ _ _ _ => pts_nil) iib ggb (fun _ _ _ _ _ => pts_nil) eeb hs hs1) h
end
theorem szk {n : Nat} (h : n ≤ 1000) : n ≤ sizeLine := Nat.le_of_lt (small1000 h)
theorem tyes {σ : L2.St} {H : Hp} {Q : Bool → Hp → Prop} (h : Q true H) : tYes σ H Q := h
/-! ### tuples that stay -/
def TEx (H H' : Hp) : Prop := (∀ b xs, H b = some (.tup xs) → H' b = some (.tup xs)) ∧ ∀ b o u, H b = some (.frz o u) → H' b = some (.frz o u)
theorem Ex.tex {K : PySem.W.Frag} {H H' : Hp} (e : Ex K H H') : TEx H H' := ⟨fun b xs h => e.keep b _ nd_tup h, fun b o u h => e.keep b _ nd_frz h⟩
theorem TEx.refl {H : Hp} : TEx H H := ⟨fun _ _ h => h, fun _ _ _ h => h⟩
theorem TEx.trans {H H1 H2 : Hp} (e : TEx H H1) (f : TEx H1 H2) : TEx H H2 := ⟨fun b xs h => f.1 b xs (e.1 b xs h), fun b o u h => f.2 b o u (e.2 b o u h)⟩
theorem TEx.t {K : PySem.W.Frag} {H H' : Hp} {a : Addr} {xs : List V} (e : TEx H H') (h : SqT K H a xs) : SqT K H' a xs := by
  rcases h with (h | ⟨o, h⟩) | h
  · exact .inl (.inl (e.1 _ _ h))
  · exact .inl (.inr ⟨o, e.2 _ _ _ h⟩)
  · exact .inr h
theorem TEx.upd {H : Hp} {a : Addr} {o u : HO} (h : H a = some u) (h1 : ∀ xs, u ≠ .tup xs) (h2 : ∀ o v, u ≠ .frz o v) : TEx H (upd H a o) :=
  ⟨fun b xs q => by rw [upd_ne (fun e => by rw [e, h] at q; exact h1 xs (Option.some.inj q))]; exact q, fun b o' v q => by rw [upd_ne (fun e => by rw [e, h] at q; exact h2 o' v (Option.some.inj q))]; exact q⟩
theorem TEx.new {H : Hp} {a : Addr} {o : HO} (h : H a = none) : TEx H (L2.upd H a o) :=
  ⟨fun b xs q => by rw [upd_ne (ne_of_none q h)]; exact q, fun b o' v q => by rw [upd_ne (ne_of_none q h)]; exact q⟩
theorem nd_noref {xs : List V} (h : ∀ x ∈ xs, ∀ a, x ≠ .ref a) : NotDraw (.lst xs) := fun N i e => by
  injection e with e
  exact h (.ref N) (by rw [e]; simp) N rfl
theorem nd_allref {xs : List V} (h : ∀ x ∈ xs, ∃ a, x = .ref a) : NotDraw (.lst xs) := fun N i e => by
  injection e with e
  obtain ⟨a, q⟩ := h (.int i) (by rw [e]; simp)
  cases q
section
variable {X : Cx} {σ : L2.St} {H : Hp} {elt tg c : Expr} {scope : Scope} {vs : List Nat} {a : Addr} {K : PySem.W.Frag} {L : Addr} {Qd : Hp → Prop}
/-- what stands between two turns: the list of the items made -/
def LInv (K : PySem.W.Frag) (R : Nat → V → Hp → Prop) (L : Addr) (H : Hp) (i : Nat) (H' : Hp) : Prop :=
  ∃ ys : List V, Ex K H H' ∧ H' L = some (.lst ys) ∧ ys.length = i ∧ ∀ j y, ys[j]? = some y → R j y H'
theorem linv_step {R : Nat → V → Hp → Prop} (mono : ∀ i y H H', TEx H H' → R i y H → R i y H') {i : Nat} {H3 H4 : Hp} {ys : List V} {y : V} (hL : H L = none) (e : Ex K H H3) (e4 : Ex K H3 H4) (hl : H3 L = some (.lst ys)) (nd : NotDraw (.lst ys)) (hi : ys.length = i)
    (hR : ∀ j y, ys[j]? = some y → R j y H3) (r : R i y H4) : H4 L = some (.lst ys) ∧ LInv K R L H (i + 1) (upd H4 L (.lst (ys ++ [y]))) := by
  have h4 : H4 L = some (.lst ys) := e4.keep _ _ nd hl
  have tx : TEx H4 (upd H4 L (.lst (ys ++ [y]))) := TEx.upd h4 (fun _ z => nomatch z) (fun _ _ z => nomatch z)
  refine ⟨h4, ys ++ [y], (e.trans e4).mut hL, upd_same, by simp [hi], fun j z hz => ?_⟩
  refine mono _ _ _ _ tx ?_
  by_cases hj : j < ys.length
  · rw [List.getElem?_append_left hj] at hz
    exact mono _ _ _ _ e4.tex (hR j z hz)
  · rw [List.getElem?_append_right (by omega)] at hz
    have : j - ys.length = 0 := by
      have := (List.getElem?_eq_some_iff.mp hz).1
      simp at this; omega
    rw [this] at hz
    have ej : j = i := by omega
    have ez : y = z := by simpa using hz
    rw [ej, ← ez]; exact r
/-- [elt for target in a list]: item by item -/
theorem lt_mapL (xs : List V) (R : Nat → V → Hp → Prop) (mono : ∀ i y H H', TEx H H' → R i y H → R i y H') (hL : H L = none) (hl : SqL K H a xs) (ndx : NotDraw (.lst xs)) (hz : xs.length ≤ 100000)
    (nd : ∀ (ys : List V) H, (∀ j y, ys[j]? = some y → R j y H) → NotDraw (.lst ys))
    (hs : ∀ i x H2, xs[i]? = some x → Ex K H H2 → GGb X scope tg x (wipe σ vs) H2 fun σ2 H3 => wipe σ2 vs = wipe σ vs ∧ Ex K H2 H3 ∧ EEb X scope elt σ2 H3 fun y H4 => Ex K H3 H4 ∧ R i y H4)
    (hd : ∀ ys H', Ex K H H' → H' L = some (.lst ys) → ys.length = xs.length → (∀ j y, ys[j]? = some y → R j y H') → Qd H') : LTurns (Itl K a) (GGb X scope tg) tYes (EEb X scope elt) vs σ L H Qd := by
  refine lc_list (xs := xs) (LInv K R L H) ⟨[], Ex.new hL, upd_same, rfl, fun j y h => by simp at h⟩ (fun i H' _ ⟨ys, e, _⟩ => e.l ndx hl) ?_ (fun H' ⟨ys, e, h1, h2, h3⟩ => hd ys H' e h1 h2 h3)
  rintro i x H2 hx ⟨ys, e, h1, h2, h3⟩
  intro s H0 C cl fp
  have hi := (List.getElem?_eq_some_iff.mp hx).1
  refine ⟨fun pins s1 u I r => thn ((hs i x H2 hx e s H0 C cl fp).run pins s1 u I r) fun _ s2 ⟨σ2, H3, I3, hw, e3, q⟩ => ⟨σ2, H3, I3, hw, ?_⟩⟩
  refine tyes ?_
  refine iteT ?_
  intro s H0 C cl fp
  refine ⟨fun pins s1 I => thn ((q s H0 C cl fp).run pins s1 I) fun u s2 ⟨y, H4, I4, r4, e4, hy⟩ => ⟨y, H4, I4, r4, ?_⟩⟩
  have nds := nd ys H2 h3
  obtain ⟨g1, g2⟩ := linv_step mono hL (e.trans e3) e4 (e3.keep _ _ nds h1) nds h2 (fun j y hj => mono _ _ _ _ e3.tex (h3 j y hj)) hy
  exact ⟨ys, g1, by rw [sizeLine_eq]; omega, g2⟩
theorem lt_mapT (xs : List V) (R : Nat → V → Hp → Prop) (mono : ∀ i y H H', TEx H H' → R i y H → R i y H') (hL : H L = none) (hl : SqT K H a xs) (hz : xs.length ≤ 100000)
    (nd : ∀ (ys : List V) H, (∀ j y, ys[j]? = some y → R j y H) → NotDraw (.lst ys))
    (hs : ∀ i x H2, xs[i]? = some x → Ex K H H2 → GGb X scope tg x (wipe σ vs) H2 fun σ2 H3 => wipe σ2 vs = wipe σ vs ∧ Ex K H2 H3 ∧ EEb X scope elt σ2 H3 fun y H4 => Ex K H3 H4 ∧ R i y H4)
    (hd : ∀ ys H', Ex K H H' → H' L = some (.lst ys) → ys.length = xs.length → (∀ j y, ys[j]? = some y → R j y H') → Qd H') : LTurns (Itt K a) (GGb X scope tg) tYes (EEb X scope elt) vs σ L H Qd := by
  refine lc_tup (xs := xs) (LInv K R L H) ⟨[], Ex.new hL, upd_same, rfl, fun j y h => by simp at h⟩ (fun i H' _ ⟨ys, e, _⟩ => e.t hl) ?_ (fun H' ⟨ys, e, h1, h2, h3⟩ => hd ys H' e h1 h2 h3)
  rintro i x H2 hx ⟨ys, e, h1, h2, h3⟩
  intro s H0 C cl fp
  have hi := (List.getElem?_eq_some_iff.mp hx).1
  refine ⟨fun pins s1 u I r => thn ((hs i x H2 hx e s H0 C cl fp).run pins s1 u I r) fun _ s2 ⟨σ2, H3, I3, hw, e3, q⟩ => ⟨σ2, H3, I3, hw, ?_⟩⟩
  refine tyes ?_
  refine iteT ?_
  intro s H0 C cl fp
  refine ⟨fun pins s1 I => thn ((q s H0 C cl fp).run pins s1 I) fun u s2 ⟨y, H4, I4, r4, e4, hy⟩ => ⟨y, H4, I4, r4, ?_⟩⟩
  have nds := nd ys H2 h3
  obtain ⟨g1, g2⟩ := linv_step mono hL (e.trans e3) e4 (e3.keep _ _ nds h1) nds h2 (fun j y hj => mono _ _ _ _ e3.tex (h3 j y hj)) hy
  exact ⟨ys, g1, by rw [sizeLine_eq]; omega, g2⟩
theorem lt_mapR (n : Nat) (R : Nat → V → Hp → Prop) (mono : ∀ i y H H', TEx H H' → R i y H → R i y H') (hL : H L = none) (hz : n ≤ 100000)
    (nd : ∀ (ys : List V) H, (∀ j y, ys[j]? = some y → R j y H) → NotDraw (.lst ys))
    (hs : ∀ i H2, i < n → Ex K H H2 → GGb X scope tg (.int (0 + (i : Int))) (wipe σ vs) H2 fun σ2 H3 => wipe σ2 vs = wipe σ vs ∧ Ex K H2 H3 ∧ EEb X scope elt σ2 H3 fun y H4 => Ex K H3 H4 ∧ R i y H4)
    (hd : ∀ ys H', Ex K H H' → H' L = some (.lst ys) → ys.length = n → (∀ j y, ys[j]? = some y → R j y H') → Qd H') : LTurns (Itr 0 n) (GGb X scope tg) tYes (EEb X scope elt) vs σ L H Qd := by
  refine lc_range (lo := 0) (n := n) (LInv K R L H) ⟨[], Ex.new hL, upd_same, rfl, fun j y h => by simp at h⟩ ?_ (fun H' ⟨ys, e, h1, h2, h3⟩ => hd ys H' e h1 h2 h3)
  rintro i H2 hi ⟨ys, e, h1, h2, h3⟩
  intro s H0 C cl fp
  refine ⟨fun pins s1 u I r => thn ((hs i H2 hi e s H0 C cl fp).run pins s1 u I r) fun _ s2 ⟨σ2, H3, I3, hw, e3, q⟩ => ⟨σ2, H3, I3, hw, ?_⟩⟩
  refine tyes ?_
  refine iteT ?_
  intro s H0 C cl fp
  refine ⟨fun pins s1 I => thn ((q s H0 C cl fp).run pins s1 I) fun u s2 ⟨y, H4, I4, r4, e4, hy⟩ => ⟨y, H4, I4, r4, ?_⟩⟩
  have nds := nd ys H2 h3
  obtain ⟨g1, g2⟩ := linv_step mono hL (e.trans e3) e4 (e3.keep _ _ nds h1) nds h2 (fun j y hj => mono _ _ _ _ e3.tex (h3 j y hj)) hy
  exact ⟨ys, g1, by rw [sizeLine_eq]; omega, g2⟩
/-- with a test: any word P over the turn, the items made, the heap -/
theorem lt_ifL (xs : List V) (Pv : Nat → List V → Hp → Prop) (hL : H L = none) (hl : SqL K H a xs) (ndx : NotDraw (.lst xs)) (hz : xs.length ≤ 100000) (h0 : ∀ H', TEx H H' → Pv 0 [] H') (hn : ∀ i ys H, Pv i ys H → ys.length ≤ i ∧ NotDraw (.lst ys))
    (mono : ∀ i ys H H', TEx H H' → Pv i ys H → Pv i ys H')
    (hs : ∀ i x ys H2, xs[i]? = some x → Ex K H H2 → Pv i ys H2 → GGb X scope tg x (wipe σ vs) H2 fun σ2 H3 => wipe σ2 vs = wipe σ vs ∧ Ex K H2 H3 ∧ BBb X scope c σ2 H3 fun b H4 => Ex K H3 H4 ∧ if b = true then EEb X scope elt σ2 H4 fun y H5 => Ex K H4 H5 ∧ Pv (i + 1) (ys ++ [y]) H5 else Pv (i + 1) ys H4)
    (hd : ∀ ys H', Ex K H H' → H' L = some (.lst ys) → Pv xs.length ys H' → Qd H') : LTurns (Itl K a) (GGb X scope tg) (BBb X scope c) (EEb X scope elt) vs σ L H Qd := by
  refine lc_list (xs := xs) (fun i H' => ∃ ys : List V, Ex K H H' ∧ H' L = some (.lst ys) ∧ Pv i ys H') ⟨[], Ex.new hL, upd_same, h0 _ (TEx.new hL)⟩ (fun i H' _ ⟨ys, e, _⟩ => e.l ndx hl) ?_ (fun H' ⟨ys, e, h1, h2⟩ => hd ys H' e h1 h2)
  rintro i x H2 hx ⟨ys, e, h1, h2⟩
  intro s H0 C cl fp
  have hi := (List.getElem?_eq_some_iff.mp hx).1
  obtain ⟨hlen, nds⟩ := hn i ys H2 h2
  refine ⟨fun pins s1 u I r => thn ((hs i x ys H2 hx e h2 s H0 C cl fp).run pins s1 u I r) fun _ s2 ⟨σ2, H3, I3, hw, e3, q⟩ => ⟨σ2, H3, I3, hw, ?_⟩⟩
  intro s H0 C cl fp
  refine ⟨fun pins s1 I => thn ((q s H0 C cl fp).run pins s1 I) fun b s2 ⟨H4, I4, e4, q4⟩ => ⟨H4, I4, ?_⟩⟩
  have l4 : H4 L = some (.lst ys) := e4.keep _ _ nds (e3.keep _ _ nds h1)
  cases b with
  | false => exact iteF ⟨ys, (e.trans e3).trans e4, l4, q4⟩
  | true =>
    refine iteT ?_
    intro s H0 C cl fp
    refine ⟨fun pins s1 I => thn ((q4 s H0 C cl fp).run pins s1 I) fun u s2 ⟨y, H5, I5, r5, e5, hy⟩ => ⟨y, H5, I5, r5, ?_⟩⟩
    have l5 : H5 L = some (.lst ys) := e5.keep _ _ nds l4
    exact ⟨ys, l5, by rw [sizeLine_eq]; omega, ys ++ [y], (((e.trans e3).trans e4).trans e5).mut hL, upd_same, mono _ _ _ _ (TEx.upd l5 (fun _ z => nomatch z) (fun _ _ z => nomatch z)) hy⟩
/-- [elt for target in a list for target1 in range(n)] -/
theorem lt2_L {tg1 iter1 : Expr} {vs1 : List Nat} (xs : List V) (n : Nat) (τ : V → L2.St) (Pv : Nat → Nat → List V → Hp → Prop) (hL : H L = none) (hl : SqL K H a xs) (ndx : NotDraw (.lst xs)) (h0 : ∀ H', TEx H H' → Pv 0 0 [] H')
    (hn : ∀ i j ys H, Pv i j ys H → ys.length ≤ 100000 ∧ NotDraw (.lst ys)) (mono : ∀ i j ys H H', TEx H H' → Pv i j ys H → Pv i j ys H')
    (hg : ∀ (i : Nat) (x : V) (H2 : Hp), xs[i]? = some x → Ex K H H2 → GGb X scope tg x (wipe σ vs) H2 fun σ2 H3 => σ2 = τ x ∧ wipe σ2 vs = wipe σ vs ∧ H3 = H2)
    (hi : ∀ (i : Nat) (x : V) (H2 : Hp) (R : It → Hp → Prop), xs[i]? = some x → R (Itr 0 n) H2 → IIb X scope tg1 iter1 (τ x) H2 R)
    (hs : ∀ (i : Nat) (x : V) (j : Nat) (ys : List V) (H2 : Hp), xs[i]? = some x → j < n → Ex K H H2 → Pv i j ys H2 → GGb X scope tg1 (.int (0 + (j : Int))) (wipe (τ x) vs1) H2 fun σ3 H3 => wipe σ3 vs1 = wipe (τ x) vs1 ∧ H3 = H2 ∧ EEb X scope elt σ3 H3 fun y H4 => Ex K H3 H4 ∧ Pv i (j + 1) (ys ++ [y]) H4)
    (hx : ∀ i ys H2, i < xs.length → Pv i n ys H2 → Pv (i + 1) 0 ys H2)
    (hd : ∀ ys H', Ex K H H' → H' L = some (.lst ys) → Pv xs.length 0 ys H' → Qd H') : LTurns2 (Itl K a) (GGb X scope tg) (IIb X scope tg1 iter1) (GGb X scope tg1) (EEb X scope elt) vs vs1 σ L H Qd := by
  refine ⟨fun i m H' => m = xs.length - i ∧ i ≤ xs.length ∧ ∃ ys : List V, Ex K H H' ∧ H' L = some (.lst ys) ∧ Pv i 0 ys H', ⟨xs.length, by simp, Nat.zero_le _, [], Ex.new hL, upd_same, h0 _ (TEx.new hL)⟩, ?_⟩
  rintro i m H2 ⟨rfl, hi2, ys, e, h1, h2⟩
  have q := e.l ndx hl
  by_cases hlt : i < xs.length
  · refine .inr ⟨⟨xs, xs[i], q, by simp [hlt]⟩, fun H' => ∃ ys : List V, Ex K H H' ∧ H' L = some (.lst ys) ∧ Pv (i + 1) 0 ys H', fun H' q' => ⟨xs.length - (i + 1), by omega, rfl, hlt, q'⟩, fun x H' y => ?_⟩
    obtain ⟨rfl, y⟩ := y
    have hx' := y xs q
    intro s H0 C cl fp
    refine ⟨fun pins s1 u I r => thn ((hg i x _ hx' e s H0 C cl fp).run pins s1 u I r) fun _ s2 ⟨σ2, H3, I3, e1, hw, e2⟩ => ⟨σ2, H3, I3, hw, ?_⟩⟩
    subst e1; subst e2
    refine tyes ?_
    refine iteT ?_
    refine hi i x _ _ hx' ?_
    refine ⟨fun j k H' => k = n - j ∧ j ≤ n ∧ ∃ ys : List V, Ex K H H' ∧ H' L = some (.lst ys) ∧ Pv i j ys H', ⟨n, by simp, Nat.zero_le _, ys, e, h1, h2⟩, ?_⟩
    rintro j k H4 ⟨rfl, hj, ys, e, h1, h2⟩
    by_cases hjn : j < n
    · refine .inr ⟨hjn, fun H' => ∃ ys : List V, Ex K H H' ∧ H' L = some (.lst ys) ∧ Pv i (j + 1) ys H', fun H' q' => ⟨n - (j + 1), by omega, rfl, hjn, q'⟩, fun z H' y => ?_⟩
      obtain ⟨rfl, rfl⟩ := y
      intro s H0 C cl fp
      refine ⟨fun pins s1 u I r => thn ((hs i x j ys _ hx' hjn e h2 s H0 C cl fp).run pins s1 u I r) fun _ s2 ⟨σ3, H3, I3, hw, e2, q3⟩ => ⟨σ3, H3, I3, hw, ?_⟩⟩
      subst e2
      refine tyes ?_
      refine iteT ?_
      intro s H0 C cl fp
      refine ⟨fun pins s1 I => thn ((q3 s H0 C cl fp).run pins s1 I) fun u s2 ⟨y, H5, I5, r5, e5, hy⟩ => ⟨y, H5, I5, r5, ?_⟩⟩
      obtain ⟨hlen, nds⟩ := hn _ _ _ _ h2
      have l5 : H5 L = some (.lst ys) := e5.keep _ _ nds h1
      exact ⟨ys, l5, by rw [sizeLine_eq]; omega, ys ++ [y], (e.trans e5).mut hL, upd_same, mono _ _ _ _ _ (TEx.upd l5 (fun _ z => nomatch z) (fun _ _ z => nomatch z)) hy⟩
    · have ej : j = n := by omega
      subst ej
      exact .inl ⟨Nat.le_refl _, ys, e, h1, hx _ _ _ hlt h2⟩
  · have ei : i = xs.length := by omega
    subst ei
    exact .inl ⟨⟨xs, q, Nat.le_refl _⟩, hd ys H2 e h1 h2⟩
end
end Sy
namespace Sy
inductive Fm (N : Type) where
  | rel (nm : N) (args : List N)
  | eq (x y : N)
  | less (x y : N)
  | not (f : Fm N)
  | join (s : Bool) (fs : List (Fm N))
  | quant (s : Bool) (vs : List N) (f : Fm N)
  | fix (l : Bool) (nm : N) (vs : List N) (f : Fm N) (args : List N)
  | tc (vs : List N) (f : Fm N) (args : List N)
  | guess (nm : N) (k : Nat) (f : Fm N)

abbrev Rel := List Int → Prop
def IsRow (n : Int) (k : Nat) (r : List Int) : Prop := r.length = k ∧ ∀ x ∈ r, 0 ≤ x ∧ x < n
inductive Rch (E : List Int → List Int → Prop) (a : List Int) : List Int → Prop
  | refl : Rch E a a
  | step {b c} : Rch E a b → E b c → Rch E a c
def stg (F : Rel → Rel) : Nat → Rel
  | 0 => fun _ => False
  | i + 1 => F (stg F i)
def fixR (F : Rel → Rel) : Rel := fun r => ∃ i, (∀ q, stg F i q ↔ stg F (i + 1) q) ∧ stg F i r
section
variable {N : Type} [DecidableEq N]
def bind1 (val : N → Int) (x : N) (v : Int) : N → Int := fun y => if y = x then v else val y
def bindR (val : N → Int) : List N → List Int → N → Int
  | x :: vs, v :: row => bindR (bind1 val x v) vs row
  | _, _ => val
def updR (ρ : N → Rel) (nm : N) (S : Rel) : N → Rel := fun m => if m = nm then S else ρ m
mutual
def Sem (n : Int) : Fm N → (N → Rel) → (N → Int) → Prop
  | .rel nm args, ρ, val => ρ nm (args.map val)
  | .eq x y, _, val => val x = val y
  | .less x y, _, val => val x < val y
  | .not f, ρ, val => ¬ Sem n f ρ val
  | .join true fs, ρ, val => SemAny n fs ρ val
  | .join false fs, ρ, val => SemAll n fs ρ val
  | .quant true vs f, ρ, val => ∃ r, IsRow n vs.length r ∧ Sem n f ρ (bindR val vs r)
  | .quant false vs f, ρ, val => ∀ r, IsRow n vs.length r → Sem n f ρ (bindR val vs r)
  | .fix _ nm vs f args, ρ, val => fixR (fun S r => IsRow n vs.length r ∧ Sem n f (updR ρ nm S) (bindR val vs r)) (args.map val)
  | .tc vs f args, ρ, val => Rch (fun a b => IsRow n (vs.length / 2) b ∧ Sem n f ρ (bindR val vs (a ++ b))) ((args.map val).take (vs.length / 2)) ((args.map val).drop (vs.length / 2))
  | .guess nm k f, ρ, val => ∃ S : Rel, Sem n f (updR ρ nm (fun r => IsRow n k r ∧ S r)) val
def SemAny (n : Int) : List (Fm N) → (N → Rel) → (N → Int) → Prop
  | [], _, _ => False
  | f :: fs, ρ, val => Sem n f ρ val ∨ SemAny n fs ρ val
def SemAll (n : Int) : List (Fm N) → (N → Rel) → (N → Int) → Prop
  | [], _, _ => True
  | f :: fs, ρ, val => Sem n f ρ val ∧ SemAll n fs ρ val
end
def kids : Fm N → List (Fm N)
  | .not f => [f]
  | .join _ fs => fs
  | .quant _ _ f => [f]
  | .fix _ _ _ f _ => [f]
  | .tc _ f _ => [f]
  | .guess _ _ f => [f]
  | _ => []
mutual
def depth : Fm N → Nat
  | .not f => depth f + 1
  | .join _ fs => depths fs + 1
  | .quant _ _ f => depth f + 1
  | .fix _ _ _ f _ => depth f + 1
  | .tc _ f _ => depth f + 1
  | .guess _ _ f => depth f + 1
  | _ => 1
def depths : List (Fm N) → Nat
  | [] => 0
  | f :: fs => max (depth f) (depths fs)
end
omit [DecidableEq N] in
theorem depths_le {f : Fm N} : ∀ {fs : List (Fm N)}, f ∈ fs → depth f ≤ depths fs
  | g :: fs, h => by
    rcases List.mem_cons.mp h with rfl | h
    · simp [depths]; omega
    · have := depths_le h; simp [depths]; omega
omit [DecidableEq N] in
theorem depth_kid {f g : Fm N} (h : g ∈ kids f) : depth g < depth f := by
  cases f <;> simp only [kids, List.mem_cons, List.not_mem_nil, or_false] at h <;> first | exact h.elim | (subst h; simp [depth]) | (have := depths_le h; simp [depth]; omega)
omit [DecidableEq N] in
theorem depth_pos (f : Fm N) : 1 ≤ depth f := by cases f <;> simp [depth]
/-- induction over a formula by its parts -/
theorem Fm.byKids {p : Fm N → Prop} (h : ∀ f, (∀ g ∈ kids f, p g) → p f) : ∀ f, p f := by
  have : ∀ d f, depth f ≤ d → p f := by
    intro d
    induction d with
    | zero => intro f hd; have := depth_pos f; omega
    | succ d ih => intro f hd; exact h f fun g hg => ih g (by have := depth_kid hg; omega)
  exact fun f => this _ f (Nat.le_refl _)
theorem semAny_iff {n : Int} {ρ : N → Rel} {val : N → Int} : ∀ {fs : List (Fm N)}, SemAny n fs ρ val ↔ ∃ f ∈ fs, Sem n f ρ val
  | [] => by simp [SemAny]
  | f :: fs => by simp [SemAny, semAny_iff (fs := fs)]
theorem semAll_iff {n : Int} {ρ : N → Rel} {val : N → Int} : ∀ {fs : List (Fm N)}, SemAll n fs ρ val ↔ ∀ f ∈ fs, Sem n f ρ val
  | [] => by simp [SemAll]
  | f :: fs => by simp [SemAll, semAll_iff (fs := fs)]

/-! ### renaming -/
/-- a permutation of the elements below n, with its inverse -/
structure Perm (n : Int) (π τ : Int → Int) : Prop where
  to : ∀ x, 0 ≤ x → x < n → 0 ≤ π x ∧ π x < n
  fro : ∀ x, 0 ≤ x → x < n → 0 ≤ τ x ∧ τ x < n
  tp : ∀ x, 0 ≤ x → x < n → τ (π x) = x
  pt : ∀ x, 0 ≤ x → x < n → π (τ x) = x
variable {n : Int} {π τ : Int → Int}
theorem Perm.row (p : Perm n π τ) {k : Nat} {r : List Int} (h : IsRow n k r) : IsRow n k (r.map π) := ⟨by rw [List.length_map]; exact h.1, fun x hx => by
  obtain ⟨y, hy, rfl⟩ := List.mem_map.mp hx
  exact p.to y (h.2 y hy).1 (h.2 y hy).2⟩
theorem Perm.symm (p : Perm n π τ) : Perm n τ π := ⟨p.fro, p.to, p.pt, p.tp⟩
theorem Perm.back (p : Perm n π τ) {r : List Int} (h : ∀ x ∈ r, 0 ≤ x ∧ x < n) : (r.map π).map τ = r := by
  rw [List.map_map]
  conv => rhs; rw [← List.map_id r]
  exact List.map_congr_left fun x hx => p.tp x (h x hx).1 (h x hx).2
theorem Perm.inj (p : Perm n π τ) {r q : List Int} (h : ∀ x ∈ r, 0 ≤ x ∧ x < n) (h' : ∀ x ∈ q, 0 ≤ x ∧ x < n) (e : r.map π = q.map π) : r = q := by
  rw [← p.back h, ← p.back h', e]
def InB (n : Int) (r : List Int) : Prop := ∀ x ∈ r, 0 ≤ x ∧ x < n
/-- the relations of the renamed world -/
def RelRen (n : Int) (π : Int → Int) (R R' : Rel) : Prop := ∀ r, InB n r → (R' (r.map π) ↔ R r)
theorem bindR_ren {val val' : N → Int} (h : ∀ x, val' x = π (val x)) : ∀ (vs : List N) (r : List Int) (x : N), bindR val' vs (r.map π) x = π (bindR val vs r x)
  | [], _, x => by simp [bindR, h]
  | _ :: _, [], x => by simp [bindR, h]
  | y :: vs, v :: r, x => by
    show bindR (bind1 val' y (π v)) vs (r.map π) x = π (bindR (bind1 val y v) vs r x)
    refine bindR_ren (fun z => ?_) vs r x
    unfold bind1
    split
    · rfl
    · exact h z
theorem bindR_inB {val : N → Int} (h : ∀ x, 0 ≤ val x ∧ val x < n) : ∀ (vs : List N) (r : List Int), InB n r → ∀ x, 0 ≤ bindR val vs r x ∧ bindR val vs r x < n
  | [], _, _, x => by simpa [bindR] using h x
  | _ :: _, [], _, x => by simpa [bindR] using h x
  | y :: vs, v :: r, hr, x => by
    refine bindR_inB (fun z => ?_) vs r (fun u hu => hr u (List.mem_cons_of_mem _ hu)) x
    unfold bind1
    split
    · exact hr v List.mem_cons_self
    · exact h z
theorem stg_row {k : Nat} {G : Rel → Rel} : ∀ i q, stg (fun S r => IsRow n k r ∧ G S r) i q → IsRow n k q
  | 0, _, h => h.elim
  | _ + 1, _, h => h.1
theorem stg_ren (p : Perm n π τ) {k : Nat} {G G' : Rel → Rel} (h : ∀ S S', RelRen n π S S' → ∀ r, IsRow n k r → (G' S' (r.map π) ↔ G S r)) :
    ∀ i, RelRen n π (stg (fun S r => IsRow n k r ∧ G S r) i) (stg (fun S r => IsRow n k r ∧ G' S r) i)
  | 0 => fun r _ => Iff.rfl
  | i + 1 => fun r hr => by
    show (IsRow n k (r.map π) ∧ _) ↔ (IsRow n k r ∧ _)
    have e : IsRow n k (r.map π) ↔ IsRow n k r := ⟨fun q => ⟨by simpa using q.1, hr⟩, p.row⟩
    rw [e]
    exact and_congr_right fun hk => h _ _ (stg_ren p h i) r hk
theorem fix_ren (p : Perm n π τ) {k : Nat} {G G' : Rel → Rel} (h : ∀ S S', RelRen n π S S' → ∀ r, IsRow n k r → (G' S' (r.map π) ↔ G S r)) :
    RelRen n π (fixR (fun S r => IsRow n k r ∧ G S r)) (fixR (fun S r => IsRow n k r ∧ G' S r)) := by
  intro r hr
  have R := stg_ren p h
  have st : ∀ i, (∀ q, stg (fun S r => IsRow n k r ∧ G S r) i q ↔ stg (fun S r => IsRow n k r ∧ G S r) (i + 1) q) ↔ (∀ q, stg (fun S r => IsRow n k r ∧ G' S r) i q ↔ stg (fun S r => IsRow n k r ∧ G' S r) (i + 1) q) := by
    intro i
    constructor
    · intro e q
      by_cases hq : IsRow n k q
      · have hb : InB n (q.map τ) := (p.symm.row hq).2
        have eq : (q.map τ).map π = q := p.symm.back hq.2
        rw [← eq, R i _ hb, R (i + 1) _ hb]
        exact e _
      · exact ⟨fun z => (hq (stg_row i q z)).elim, fun z => (hq (stg_row (i + 1) q z)).elim⟩
    · intro e q
      by_cases hq : IsRow n k q
      · rw [← R i _ hq.2, ← R (i + 1) _ hq.2]
        exact e _
      · exact ⟨fun z => (hq (stg_row i q z)).elim, fun z => (hq (stg_row (i + 1) q z)).elim⟩
  unfold fixR
  exact exists_congr fun i => and_congr (st i).symm (R i r hr)
theorem rch_ren (p : Perm n π τ) {k : Nat} {G G' : List Int → List Int → Prop} (h : ∀ a b, InB n a → IsRow n k b → (G' (a.map π) (b.map π) ↔ G a b)) {a b : List Int} (ha : InB n a)
    (hr : Rch (fun a b => IsRow n k b ∧ G a b) a b) : InB n b ∧ Rch (fun a b => IsRow n k b ∧ G' a b) (a.map π) (b.map π) := by
  induction hr with
  | refl => exact ⟨ha, .refl⟩
  | @step b c _ e ih =>
    obtain ⟨hb, r⟩ := ih
    exact ⟨e.1.2, .step r ⟨p.row e.1, (h b c hb e.1).mpr e.2⟩⟩
/-- no less in it -/
def NoLess : Fm N → Prop
  | .less _ _ => False
  | .rel _ _ => True
  | .eq _ _ => True
  | .not f => NoLess f
  | .join _ fs => NoLesss fs
  | .quant _ _ f => NoLess f
  | .fix _ _ _ f _ => NoLess f
  | .tc _ f _ => NoLess f
  | .guess _ _ f => NoLess f
where NoLesss : List (Fm N) → Prop
  | [] => True
  | f :: fs => NoLess f ∧ NoLesss fs
omit [DecidableEq N] in
theorem noLesss_iff : ∀ {fs : List (Fm N)}, NoLess.NoLesss fs ↔ ∀ f ∈ fs, NoLess f
  | [] => by simp [NoLess.NoLesss]
  | f :: fs => by simp [NoLess.NoLesss, noLesss_iff (fs := fs)]
omit [DecidableEq N] in
theorem NoLess.kid {f g : Fm N} (h : NoLess f) (hg : g ∈ kids f) : NoLess g := by
  cases f <;> simp only [kids, List.mem_cons, List.not_mem_nil, or_false] at hg <;> first | exact hg.elim | (subst hg; simpa only [NoLess] using h) | (simp only [NoLess] at h; exact noLesss_iff.mp h g hg)
theorem map_ren {val val' : N → Int} (h : ∀ x, val' x = π (val x)) (args : List N) : args.map val' = (args.map val).map π := by
  rw [List.map_map]; exact List.map_congr_left fun x _ => h x
theorem map_inB {val : N → Int} (h : ∀ x, 0 ≤ val x ∧ val x < n) (args : List N) : InB n (args.map val) := fun v hv => by
  obtain ⟨x, _, rfl⟩ := List.mem_map.mp hv; exact h x
theorem relRen_upd {ρ ρ' : N → Rel} (h : ∀ nm, RelRen n π (ρ nm) (ρ' nm)) {nm : N} {S S' : Rel} (hS : RelRen n π S S') : ∀ m, RelRen n π (updR ρ nm S m) (updR ρ' nm S' m) := fun m => by
  unfold updR; split
  · exact hS
  · exact h m
/-- THE RENAMING LAW -/
theorem sem_ren (p : Perm n π τ) : ∀ (f : Fm N), NoLess f → ∀ (ρ ρ' : N → Rel) (val val' : N → Int), (∀ nm, RelRen n π (ρ nm) (ρ' nm)) → (∀ x, val' x = π (val x)) → (∀ x, 0 ≤ val x ∧ val x < n) →
    (Sem n f ρ' val' ↔ Sem n f ρ val) := by
  refine Fm.byKids fun f ih hl ρ ρ' val val' hρ hv hb => ?_
  have ih' : ∀ g ∈ kids f, ∀ (ρ ρ' : N → Rel) (val val' : N → Int), (∀ nm, RelRen n π (ρ nm) (ρ' nm)) → (∀ x, val' x = π (val x)) → (∀ x, 0 ≤ val x ∧ val x < n) → (Sem n g ρ' val' ↔ Sem n g ρ val) :=
    fun g hg => ih g hg (hl.kid hg)
  cases f with
  | rel nm args =>
    simp only [Sem]
    rw [map_ren hv]
    exact hρ nm _ (map_inB hb args)
  | eq x y =>
    simp only [Sem]
    rw [hv, hv]
    constructor
    · intro e
      rw [← p.tp _ (hb x).1 (hb x).2, ← p.tp _ (hb y).1 (hb y).2, e]
    · intro e; rw [e]
  | less x y => exact (show False from hl).elim
  | not g =>
    simp only [Sem]
    rw [ih' g (by simp [kids]) ρ ρ' val val' hρ hv hb]
  | join s fs =>
    cases s <;> simp only [Sem]
    · rw [semAll_iff, semAll_iff]
      exact forall_congr' fun g => forall_congr' fun hg => ih' g hg ρ ρ' val val' hρ hv hb
    · rw [semAny_iff, semAny_iff]
      exact exists_congr fun g => and_congr_right fun hg => ih' g hg ρ ρ' val val' hρ hv hb
  | quant s vs g =>
    have e : ∀ r, IsRow n vs.length r → (Sem n g ρ' (bindR val' vs (r.map π)) ↔ Sem n g ρ (bindR val vs r)) := fun r hr =>
      ih' g (by simp [kids]) ρ ρ' _ _ hρ (fun x => bindR_ren hv vs r x) (bindR_inB hb vs r hr.2)
    cases s <;> simp only [Sem]
    · constructor
      · intro h r hr
        exact (e r hr).mp (h _ (p.row hr))
      · intro h r hr
        have eq : (r.map τ).map π = r := p.symm.back hr.2
        rw [← eq]
        exact (e _ (p.symm.row hr)).mpr (h _ (p.symm.row hr))
    · constructor
      · rintro ⟨r, hr, h⟩
        have eq : (r.map τ).map π = r := p.symm.back hr.2
        rw [← eq] at h
        exact ⟨r.map τ, p.symm.row hr, (e _ (p.symm.row hr)).mp h⟩
      · rintro ⟨r, hr, h⟩
        exact ⟨r.map π, p.row hr, (e r hr).mpr h⟩
  | fix l nm vs g args =>
    simp only [Sem]
    rw [map_ren hv]
    refine fix_ren p (G := fun S r => Sem n g (updR ρ nm S) (bindR val vs r)) (G' := fun S r => Sem n g (updR ρ' nm S) (bindR val' vs r)) (fun S S' hS r hr => ?_) _ (map_inB hb args)
    exact ih' g (by simp [kids]) _ _ _ _ (relRen_upd hρ hS) (fun x => bindR_ren hv vs r x) (bindR_inB hb vs r hr.2)
  | tc vs g args =>
    have hA := map_inB hb args
    have h1 : InB n ((args.map val).take (vs.length / 2)) := fun x hx => hA x (List.mem_of_mem_take hx)
    have e : ∀ a b, InB n a → IsRow n (vs.length / 2) b → (Sem n g ρ' (bindR val' vs (a.map π ++ b.map π)) ↔ Sem n g ρ (bindR val vs (a ++ b))) := fun a b ha hb' => by
      rw [← List.map_append]
      exact ih' g (by simp [kids]) ρ ρ' _ _ hρ (fun x => bindR_ren hv vs _ x) (bindR_inB hb vs _ (fun x hx => (List.mem_append.mp hx).elim (ha x) (hb'.2 x)))
    simp only [Sem]
    rw [map_ren hv, ← List.map_take, ← List.map_drop]
    constructor
    · intro r
      have q := rch_ren p.symm (G := fun a b => Sem n g ρ' (bindR val' vs (a ++ b))) (G' := fun a b => Sem n g ρ (bindR val vs (a ++ b))) (fun a b ha hb' => ?_) (fun x hx => ?_) r
      · have q2 := q.2
        rw [p.back h1, p.back (fun x hx => hA x (List.mem_of_mem_drop hx))] at q2
        exact q2
      · have e1 : (a.map τ).map π = a := p.symm.back ha
        have e2 : (b.map τ).map π = b := p.symm.back hb'.2
        have q := e (a.map τ) (b.map τ) ((p.symm.row ⟨rfl, ha⟩).2) (p.symm.row hb')
        rw [e1, e2] at q
        exact q.symm
      · obtain ⟨y, hy, rfl⟩ := List.mem_map.mp hx
        exact p.to y (h1 y hy).1 (h1 y hy).2
    · intro r
      exact (rch_ren p (G := fun a b => Sem n g ρ (bindR val vs (a ++ b))) (G' := fun a b => Sem n g ρ' (bindR val' vs (a ++ b))) e h1 r).2
  | guess nm k g =>
    simp only [Sem]
    constructor
    · rintro ⟨S, h⟩
      refine ⟨fun r => S (r.map π), (ih' g (by simp [kids]) _ _ val val' (relRen_upd hρ fun r hr => ?_) hv hb).mp h⟩
      exact and_congr ⟨fun q => ⟨by simpa using q.1, hr⟩, fun q => p.row q⟩ Iff.rfl
    · rintro ⟨S, h⟩
      refine ⟨fun r => S (r.map τ), (ih' g (by simp [kids]) _ _ val val' (relRen_upd hρ fun r hr => ?_) hv hb).mpr h⟩
      show (IsRow n k (r.map π) ∧ S ((r.map π).map τ)) ↔ (IsRow n k r ∧ S r)
      rw [p.back hr]
      exact and_congr ⟨fun q => ⟨by simpa using q.1, hr⟩, fun q => p.row q⟩ Iff.rfl
end
end Sy
namespace Sy
section
variable {N : Type} [DecidableEq N]
/-! ### occurrences, signs -/
mutual
def Occ (nm : N) : Fm N → Prop
  | .rel m _ => m = nm
  | .eq _ _ => False
  | .less _ _ => False
  | .not f => Occ nm f
  | .join _ fs => Occs nm fs
  | .quant _ _ f => Occ nm f
  | .fix _ m _ f _ => m ≠ nm ∧ Occ nm f
  | .tc _ f _ => Occ nm f
  | .guess m _ f => m ≠ nm ∧ Occ nm f
def Occs (nm : N) : List (Fm N) → Prop
  | [] => False
  | f :: fs => Occ nm f ∨ Occs nm fs
end
mutual
def Agr (nm : N) : Bool → Fm N → Prop
  | ev, .rel m _ => m ≠ nm ∨ ev = true
  | _, .eq _ _ => True
  | _, .less _ _ => True
  | ev, .not f => Agr nm (!ev) f
  | ev, .join _ fs => Agrs nm ev fs
  | ev, .quant _ _ f => Agr nm ev f
  | ev, .fix l m _ f _ => m = nm ∨ ((l = false → ¬ Occ nm f) ∧ Agr nm ev f)
  | ev, .tc _ f _ => Agr nm ev f
  | ev, .guess m _ f => m = nm ∨ Agr nm ev f
def Agrs (nm : N) : Bool → List (Fm N) → Prop
  | _, [] => True
  | ev, f :: fs => Agr nm ev f ∧ Agrs nm ev fs
end
mutual
/-- the formula within each lfp is positive -/
def LfpOk : Fm N → Prop
  | .rel _ _ => True
  | .eq _ _ => True
  | .less _ _ => True
  | .not f => LfpOk f
  | .join _ fs => LfpOks fs
  | .quant _ _ f => LfpOk f
  | .fix l m _ f _ => (l = true → Agr m true f) ∧ LfpOk f
  | .tc _ f _ => LfpOk f
  | .guess _ _ f => LfpOk f
def LfpOks : List (Fm N) → Prop
  | [] => True
  | f :: fs => LfpOk f ∧ LfpOks fs
end
theorem occs_iff {nm : N} : ∀ {fs : List (Fm N)}, Occs nm fs ↔ ∃ f ∈ fs, Occ nm f
  | [] => by simp [Occs]
  | f :: fs => by simp [Occs, occs_iff (fs := fs)]
theorem agrs_iff {nm : N} {ev : Bool} : ∀ {fs : List (Fm N)}, Agrs nm ev fs ↔ ∀ f ∈ fs, Agr nm ev f
  | [] => by simp [Agrs]
  | f :: fs => by simp [Agrs, agrs_iff (fs := fs)]
theorem lfpOks_iff : ∀ {fs : List (Fm N)}, LfpOks fs ↔ ∀ f ∈ fs, LfpOk f
  | [] => by simp [LfpOks]
  | f :: fs => by simp [LfpOks, lfpOks_iff (fs := fs)]
theorem LfpOk.kid {f g : Fm N} (h : LfpOk f) (hg : g ∈ kids f) : LfpOk g := by
  cases f <;> simp only [kids, List.mem_cons, List.not_mem_nil, or_false] at hg <;> first | exact hg.elim | (subst hg; simp only [LfpOk] at h; first | exact h | exact h.2) | (simp only [LfpOk] at h; exact lfpOks_iff.mp h g hg)

/-! ### a name that doesn't occur does not matter -/
theorem stg_congr {F G : Rel → Rel} (h : ∀ S, F S = G S) : ∀ i, stg F i = stg G i
  | 0 => rfl
  | i + 1 => by show F (stg F i) = G (stg G i); rw [stg_congr h i, h]
theorem fix_congr {F G : Rel → Rel} (h : ∀ S, F S = G S) : fixR F = fixR G := by
  have e : F = G := funext h
  rw [e]
theorem updR_same {ρ : N → Rel} {nm : N} {S : Rel} : updR ρ nm S nm = S := by simp [updR]
theorem updR_ne {ρ : N → Rel} {nm m : N} {S : Rel} (h : m ≠ nm) : updR ρ nm S m = ρ m := by simp [updR, h]
variable {n : Int}
theorem sem_noocc (nm : N) : ∀ (f : Fm N), ¬ Occ nm f → ∀ (ρ ρ' : N → Rel) (val : N → Int), (∀ m, m ≠ nm → ρ m = ρ' m) → (Sem n f ρ val ↔ Sem n f ρ' val) := by
  refine Fm.byKids fun f ih ho ρ ρ' val hρ => ?_
  have up : ∀ (m : N) (S : Rel), m ≠ nm → ∀ k, k ≠ nm → updR ρ m S k = updR ρ' m S k := fun m S _ k hk => by
    by_cases e : k = m
    · subst e; rw [updR_same, updR_same]
    · rw [updR_ne e, updR_ne e, hρ k hk]
  have all : ∀ (m : N) (S : Rel), m = nm → ∀ k, updR ρ m S k = updR ρ' m S k := fun m S e k => by
    by_cases e2 : k = m
    · subst e2; rw [updR_same, updR_same]
    · rw [updR_ne e2, updR_ne e2, hρ k (by rw [← e]; exact e2)]
  cases f with
  | rel m args =>
    simp only [Sem]
    rw [hρ m ho]
  | eq x y => simp only [Sem]
  | less x y => simp only [Sem]
  | not g =>
    simp only [Sem]
    rw [ih g (by simp [kids]) ho ρ ρ' val hρ]
  | join s fs =>
    have hg : ∀ g ∈ fs, (Sem n g ρ val ↔ Sem n g ρ' val) := fun g hg => ih g hg (fun z => ho (by simp only [Occ]; exact occs_iff.mpr ⟨g, hg, z⟩)) ρ ρ' val hρ
    cases s <;> simp only [Sem]
    · rw [semAll_iff, semAll_iff]; exact forall_congr' fun g => forall_congr' fun h => hg g h
    · rw [semAny_iff, semAny_iff]; exact exists_congr fun g => and_congr_right fun h => hg g h
  | quant s vs g =>
    cases s <;> simp only [Sem]
    · exact forall_congr' fun r => forall_congr' fun _ => ih g (by simp [kids]) ho ρ ρ' _ hρ
    · exact exists_congr fun r => and_congr_right fun _ => ih g (by simp [kids]) ho ρ ρ' _ hρ
  | fix l m vs g args =>
    simp only [Sem]
    have e : (fun (S : Rel) r => IsRow n vs.length r ∧ Sem n g (updR ρ m S) (bindR val vs r)) = (fun (S : Rel) r => IsRow n vs.length r ∧ Sem n g (updR ρ' m S) (bindR val vs r)) := by
      funext S r
      refine propext (and_congr_right fun _ => ?_)
      by_cases em : m = nm
      · have : updR ρ m S = updR ρ' m S := funext (all m S em)
        rw [this]
      · exact ih g (by simp [kids]) (fun z => ho (by simp only [Occ]; exact ⟨em, z⟩)) _ _ _ (up m S em)
    rw [e]
  | tc vs g args =>
    simp only [Sem]
    have e : (fun a b => IsRow n (vs.length / 2) b ∧ Sem n g ρ (bindR val vs (a ++ b))) = (fun a b => IsRow n (vs.length / 2) b ∧ Sem n g ρ' (bindR val vs (a ++ b))) := by
      funext a b
      exact propext (and_congr_right fun _ => ih g (by simp [kids]) ho ρ ρ' _ hρ)
    rw [e]
  | guess m k g =>
    simp only [Sem]
    refine exists_congr fun S => ?_
    by_cases em : m = nm
    · have : updR ρ m (fun r => IsRow n k r ∧ S r) = updR ρ' m (fun r => IsRow n k r ∧ S r) := funext (all m _ em)
      rw [this]
    · exact ih g (by simp [kids]) (fun z => ho (by simp only [Occ]; exact ⟨em, z⟩)) _ _ _ (up m _ em)

/-! ### growing stages -/
def Sub (R R' : Rel) : Prop := ∀ r, R r → R' r
theorem stg_grow {F : Rel → Rel} (hm : ∀ S S', Sub S S' → Sub (F S) (F S')) : ∀ i, Sub (stg F i) (stg F (i + 1))
  | 0 => fun _ h => h.elim
  | i + 1 => hm _ _ (stg_grow hm i)
theorem stg_le {F : Rel → Rel} (hm : ∀ S S', Sub S S' → Sub (F S) (F S')) {i : Nat} : ∀ j, i ≤ j → Sub (stg F i) (stg F j)
  | 0, h => by have e : i = 0 := by omega
               subst e; exact fun _ q => q
  | j + 1, h => by
    by_cases e : i = j + 1
    · subst e; exact fun _ q => q
    · exact fun r q => stg_grow hm j r (stg_le hm j (by omega) r q)
theorem stg_sub {F G : Rel → Rel} (h : ∀ S S', Sub S S' → Sub (F S) (G S')) : ∀ i, Sub (stg F i) (stg G i)
  | 0 => fun _ q => q
  | i + 1 => h _ _ (stg_sub h i)
/-- all rows below n, ascending -/
def rowsL (n : Nat) : Nat → List (List Int)
  | 0 => [[]]
  | k + 1 => (rowsL n k).flatMap fun r => (List.range n).map fun i : Nat => r ++ [(i : Int)]
theorem mem_rowsL {n : Nat} : ∀ {k : Nat} {r : List Int}, r ∈ rowsL n k ↔ IsRow n k r
  | 0, r => by
    simp only [rowsL, List.mem_singleton, IsRow]
    constructor
    · rintro rfl; simp
    · intro h; exact List.eq_nil_of_length_eq_zero h.1
  | k + 1, r => by
    simp only [rowsL, List.mem_flatMap, List.mem_map, List.mem_range]
    constructor
    · rintro ⟨q, hq, i, hi, rfl⟩
      obtain ⟨h1, h2⟩ := mem_rowsL.mp hq
      refine ⟨by simp [h1], fun x hx => ?_⟩
      rcases List.mem_append.mp hx with hx | hx
      · exact h2 x hx
      · have : x = (i : Int) := by simpa using hx
        omega
    · rintro ⟨h1, h2⟩
      have hne : r ≠ [] := fun e => by rw [e] at h1; simp at h1
      refine ⟨r.dropLast, mem_rowsL.mpr ⟨by simp [h1], fun x hx => h2 x (List.dropLast_subset r hx)⟩, (r.getLast hne).toNat, ?_, ?_⟩
      · have := h2 _ (List.getLast_mem hne); omega
      · have := h2 _ (List.getLast_mem hne)
        have e : ((r.getLast hne).toNat : Int) = r.getLast hne := by omega
        rw [e]
        exact List.dropLast_concat_getLast hne
open Classical in
/-- how many rows there are in a relation -/
noncomputable def cnt (n : Nat) (k : Nat) (R : Rel) : Nat := ((rowsL n k).filter fun r => decide (R r)).length
open Classical in
theorem filter_lt {α : Type} : ∀ (l : List α) (p q : α → Prop), (∀ x ∈ l, p x → q x) → (∃ x ∈ l, q x ∧ ¬ p x) → (l.filter fun x => decide (p x)).length < (l.filter fun x => decide (q x)).length
  | [], _, _, _, h => by obtain ⟨_, hx, _⟩ := h; cases hx
  | a :: l, p, q, h, ⟨x, hx, hq, hp⟩ => by
    have le : ∀ l : List α, (∀ x ∈ l, p x → q x) → (l.filter fun x => decide (p x)).length ≤ (l.filter fun x => decide (q x)).length := by
      intro l
      induction l with
      | nil => intro _; exact Nat.le_refl _
      | cons b l ih =>
        intro h
        have := ih fun x hx => h x (List.mem_cons_of_mem _ hx)
        by_cases hb : p b
        · have hqb := h b List.mem_cons_self hb
          simp [List.filter_cons, hb, hqb]; omega
        · by_cases hqb : q b
          · simp [List.filter_cons, hb, hqb]; omega
          · simp [List.filter_cons, hb, hqb]; omega
    rcases List.mem_cons.mp hx with rfl | hx
    · have := le l fun x hx => h x (List.mem_cons_of_mem _ hx)
      simp [List.filter_cons, hp, hq]; omega
    · have := filter_lt l p q (fun x hx => h x (List.mem_cons_of_mem _ hx)) ⟨x, hx, hq, hp⟩
      by_cases hb : p a
      · have hqb := h a List.mem_cons_self hb
        simp [List.filter_cons, hb, hqb]; omega
      · by_cases hqb : q a
        · simp [List.filter_cons, hb, hqb]; omega
        · simp [List.filter_cons, hb, hqb]; omega
theorem cnt_le (n k : Nat) (R : Rel) : cnt n k R ≤ (rowsL n k).length := List.length_filter_le _ _
theorem cnt_lt {n k : Nat} {R R' : Rel} (h : Sub R R') (h' : ∃ r, IsRow n k r ∧ R' r ∧ ¬ R r) : cnt n k R < cnt n k R' :=
  filter_lt _ _ _ (fun r _ q => h r q) (let ⟨r, a, b, c⟩ := h'; ⟨r, mem_rowsL.mpr a, b, c⟩)
/-- a growing chain of stages within the rows stands still -/
theorem stg_stable {n k : Nat} {F : Rel → Rel} (hm : ∀ S S', Sub S S' → Sub (F S) (F S')) (hr : ∀ S r, F S r → IsRow n k r) : ∃ i, ∀ q, stg F i q ↔ stg F (i + 1) q := by
  refine Classical.byContradiction fun hn => ?_
  have step : ∀ i, ∃ r, IsRow n k r ∧ stg F (i + 1) r ∧ ¬ stg F i r := fun i => by
    refine Classical.byContradiction fun z => hn ⟨i, fun q => ⟨stg_grow hm i q, fun h => Classical.byContradiction fun h' => z ⟨q, hr _ q h, h, h'⟩⟩⟩
  have big : ∀ i, i ≤ cnt n k (stg F i) := fun i => by
    induction i with
    | zero => exact Nat.zero_le _
    | succ i ih => have := cnt_lt (n := n) (k := k) (stg_grow hm i) (step i); omega
  have h1 := big ((rowsL n k).length + 1)
  have h2 := cnt_le n k (stg F ((rowsL n k).length + 1))
  omega
/-- the least fixed point grows with its body -/
theorem fix_sub {n k : Nat} {F G : Rel → Rel} (hG : ∀ S S', Sub S S' → Sub (G S) (G S')) (hGr : ∀ S r, G S r → IsRow n k r) (h : ∀ S S', Sub S S' → Sub (F S) (G S')) : Sub (fixR F) (fixR G) := by
  rintro r ⟨i, hi, h1⟩
  obtain ⟨j, hj⟩ := stg_stable hG hGr
  have fwd : ∀ m, ∀ q, stg G (j + m) q ↔ stg G j q := by
    intro m
    induction m with
    | zero => exact fun _ => Iff.rfl
    | succ m ih =>
      intro q
      have e : stg G (j + m) = stg G j := funext fun q => propext (ih q)
      show G (stg G (j + m)) q ↔ _
      rw [e]
      exact (hj q).symm
  refine ⟨j, hj, ?_⟩
  have := stg_sub h i r h1
  have := stg_le hG (i + j) (Nat.le_add_right i j) r this
  rw [Nat.add_comm] at this
  exact (fwd i r).mp this
theorem rch_sub {E E' : List Int → List Int → Prop} (h : ∀ a b, E a b → E' a b) {a b : List Int} (r : Rch E a b) : Rch E' a b := by
  induction r with
  | refl => exact .refl
  | step _ e ih => exact .step ih (h _ _ e)
/-- THE MONOTONE LAW -/
theorem sem_mono {n : Nat} : ∀ (f : Fm N), LfpOk f → ∀ (nm : N) (ev : Bool), Agr nm ev f → ∀ (ρ ρ' : N → Rel) (val : N → Int), (∀ m, m ≠ nm → ρ m = ρ' m) → Sub (ρ nm) (ρ' nm) →
    (ev = true → Sem n f ρ val → Sem n f ρ' val) ∧ (ev = false → Sem n f ρ' val → Sem n f ρ val) := by
  refine Fm.byKids fun f ih hl nm ev ha ρ ρ' val hρ hs => ?_
  have up : ∀ (m : N) (S : Rel), ∀ k, k ≠ nm → updR ρ m S k = updR ρ' m S k := fun m S k hk => by
    by_cases e : k = m
    · subst e; rw [updR_same, updR_same]
    · rw [updR_ne e, updR_ne e, hρ k hk]
  have upS : ∀ (m : N) (S : Rel), m ≠ nm → Sub (updR ρ m S nm) (updR ρ' m S nm) := fun m S h => by
    rw [updR_ne (Ne.symm h), updR_ne (Ne.symm h)]; exact hs
  have all : ∀ (m : N) (S : Rel), m = nm → updR ρ m S = updR ρ' m S := fun m S e => funext fun k => by
    by_cases e2 : k = m
    · subst e2; rw [updR_same, updR_same]
    · rw [updR_ne e2, updR_ne e2, hρ k (by rw [← e]; exact e2)]
  cases f with
  | rel m args =>
    simp only [Sem]
    by_cases e : m = nm
    · subst e
      have hev : ev = true := by rcases (show m ≠ m ∨ ev = true from ha) with h | h
                                 · exact absurd rfl h
                                 · exact h
      exact ⟨fun _ h => hs _ h, fun h => by rw [hev] at h; cases h⟩
    · rw [hρ m e]; exact ⟨fun _ h => h, fun _ h => h⟩
  | eq x y => exact ⟨fun _ h => h, fun _ h => h⟩
  | less x y => exact ⟨fun _ h => h, fun _ h => h⟩
  | not g =>
    simp only [Sem]
    have q := ih g (by simp [kids]) (hl.kid (by simp [kids])) nm (!ev) ha ρ ρ' val hρ hs
    exact ⟨fun h z z' => z (q.2 (by simp [h]) z'), fun h z z' => z (q.1 (by simp [h]) z')⟩
  | join s fs =>
    have q : ∀ g ∈ fs, _ := fun g hg => ih g hg (hl.kid hg) nm ev (agrs_iff.mp ha g hg) ρ ρ' val hρ hs
    cases s <;> simp only [Sem]
    · rw [semAll_iff, semAll_iff]
      exact ⟨fun h z g hg => (q g hg).1 h (z g hg), fun h z g hg => (q g hg).2 h (z g hg)⟩
    · rw [semAny_iff, semAny_iff]
      exact ⟨fun h ⟨g, hg, z⟩ => ⟨g, hg, (q g hg).1 h z⟩, fun h ⟨g, hg, z⟩ => ⟨g, hg, (q g hg).2 h z⟩⟩
  | quant s vs g =>
    have q : ∀ r : List Int, _ := fun r => ih g (by simp [kids]) (hl.kid (by simp [kids])) nm ev ha ρ ρ' (bindR val vs r) hρ hs
    cases s <;> simp only [Sem]
    · exact ⟨fun h z r hr => (q r).1 h (z r hr), fun h z r hr => (q r).2 h (z r hr)⟩
    · exact ⟨fun h ⟨r, hr, z⟩ => ⟨r, hr, (q r).1 h z⟩, fun h ⟨r, hr, z⟩ => ⟨r, hr, (q r).2 h z⟩⟩
  | fix l m vs g args =>
    simp only [Sem]
    have same : ∀ {ρ₁ ρ₂ : N → Rel}, (∀ S, updR ρ₁ m S = updR ρ₂ m S) → (fun (S : Rel) r => IsRow n vs.length r ∧ Sem n g (updR ρ₁ m S) (bindR val vs r)) = (fun (S : Rel) r => IsRow n vs.length r ∧ Sem n g (updR ρ₂ m S) (bindR val vs r)) := fun h => by
      funext S r; rw [h S]
    rcases (show m = nm ∨ ((l = false → ¬ Occ nm g) ∧ Agr nm ev g) from ha) with e | ⟨ho, hag⟩
    · rw [same fun S => all m S e]
      exact ⟨fun _ h => h, fun _ h => h⟩
    · by_cases e : m = nm
      · rw [same fun S => all m S e]
        exact ⟨fun _ h => h, fun _ h => h⟩
      cases l with
      | false =>
        have eq : (fun (S : Rel) r => IsRow n vs.length r ∧ Sem n g (updR ρ m S) (bindR val vs r)) = (fun (S : Rel) r => IsRow n vs.length r ∧ Sem n g (updR ρ' m S) (bindR val vs r)) := by
          funext S r
          exact propext (and_congr_right fun _ => sem_noocc nm g (ho rfl) _ _ _ (up m S))
        rw [eq]
        exact ⟨fun _ h => h, fun _ h => h⟩
      | true =>
        have hg : Agr m true g := hl.1 rfl
        have own : ∀ (ρ₁ : N → Rel) (S S' : Rel), Sub S S' → Sub (fun r => IsRow n vs.length r ∧ Sem n g (updR ρ₁ m S) (bindR val vs r)) (fun r => IsRow n vs.length r ∧ Sem n g (updR ρ₁ m S') (bindR val vs r)) := fun ρ₁ S S' h r ⟨h1, h2⟩ =>
          ⟨h1, (ih g (by simp [kids]) hl.2 m true hg (updR ρ₁ m S) (updR ρ₁ m S') (bindR val vs r) (fun k hk => by rw [updR_ne hk, updR_ne hk]) (by rw [updR_same, updR_same]; exact h)).1 rfl h2⟩
        have q : ∀ (S : Rel) (r : List Int), _ := fun S r => ih g (by simp [kids]) hl.2 nm ev hag (updR ρ m S) (updR ρ' m S) (bindR val vs r) (up m S) (upS m S e)
        refine ⟨fun hev h => ?_, fun hev h => ?_⟩
        · refine fix_sub (own ρ') (fun S r z => z.1) (fun S S' hS r ⟨h1, h2⟩ => own ρ' S S' hS r ⟨h1, (q S r).1 hev h2⟩) _ h
        · refine fix_sub (own ρ) (fun S r z => z.1) (fun S S' hS r ⟨h1, h2⟩ => own ρ S S' hS r ⟨h1, (q S r).2 hev h2⟩) _ h
  | tc vs g args =>
    have q : ∀ r : List Int, _ := fun r => ih g (by simp [kids]) (hl.kid (by simp [kids])) nm ev ha ρ ρ' (bindR val vs r) hρ hs
    simp only [Sem]
    exact ⟨fun h z => rch_sub (fun a b ⟨h1, h2⟩ => ⟨h1, (q _).1 h h2⟩) z, fun h z => rch_sub (fun a b ⟨h1, h2⟩ => ⟨h1, (q _).2 h h2⟩) z⟩
  | guess m k g =>
    simp only [Sem]
    by_cases e : m = nm
    · have eq : ∀ S, updR ρ m S = updR ρ' m S := fun S => all m S e
      exact ⟨fun _ ⟨S, z⟩ => ⟨S, by rw [← eq]; exact z⟩, fun _ ⟨S, z⟩ => ⟨S, by rw [eq]; exact z⟩⟩
    · have hag : Agr nm ev g := (show m = nm ∨ Agr nm ev g from ha).resolve_left e
      have q : ∀ S : Rel, _ := fun S => ih g (by simp [kids]) (hl.kid (by simp [kids])) nm ev hag (updR ρ m S) (updR ρ' m S) val (up m S) (upS m S e)
      exact ⟨fun h ⟨S, z⟩ => ⟨S, (q _).1 h z⟩, fun h ⟨S, z⟩ => ⟨S, (q _).2 h z⟩⟩
end
end Sy
namespace Sy
section
variable {N : Type} [DecidableEq N]
/-! ### the typing of a drawn formula -/
abbrev Gam (N : Type) := List (N × Nat × Nat)
def tm : Nat → Nat
  | 0 => 0
  | 1 => 2
  | 2 => 1
  | _ => 3
def bm : Nat → Nat
  | 0 => 0
  | _ => 3
def within (Γ : Gam N) (nm : N) (k m : Nat) : Gam N := Γ.filter (fun t => decide (t.1 ≠ nm)) ++ [(nm, k, m)]
def turned (Γ : Gam N) : Gam N := Γ.map fun t => (t.1, t.2.1, tm t.2.2)
def barred (Γ : Gam N) : Gam N := Γ.map fun t => (t.1, t.2.1, bm t.2.2)
variable (vr nr : N → Prop)
def VsOk (vs : List N) : Prop := vs.Nodup ∧ 1 ≤ vs.length ∧ vs.length ≤ 3 ∧ ∀ x ∈ vs, vr x
mutual
def WF : Gam N → Fm N → Prop
  | Γ, .rel nm args => (∃ m, m < 2 ∧ (nm, args.length, m) ∈ Γ) ∧ ∀ x ∈ args, vr x
  | _, .eq x y => vr x ∧ vr y
  | _, .less x y => vr x ∧ vr y
  | Γ, .not f => WF (turned Γ) f
  | Γ, .join _ fs => fs.length ≤ 3 ∧ WFs Γ fs
  | Γ, .quant _ vs f => VsOk vr vs ∧ WF Γ f
  | Γ, .fix true nm vs f args => VsOk vr vs ∧ nr nm ∧ args.length = vs.length ∧ (∀ x ∈ args, vr x) ∧ WF (within Γ nm vs.length 1) f
  | Γ, .fix false nm vs f args => VsOk vr vs ∧ nr nm ∧ args.length = vs.length ∧ (∀ x ∈ args, vr x) ∧ WF (within (barred Γ) nm vs.length 0) f
  | Γ, .tc vs f args => VsOk vr vs ∧ vs.length = 2 ∧ args.length = 2 ∧ (∀ x ∈ args, vr x) ∧ WF Γ f
  | Γ, .guess nm k f => nr nm ∧ k ≤ 1 ∧ WF (within Γ nm k 0) f
def WFs : Gam N → List (Fm N) → Prop
  | _, [] => True
  | Γ, f :: fs => WF Γ f ∧ WFs Γ fs
end
variable {vr nr}
theorem wfs_iff {Γ : Gam N} : ∀ {fs : List (Fm N)}, WFs vr nr Γ fs ↔ ∀ f ∈ fs, WF vr nr Γ f
  | [] => by simp [WFs]
  | f :: fs => by simp [WFs, wfs_iff (fs := fs)]
/-- each name once; names are names; arities at most 3 -/
structure GamOk (nr : N → Prop) (Γ : Gam N) : Prop where
  one : ∀ nm a m a' m', (nm, a, m) ∈ Γ → (nm, a', m') ∈ Γ → a = a' ∧ m = m'
  nm : ∀ t ∈ Γ, nr t.1 ∧ t.2.1 ≤ 3
theorem mem_within {Γ : Gam N} {nm : N} {k m : Nat} {t : N × Nat × Nat} : t ∈ within Γ nm k m ↔ (t ∈ Γ ∧ t.1 ≠ nm) ∨ t = (nm, k, m) := by
  unfold within; simp
theorem mem_turned {Γ : Gam N} {t : N × Nat × Nat} : t ∈ turned Γ ↔ ∃ m, (t.1, t.2.1, m) ∈ Γ ∧ t.2.2 = tm m := by
  unfold turned; simp only [List.mem_map]
  constructor
  · rintro ⟨⟨a, b, c⟩, h, rfl⟩; exact ⟨c, h, rfl⟩
  · rintro ⟨m, h, e⟩; exact ⟨_, h, by rw [← e]⟩
theorem mem_barred {Γ : Gam N} {t : N × Nat × Nat} : t ∈ barred Γ ↔ ∃ m, (t.1, t.2.1, m) ∈ Γ ∧ t.2.2 = bm m := by
  unfold barred; simp only [List.mem_map]
  constructor
  · rintro ⟨⟨a, b, c⟩, h, rfl⟩; exact ⟨c, h, rfl⟩
  · rintro ⟨m, h, e⟩; exact ⟨_, h, by rw [← e]⟩
theorem GamOk.within {Γ : Gam N} (g : GamOk nr Γ) {nm : N} {k m : Nat} (h : nr nm) (hk : k ≤ 3) : GamOk nr (within Γ nm k m) where
  one := fun x a m a' m' h1 h2 => by
    rcases mem_within.mp h1 with ⟨p1, p2⟩ | p
    · rcases mem_within.mp h2 with ⟨q1, q2⟩ | q
      · exact g.one _ _ _ _ _ p1 q1
      · cases q; exact absurd rfl p2
    · cases p
      rcases mem_within.mp h2 with ⟨q1, q2⟩ | q
      · exact absurd rfl q2
      · cases q; exact ⟨rfl, rfl⟩
  nm := fun t ht => by
    rcases mem_within.mp ht with ⟨p1, _⟩ | rfl
    · exact g.nm t p1
    · exact ⟨h, hk⟩
theorem GamOk.turned {Γ : Gam N} (g : GamOk nr Γ) : GamOk nr (turned Γ) where
  one := fun x a m a' m' h1 h2 => by
    obtain ⟨u, hu, e⟩ := mem_turned.mp h1
    obtain ⟨u', hu', e'⟩ := mem_turned.mp h2
    obtain ⟨q1, q2⟩ := g.one _ _ _ _ _ hu hu'
    exact ⟨q1, by simp only at e e'; rw [e, e', q2]⟩
  nm := fun t ht => by obtain ⟨u, hu, _⟩ := mem_turned.mp ht; exact (g.nm (t.1, t.2.1, u) hu)
theorem GamOk.barred {Γ : Gam N} (g : GamOk nr Γ) : GamOk nr (barred Γ) where
  one := fun x a m a' m' h1 h2 => by
    obtain ⟨u, hu, e⟩ := mem_barred.mp h1
    obtain ⟨u', hu', e'⟩ := mem_barred.mp h2
    obtain ⟨q1, q2⟩ := g.one _ _ _ _ _ hu hu'
    exact ⟨q1, by simp only at e e'; rw [e, e', q2]⟩
  nm := fun t ht => by obtain ⟨u, hu, _⟩ := mem_barred.mp ht; exact (g.nm (t.1, t.2.1, u) hu)
/-- the typings of the parts -/
def sub (Γ : Gam N) : Fm N → Gam N
  | .not _ => turned Γ
  | .fix true nm vs _ _ => within Γ nm vs.length 1
  | .fix false nm vs _ _ => within (barred Γ) nm vs.length 0
  | .guess nm k _ => within Γ nm k 0
  | _ => Γ
theorem WF.kid {Γ : Gam N} {f g : Fm N} (h : WF vr nr Γ f) (hg : g ∈ kids f) : WF vr nr (sub Γ f) g := by
  cases f with
  | rel _ _ => simp [kids] at hg
  | eq _ _ => simp [kids] at hg
  | less _ _ => simp [kids] at hg
  | not f => simp [kids] at hg; subst hg; simp only [WF] at h; exact h
  | join s fs => simp only [WF] at h; exact wfs_iff.mp h.2 g hg
  | quant s vs f => simp [kids] at hg; subst hg; simp only [WF] at h; exact h.2
  | fix l nm vs f args =>
    simp [kids] at hg; subst hg
    cases l <;> simp only [WF] at h <;> exact h.2.2.2.2
  | tc vs f args => simp [kids] at hg; subst hg; simp only [WF] at h; exact h.2.2.2.2
  | guess nm k f => simp [kids] at hg; subst hg; simp only [WF] at h; exact h.2.2
theorem WF.gam {Γ : Gam N} {f : Fm N} (h : WF vr nr Γ f) (g : GamOk nr Γ) : GamOk nr (sub Γ f) := by
  cases f with
  | not f => exact g.turned
  | fix l nm vs f args =>
    cases l <;> simp only [WF] at h
    · exact g.barred.within h.2.1 h.1.2.2.1
    · exact g.within h.2.1 h.1.2.2.1
  | guess nm k f => simp only [WF] at h; exact g.within h.1 (by omega)
  | _ => exact g
/-- what may be used of a name, under the sign -/
def ModeOk (ev : Bool) (m : Nat) : Prop := (m = 1 ∧ ev = true) ∨ (m = 2 ∧ ev = false) ∨ m = 3
theorem noOcc_of : ∀ (f : Fm N) (Γ : Gam N), WF vr nr Γ f → ∀ nm, (∀ a m, (nm, a, m) ∈ Γ → m = 3) → ¬ Occ nm f := by
  refine Fm.byKids fun f ih Γ h nm hm ho => ?_
  cases f with
  | rel m args =>
    simp only [WF] at h
    obtain ⟨⟨u, hu, hin⟩, _⟩ := h
    simp only [Occ] at ho
    subst ho
    have := hm _ _ hin; omega
  | eq _ _ => exact ho
  | less _ _ => exact ho
  | not g =>
    refine ih g (by simp [kids]) _ (h.kid (by simp [kids])) nm (fun a m hin => ?_) ho
    obtain ⟨u, hu, e⟩ := mem_turned.mp hin
    have := hm _ _ hu; subst this; exact e
  | join s fs =>
    obtain ⟨g, hg, z⟩ := occs_iff.mp ho
    exact ih g hg _ (h.kid hg) nm hm z
  | quant s vs g => exact ih g (by simp [kids]) _ (h.kid (by simp [kids])) nm hm ho
  | fix l m vs g args =>
    obtain ⟨h1, h2⟩ := (show m ≠ nm ∧ Occ nm g from ho)
    refine ih g (by simp [kids]) _ (h.kid (by simp [kids])) nm (fun a u hin => ?_) h2
    cases l <;> rcases mem_within.mp hin with ⟨p, _⟩ | p
    · obtain ⟨u', hu, e⟩ := mem_barred.mp p
      have := hm _ _ hu; subst this; exact e
    · cases p; exact absurd rfl h1
    · exact hm _ _ p
    · cases p; exact absurd rfl h1
  | tc vs g args => exact ih g (by simp [kids]) _ (h.kid (by simp [kids])) nm hm ho
  | guess m k g =>
    obtain ⟨h1, h2⟩ := (show m ≠ nm ∧ Occ nm g from ho)
    refine ih g (by simp [kids]) _ (h.kid (by simp [kids])) nm (fun a u hin => ?_) h2
    rcases mem_within.mp hin with ⟨p, _⟩ | p
    · exact hm _ _ p
    · cases p; exact absurd rfl h1
theorem agr_of : ∀ (f : Fm N) (Γ : Gam N), WF vr nr Γ f → ∀ nm ev, (∀ a m, (nm, a, m) ∈ Γ → ModeOk ev m) → Agr nm ev f := by
  refine Fm.byKids fun f ih Γ h nm ev hm => ?_
  cases f with
  | rel m args =>
    simp only [WF] at h
    obtain ⟨⟨u, hu, hin⟩, _⟩ := h
    simp only [Agr]
    by_cases e : m = nm
    · subst e
      rcases hm _ _ hin with ⟨_, e⟩ | ⟨e, _⟩ | e
      · exact .inr e
      · omega
      · omega
    · exact .inl e
  | eq _ _ => simp only [Agr]
  | less _ _ => simp only [Agr]
  | not g =>
    simp only [Agr]
    refine ih g (by simp [kids]) _ (h.kid (by simp [kids])) nm (!ev) fun a m hin => ?_
    obtain ⟨u, hu, e⟩ := mem_turned.mp hin
    simp only at e
    rcases hm _ _ hu with ⟨p, q⟩ | ⟨p, q⟩ | p <;> subst p
    · right; left; exact ⟨e, by simp [q]⟩
    · left; exact ⟨e, by simp [q]⟩
    · right; right; exact e
  | join s fs =>
    simp only [Agr]
    exact agrs_iff.mpr fun g hg => ih g hg _ (h.kid hg) nm ev hm
  | quant s vs g => simp only [Agr]; exact ih g (by simp [kids]) _ (h.kid (by simp [kids])) nm ev hm
  | fix l m vs g args =>
    simp only [Agr]
    by_cases e : m = nm
    · exact .inl e
    · have hk := h.kid (g := g) (by simp [kids])
      refine .inr ⟨fun hl => ?_, ?_⟩
      · subst hl
        refine noOcc_of g _ hk nm fun a u hin => ?_
        rcases mem_within.mp hin with ⟨p, _⟩ | p
        · obtain ⟨u', hu, e'⟩ := mem_barred.mp p
          simp only at e'
          rcases hm _ _ hu with ⟨p, q⟩ | ⟨p, q⟩ | p <;> subst p <;> exact e'
        · cases p; exact absurd rfl e
      · refine ih g (by simp [kids]) _ hk nm ev fun a u hin => ?_
        cases l <;> rcases mem_within.mp hin with ⟨p, _⟩ | p
        · obtain ⟨u', hu, e'⟩ := mem_barred.mp p
          simp only at e'
          right; right
          rcases hm _ _ hu with ⟨p, q⟩ | ⟨p, q⟩ | p <;> subst p <;> exact e'
        · cases p; exact absurd rfl e
        · exact hm _ _ p
        · cases p; exact absurd rfl e
  | tc vs g args => simp only [Agr]; exact ih g (by simp [kids]) _ (h.kid (by simp [kids])) nm ev hm
  | guess m k g =>
    simp only [Agr]
    by_cases e : m = nm
    · exact .inl e
    · refine .inr (ih g (by simp [kids]) _ (h.kid (by simp [kids])) nm ev fun a u hin => ?_)
      rcases mem_within.mp hin with ⟨p, _⟩ | p
      · exact hm _ _ p
      · cases p; exact absurd rfl e
theorem lfp_agr {Γ : Gam N} {nm : N} {vs args : List N} {g : Fm N} (h : WF vr nr Γ (.fix true nm vs g args)) : Agr nm true g := by
  refine agr_of g _ (h.kid (by simp [kids])) nm true fun a m hin => ?_
  rcases mem_within.mp hin with ⟨_, p⟩ | p
  · exact absurd rfl p
  · cases p; exact .inl ⟨rfl, rfl⟩
theorem lfpOk_of : ∀ (f : Fm N) (Γ : Gam N), WF vr nr Γ f → LfpOk f := by
  refine Fm.byKids fun f ih Γ h => ?_
  cases f with
  | rel _ _ => simp only [LfpOk]
  | eq _ _ => simp only [LfpOk]
  | less _ _ => simp only [LfpOk]
  | not g => simp only [LfpOk]; exact ih g (by simp [kids]) _ (h.kid (by simp [kids]))
  | join s fs => simp only [LfpOk]; exact lfpOks_iff.mpr fun g hg => ih g hg _ (h.kid hg)
  | quant s vs g => simp only [LfpOk]; exact ih g (by simp [kids]) _ (h.kid (by simp [kids]))
  | fix l m vs g args =>
    simp only [LfpOk]
    exact ⟨fun e => by subst e; exact lfp_agr h, ih g (by simp [kids]) _ (h.kid (by simp [kids]))⟩
  | tc vs g args => simp only [LfpOk]; exact ih g (by simp [kids]) _ (h.kid (by simp [kids]))
  | guess m k g => simp only [LfpOk]; exact ih g (by simp [kids]) _ (h.kid (by simp [kids]))

/-! ### less becomes = -/
mutual
def noless : Fm N → Fm N
  | .less x y => .eq x y
  | .rel nm args => .rel nm args
  | .eq x y => .eq x y
  | .not f => .not (noless f)
  | .join s fs => .join s (nolesss fs)
  | .quant s vs f => .quant s vs (noless f)
  | .fix l nm vs f args => .fix l nm vs (noless f) args
  | .tc vs f args => .tc vs (noless f) args
  | .guess nm k f => .guess nm k (noless f)
def nolesss : List (Fm N) → List (Fm N)
  | [] => []
  | f :: fs => noless f :: nolesss fs
end
theorem nolesss_map : ∀ fs : List (Fm N), nolesss fs = fs.map noless
  | [] => rfl
  | f :: fs => by simp [nolesss, nolesss_map fs]
theorem noLess_noless : ∀ f : Fm N, NoLess (noless f) := by
  refine Fm.byKids fun f ih => ?_
  cases f <;> simp only [noless, NoLess] <;> first | trivial | exact ih _ (by simp [kids]) | skip
  rename_i s fs
  rw [nolesss_map]
  refine noLesss_iff.mpr fun g hg => ?_
  obtain ⟨u, hu, rfl⟩ := List.mem_map.mp hg
  exact ih u hu
theorem wf_noless : ∀ (f : Fm N) (Γ : Gam N), WF vr nr Γ f → WF vr nr Γ (noless f) := by
  refine Fm.byKids fun f ih Γ h => ?_
  cases f with
  | rel _ _ => exact h
  | eq _ _ => exact h
  | less _ _ => exact h
  | not g => simp only [noless, WF] at h ⊢; exact ih g (by simp [kids]) _ h
  | join s fs =>
    simp only [noless, WF] at h ⊢
    rw [nolesss_map, List.length_map]
    refine ⟨h.1, wfs_iff.mpr fun g hg => ?_⟩
    obtain ⟨u, hu, rfl⟩ := List.mem_map.mp hg
    exact ih u hu _ (wfs_iff.mp h.2 u hu)
  | quant s vs g => simp only [noless, WF] at h ⊢; exact ⟨h.1, ih g (by simp [kids]) _ h.2⟩
  | fix l m vs g args =>
    cases l <;> simp only [noless, WF] at h ⊢ <;> exact ⟨h.1, h.2.1, h.2.2.1, h.2.2.2.1, ih g (by simp [kids]) _ h.2.2.2.2⟩
  | tc vs g args => simp only [noless, WF] at h ⊢; exact ⟨h.1, h.2.1, h.2.2.1, h.2.2.2.1, ih g (by simp [kids]) _ h.2.2.2.2⟩
  | guess m k g => simp only [noless, WF] at h ⊢; exact ⟨h.1, h.2.1, ih g (by simp [kids]) _ h.2.2⟩
theorem depth_noless : ∀ f : Fm N, depth (noless f) = depth f := by
  have ds : ∀ fs : List (Fm N), (∀ g ∈ fs, depth (noless g) = depth g) → depths (nolesss fs) = depths fs := by
    intro fs
    induction fs with
    | nil => intro _; rfl
    | cons f fs ih => intro h; simp only [nolesss, depths]; rw [h f List.mem_cons_self, ih fun g hg => h g (List.mem_cons_of_mem _ hg)]
  refine Fm.byKids fun f ih => ?_
  cases f <;> simp only [noless, depth] <;> first | rfl | (rw [ih _ (by simp [kids])]) | skip
  rename_i s fs
  rw [ds fs fun g hg => ih g hg]

/-! ### sizes and costs -/
mutual
def parts : Fm N → Nat
  | .not f => parts f + 1
  | .join _ fs => partss fs + 1
  | .quant _ _ f => parts f + 1
  | .fix _ _ _ f _ => parts f + 1
  | .tc _ f _ => parts f + 1
  | .guess _ _ f => parts f + 1
  | _ => 1
def partss : List (Fm N) → Nat
  | [] => 0
  | f :: fs => parts f + partss fs
end
theorem parts_kids (f : Fm N) : parts f = partss (kids f) + 1 := by cases f <;> simp [parts, kids, partss]
theorem WF.few {Γ : Gam N} {f : Fm N} (h : WF vr nr Γ f) : (kids f).length ≤ 3 := by
  cases f <;> simp [kids]
  simp only [WF] at h; exact h.1
theorem partss_le (c : Nat) : ∀ fs : List (Fm N), (∀ g ∈ fs, parts g ≤ c) → partss fs ≤ fs.length * c
  | [], _ => by simp [partss]
  | f :: fs, h => by
    have h1 := h f List.mem_cons_self
    have h2 := partss_le c fs fun g hg => h g (List.mem_cons_of_mem _ hg)
    simp only [partss, List.length_cons, Nat.add_mul]; omega
theorem parts_le : ∀ (d : Nat) (f : Fm N) (Γ : Gam N), WF vr nr Γ f → depth f ≤ d → parts f ≤ 4 ^ d := by
  intro d
  induction d with
  | zero => intro f Γ _ hd; have := depth_pos f; omega
  | succ d ih =>
    intro f Γ h hd
    have := partss_le (4 ^ d) (kids f) fun g hg => ih g _ (h.kid hg) (by have := depth_kid hg; omega)
    have l := h.few
    have : (kids f).length * 4 ^ d ≤ 3 * 4 ^ d := Nat.mul_le_mul_right _ l
    have p : 1 ≤ 4 ^ d := Nat.pos_of_ne_zero (by simp)
    rw [parts_kids, Nat.pow_succ]; omega
end
end Sy
namespace Sy
section
variable {N : Type} [DecidableEq N]
/-! ### costs -/
def CAPc : Int := 1000000000
def capm (t : Int) : Int := if CAPc < t then CAPc else t
mutual
def costG (wt : Fm N → Int) : Fm N → Int
  | .rel nm args => capm (1 + wt (.rel nm args) * 0)
  | .eq x y => capm (1 + wt (.eq x y) * 0)
  | .less x y => capm (1 + wt (.less x y) * 0)
  | .not f => capm (1 + wt (.not f) * (costG wt f + 0))
  | .join s fs => capm (1 + wt (.join s fs) * costGs wt fs)
  | .quant s vs f => capm (1 + wt (.quant s vs f) * (costG wt f + 0))
  | .fix l nm vs f args => capm (1 + wt (.fix l nm vs f args) * (costG wt f + 0))
  | .tc vs f args => capm (1 + wt (.tc vs f args) * (costG wt f + 0))
  | .guess nm k f => capm (1 + wt (.guess nm k f) * (costG wt f + 0))
def costGs (wt : Fm N → Int) : List (Fm N) → Int
  | [] => 0
  | f :: fs => costG wt f + costGs wt fs
end
theorem costG_eq (wt : Fm N → Int) (f : Fm N) : costG wt f = capm (1 + wt f * costGs wt (kids f)) := by
  cases f <;> simp only [costG, kids, costGs]
theorem costGs_sum (wt : Fm N → Int) : ∀ fs : List (Fm N), costGs wt fs = (fs.map (costG wt)).sum
  | [] => rfl
  | f :: fs => by simp [costGs, costGs_sum wt fs]
def dbl (e : Int) : Int := capm (2 ^ (if 30 < e then 30 else e).toNat)
def sh40 (e : Int) : Int := 2 ^ (if 40 < e then 40 else e).toNat
/-- the weight by the program, by the law -/
def pw (n : Int) : Fm N → Int
  | .quant _ vs _ => n ^ vs.length
  | .tc vs _ _ => n ^ vs.length
  | .fix true _ vs _ _ => n ^ vs.length * n ^ vs.length
  | .fix false _ vs _ _ => dbl (n ^ vs.length) * n ^ vs.length
  | .guess _ k _ => dbl (n ^ k)
  | _ => 1
def lw (n : Int) : Fm N → Int
  | .quant _ vs _ => n ^ vs.length
  | .tc vs _ _ => n ^ vs.length
  | .fix true _ vs _ _ => n ^ vs.length * n ^ vs.length
  | .fix false _ vs _ _ => sh40 (n ^ vs.length) * n ^ vs.length
  | .guess _ k _ => sh40 (n ^ k)
  | _ => 1
theorem pow_pos' {n : Int} (h : 1 ≤ n) (k : Nat) : 1 ≤ n ^ k := by
  induction k with
  | zero => simp
  | succ k ih =>
    rw [Int.pow_succ]
    have := Int.mul_le_mul ih h (by omega) (by omega)
    omega
theorem mm1 {a b : Int} (ha : 1 ≤ a) (hb : 1 ≤ b) : 1 ≤ a * b := by have := Int.mul_le_mul ha hb (by omega) (by omega); omega
theorem two_mono {a b : Nat} (h : a ≤ b) : (2 : Int) ^ a ≤ 2 ^ b := by
  have := Nat.pow_le_pow_right (n := 2) (by omega) h
  have e : ((2 ^ a : Nat) : Int) ≤ ((2 ^ b : Nat) : Int) := by omega
  simpa using e
theorem dbl_pos (e : Int) : 1 ≤ dbl e := by
  have := pow_pos' (n := 2) (by omega) (if 30 < e then 30 else e).toNat
  unfold dbl
  generalize (2 : Int) ^ (if 30 < e then 30 else e).toNat = u at this ⊢
  unfold capm CAPc; split <;> omega
theorem capm_cap (t : Int) : capm t ≤ CAPc := by unfold capm; split <;> omega
theorem capm_le (t : Int) : capm t ≤ t := by unfold capm; split <;> omega
theorem dbl_cap (e : Int) : dbl e ≤ CAPc := capm_cap _
theorem sh_pos (e : Int) : 1 ≤ sh40 e := pow_pos' (n := 2) (by omega) _
theorem sh_cap (e : Int) : sh40 e ≤ 2 ^ 40 := two_mono (by split <;> omega)
theorem dbl_le (e : Int) (h : 0 ≤ e) : dbl e ≤ sh40 e := by
  have h1 : dbl e ≤ 2 ^ (if 30 < e then 30 else e).toNat := capm_le _
  exact Int.le_trans h1 (two_mono (by split <;> split <;> omega))
theorem pw_pos {n : Int} (hn : 1 ≤ n) (f : Fm N) : 1 ≤ pw n f := by
  have mm : ∀ {a b : Int}, 1 ≤ a → 1 ≤ b → 1 ≤ a * b := fun ha hb => by have := Int.mul_le_mul ha hb (by omega) (by omega); omega
  cases f <;> simp only [pw] <;> first | omega | exact pow_pos' hn _ | exact dbl_pos _ | skip
  rename_i l nm vs f args
  cases l <;> simp only [pw]
  · exact mm (dbl_pos _) (pow_pos' hn _)
  · exact mm (pow_pos' hn _) (pow_pos' hn _)
theorem lw_pos {n : Int} (hn : 1 ≤ n) (f : Fm N) : 1 ≤ lw n f := by
  have mm : ∀ {a b : Int}, 1 ≤ a → 1 ≤ b → 1 ≤ a * b := fun ha hb => by have := Int.mul_le_mul ha hb (by omega) (by omega); omega
  cases f <;> simp only [lw] <;> first | omega | exact pow_pos' hn _ | exact sh_pos _ | skip
  rename_i l nm vs f args
  cases l <;> simp only [lw]
  · exact mm (sh_pos _) (pow_pos' hn _)
  · exact mm (pow_pos' hn _) (pow_pos' hn _)
theorem pw_le {n : Int} (hn : 1 ≤ n) (f : Fm N) : pw n f ≤ lw n f := by
  cases f <;> simp only [pw, lw] <;> first | exact Int.le_refl _ | skip
  · rename_i l nm vs f args
    cases l <;> simp only [pw, lw]
    · have := pow_pos' hn vs.length
      exact Int.mul_le_mul (dbl_le _ (by omega)) (Int.le_refl _) (by omega) (by have := sh_pos (n ^ vs.length); omega)
    · exact Int.le_refl _
  · rename_i nm k f
    exact dbl_le _ (by have := pow_pos' hn k; omega)
theorem capm_mono {a b : Int} (h : a ≤ b) : capm a ≤ capm b := by unfold capm; split <;> split <;> omega
theorem costGs_pos {wt : Fm N → Int} (h : ∀ f, 1 ≤ wt f) : ∀ fs : List (Fm N), (∀ f ∈ fs, 1 ≤ costG wt f) → 0 ≤ costGs wt fs
  | [], _ => by simp [costGs]
  | f :: fs, q => by have := q f List.mem_cons_self; have := costGs_pos h fs fun g hg => q g (List.mem_cons_of_mem _ hg); simp only [costGs]; omega
theorem costG_pos {wt : Fm N → Int} (h : ∀ f, 1 ≤ wt f) : ∀ f : Fm N, 1 ≤ costG wt f := by
  refine Fm.byKids fun f ih => ?_
  rw [costG_eq]
  have h1 := costGs_pos h (kids f) ih
  have h2 := Int.mul_nonneg (by have := h f; omega : 0 ≤ wt f) h1
  unfold capm CAPc; split <;> omega
theorem costG_mono {a b : Fm N → Int} (ha : ∀ f, 1 ≤ a f) (hb : ∀ f, 1 ≤ b f) (h : ∀ f, a f ≤ b f) : ∀ f : Fm N, costG a f ≤ costG b f := by
  refine Fm.byKids fun f ih => ?_
  rw [costG_eq, costG_eq]
  have s : ∀ fs : List (Fm N), (∀ g ∈ fs, costG a g ≤ costG b g) → costGs a fs ≤ costGs b fs := by
    intro fs
    induction fs with
    | nil => intro _; simp [costGs]
    | cons g fs ih => intro q; have := q g List.mem_cons_self; have := ih fun u hu => q u (List.mem_cons_of_mem _ hu); simp only [costGs]; omega
  refine capm_mono ?_
  have := Int.mul_le_mul (h f) (s _ ih) (costGs_pos ha _ fun g _ => costG_pos ha g) (by have := hb f; omega)
  omega
theorem costG_cap (wt : Fm N → Int) (f : Fm N) : costG wt f ≤ CAPc := by rw [costG_eq]; unfold capm; split <;> omega
def pcost (n : Int) (f : Fm N) : Int := costG (pw n) f
def lcost (n : Int) (f : Fm N) : Int := costG (lw n) f
theorem pcost_le {n : Int} (hn : 1 ≤ n) (f : Fm N) : pcost n f ≤ lcost n f := costG_mono (pw_pos hn) (lw_pos hn) (pw_le hn) f
theorem pcost_pos {n : Int} (hn : 1 ≤ n) (f : Fm N) : 1 ≤ pcost n f := costG_pos (pw_pos hn) f
theorem lcost_pos {n : Int} (hn : 1 ≤ n) (f : Fm N) : 1 ≤ lcost n f := costG_pos (lw_pos hn) f
/-- below the cap: a part costs no more, and the weight is bounded -/
theorem lcost_small {n : Int} (hn : 1 ≤ n) {f : Fm N} (h : lcost n f ≤ 20000) : (∀ g ∈ kids f, lcost n g ≤ 20000) ∧ (kids f ≠ [] → lw n f ≤ 20000) := by
  have e : lcost n f = capm (1 + lw n f * costGs (lw n) (kids f)) := costG_eq _ _
  have hw := lw_pos hn f
  have hc : 1 + lw n f * costGs (lw n) (kids f) ≤ 20000 := by
    rw [e] at h; unfold capm CAPc at h; split at h <;> omega
  have hs := costGs_pos (lw_pos hn) (kids f) fun g _ => costG_pos (lw_pos hn) g
  have h1 : costGs (lw n) (kids f) ≤ lw n f * costGs (lw n) (kids f) := by
    have := Int.mul_le_mul hw (Int.le_refl (costGs (lw n) (kids f))) hs (by omega); omega
  have mem : ∀ fs : List (Fm N), ∀ g ∈ fs, costG (lw n) g ≤ costGs (lw n) fs := by
    intro fs
    induction fs with
    | nil => intro g hg; cases hg
    | cons u fs ih =>
      intro g hg
      have p1 := costG_pos (lw_pos hn) u
      have p2 := costGs_pos (lw_pos hn) fs fun g _ => costG_pos (lw_pos hn) g
      rcases List.mem_cons.mp hg with rfl | hg
      · simp only [costGs]; omega
      · have := ih g hg; simp only [costGs]; omega
  refine ⟨fun g hg => by have := mem _ g hg; show costG _ g ≤ _; omega, fun hk => ?_⟩
  obtain ⟨g, hg⟩ := List.exists_mem_of_ne_nil _ hk
  have p := mem _ g hg
  have q := costG_pos (lw_pos hn) g
  have := Int.mul_le_mul (Int.le_refl (lw n f)) (show 1 ≤ costGs (lw n) (kids f) by omega) (by omega) (by omega)
  omega
/-- no relation that is made or guessed is too wide -/
def Narrow (n : Int) : Fm N → Prop
  | .fix true _ vs _ _ => n ^ vs.length ≤ 4096
  | .fix false _ vs _ _ => n ^ vs.length ≤ 12
  | .tc vs _ _ => n ^ (vs.length / 2) ≤ 4096
  | .guess _ k _ => n ^ k ≤ 12
  | _ => True
theorem sh_big {e : Int} (h : 13 ≤ e) : 2 ^ 13 ≤ sh40 e := two_mono (by split <;> omega)
theorem narrow_of {n : Int} (hn : 1 ≤ n) (h4 : n ≤ 4) {f : Fm N} (h : lcost n f ≤ 20000) (hg : ∀ nm k g, f = .guess nm k g → k ≤ 1) : Narrow n f := by
  have hw := (lcost_small hn h).2
  cases f with
  | fix l nm vs f args =>
    have hw := hw (by simp [kids])
    have p := pow_pos' hn vs.length
    cases l <;> simp only [lw] at hw <;> simp only [Narrow]
    · refine Classical.byContradiction fun z => ?_
      have := Int.mul_le_mul (sh_big (e := n ^ vs.length) (by omega)) (show (13 : Int) ≤ n ^ vs.length by omega) (by omega) (by have := sh_pos (n ^ vs.length); omega)
      have e : (2 : Int) ^ 13 = 8192 := by decide
      rw [e] at this
      omega
    · have := Int.mul_le_mul p (Int.le_refl (n ^ vs.length)) (by omega) (by omega)
      refine Classical.byContradiction fun z => ?_
      have := Int.mul_le_mul (show (4097 : Int) ≤ n ^ vs.length by omega) (show (4097 : Int) ≤ n ^ vs.length by omega) (by omega) (by omega)
      omega
  | tc vs f args =>
    have hw := hw (by simp [kids])
    simp only [lw] at hw
    simp only [Narrow]
    refine Classical.byContradiction fun z => ?_
    have e : n ^ (vs.length / 2 + vs.length / 2) ≤ n ^ vs.length := by
      have hle : vs.length / 2 + vs.length / 2 ≤ vs.length := by omega
      have : vs.length = (vs.length / 2 + vs.length / 2) + (vs.length - (vs.length / 2 + vs.length / 2)) := by omega
      rw [this]
      have p1 := pow_pos' hn (vs.length / 2 + vs.length / 2)
      have p2 := pow_pos' hn (vs.length - (vs.length / 2 + vs.length / 2))
      have q := Int.mul_le_mul (Int.le_refl (n ^ (vs.length / 2 + vs.length / 2))) p2 (by omega) (by omega)
      rw [← Int.pow_add] at q
      have e3 : vs.length / 2 + vs.length / 2 + (vs.length - (vs.length / 2 + vs.length / 2)) = vs.length := by omega
      rw [e3] at q ⊢
      omega
    rw [Int.pow_add] at e
    have := Int.mul_le_mul (show (4097 : Int) ≤ n ^ (vs.length / 2) by omega) (show (4097 : Int) ≤ n ^ (vs.length / 2) by omega) (by omega) (by omega)
    omega
  | guess nm k f =>
    simp only [Narrow]
    have hk := hg nm k f rfl
    have : k = 0 ∨ k = 1 := by omega
    rcases this with e | e
    · rw [e, Int.pow_zero]; omega
    · rw [e, Int.pow_succ, Int.pow_zero]; omega
  | _ => trivial
end
end Sy
namespace Sy
open PySem PySem.Spec PyProof.Rows L2
/-! ### how formulas, rows, relations stand in the heap -/
abbrev F := Fm Str
def qW (s : Bool) : Str := if s = true then "some" else "all"
def jW (s : Bool) : Str := if s = true then "or" else "and"
def fW (l : Bool) : Str := if l = true then "lfp" else "pfp"
def wordOf : F → Str
  | .rel _ _ => "rel" | .eq _ _ => "eq" | .less _ _ => "less" | .not _ => "not" | .join s _ => jW s | .quant s _ _ => qW s | .fix l _ _ _ _ => fW l | .tc _ _ _ => "tc" | .guess _ _ _ => "guess"
abbrev SqS (K : PySem.W.Frag) (H : Hp) (a : Addr) (xs : List Str) : Prop := SqT K H a (xs.map V.str)
section
variable (K : PySem.W.Frag) (H : Hp)
mutual
def FmAt : F → V → Prop
  | .rel nm args, v => ∃ a b, v = .ref a ∧ SqT K H a [.str "rel", .str nm, .ref b] ∧ SqS K H b args
  | .eq x y, v => ∃ a, v = .ref a ∧ SqT K H a [.str "eq", .str x, .str y]
  | .less x y, v => ∃ a, v = .ref a ∧ SqT K H a [.str "less", .str x, .str y]
  | .not f, v => ∃ a u, v = .ref a ∧ SqT K H a [.str "not", u] ∧ FmAt f u
  | .join s fs, v => ∃ a b us, v = .ref a ∧ SqT K H a [.str (jW s), .ref b] ∧ SqT K H b us ∧ FmsAt fs us
  | .quant s vs f, v => ∃ a b u, v = .ref a ∧ SqT K H a [.str (qW s), .ref b, u] ∧ SqS K H b vs ∧ FmAt f u
  | .fix l nm vs f args, v => ∃ a b c u, v = .ref a ∧ SqT K H a [.str (fW l), .str nm, .ref b, u, .ref c] ∧ SqS K H b vs ∧ FmAt f u ∧ SqS K H c args
  | .tc vs f args, v => ∃ a b c u, v = .ref a ∧ SqT K H a [.str "tc", .ref b, u, .ref c] ∧ SqS K H b vs ∧ FmAt f u ∧ SqS K H c args
  | .guess nm k f, v => ∃ a u, v = .ref a ∧ SqT K H a [.str "guess", .str nm, .int k, u] ∧ FmAt f u
def FmsAt : List F → List V → Prop
  | [], us => us = []
  | f :: fs, us => ∃ u r, us = u :: r ∧ FmAt f u ∧ FmsAt fs r
end
end
section
variable {K : PySem.W.Frag} {H H' : Hp}
theorem fmsAt_get : ∀ {fs : List F} {us : List V}, FmsAt K H fs us → us.length = fs.length ∧ ∀ (i : Nat) u, us[i]? = some u → ∃ f, fs[i]? = some f ∧ FmAt K H f u
  | [], us, h => by simp only [FmsAt] at h; subst h; simp
  | f :: fs, us, h => by
    simp only [FmsAt] at h
    obtain ⟨u, r, rfl, hu, hr⟩ := h
    obtain ⟨l, g⟩ := fmsAt_get hr
    refine ⟨by simp [l], fun i v hv => ?_⟩
    cases i with
    | zero => have : u = v := by simpa using hv
              subst this; exact ⟨f, rfl, hu⟩
    | succ i => exact g i v (by simpa using hv)
theorem fmsAt_of : ∀ {fs : List F} {us : List V}, us.length = fs.length → (∀ (i : Nat) u, us[i]? = some u → ∃ f, fs[i]? = some f ∧ FmAt K H f u) → FmsAt K H fs us
  | [], us, l, _ => by simp only [FmsAt]; exact List.eq_nil_of_length_eq_zero l
  | f :: fs, [], l, _ => by simp at l
  | f :: fs, u :: r, l, g => by
    simp only [FmsAt]
    obtain ⟨f', e, h⟩ := g 0 u rfl
    have : f = f' := by simpa using e
    subst this
    exact ⟨u, r, rfl, h, fmsAt_of (by simpa using l) fun i v hv => g (i + 1) v (by simpa using hv)⟩
theorem fmAt_mono (e : TEx H H') : ∀ (f : F) v, FmAt K H f v → FmAt K H' f v := by
  refine Fm.byKids fun f ih v h => ?_
  cases f with
  | rel nm args => simp only [FmAt] at h ⊢; obtain ⟨a, b, h1, h2, h3⟩ := h; exact ⟨a, b, h1, e.t h2, e.t h3⟩
  | eq x y => simp only [FmAt] at h ⊢; obtain ⟨a, h1, h2⟩ := h; exact ⟨a, h1, e.t h2⟩
  | less x y => simp only [FmAt] at h ⊢; obtain ⟨a, h1, h2⟩ := h; exact ⟨a, h1, e.t h2⟩
  | not f => simp only [FmAt] at h ⊢; obtain ⟨a, u, h1, h2, h3⟩ := h; exact ⟨a, u, h1, e.t h2, ih f (by simp [kids]) u h3⟩
  | join s fs =>
    simp only [FmAt] at h ⊢
    obtain ⟨a, b, us, h1, h2, h3, h4⟩ := h
    obtain ⟨l, g⟩ := fmsAt_get h4
    refine ⟨a, b, us, h1, e.t h2, e.t h3, fmsAt_of l fun i u hu => ?_⟩
    obtain ⟨f, hf, q⟩ := g i u hu
    exact ⟨f, hf, ih f (List.mem_of_getElem? hf) u q⟩
  | quant s vs f => simp only [FmAt] at h ⊢; obtain ⟨a, b, u, h1, h2, h3, h4⟩ := h; exact ⟨a, b, u, h1, e.t h2, e.t h3, ih f (by simp [kids]) u h4⟩
  | fix l nm vs f args => simp only [FmAt] at h ⊢; obtain ⟨a, b, c, u, h1, h2, h3, h4, h5⟩ := h; exact ⟨a, b, c, u, h1, e.t h2, e.t h3, ih f (by simp [kids]) u h4, e.t h5⟩
  | tc vs f args => simp only [FmAt] at h ⊢; obtain ⟨a, b, c, u, h1, h2, h3, h4, h5⟩ := h; exact ⟨a, b, c, u, h1, e.t h2, e.t h3, ih f (by simp [kids]) u h4, e.t h5⟩
  | guess nm k f => simp only [FmAt] at h ⊢; obtain ⟨a, u, h1, h2, h3⟩ := h; exact ⟨a, u, h1, e.t h2, ih f (by simp [kids]) u h3⟩
theorem fmsAt_mono (e : TEx H H') {fs : List F} {us : List V} (h : FmsAt K H fs us) : FmsAt K H' fs us := by
  obtain ⟨l, g⟩ := fmsAt_get h
  exact fmsAt_of l fun i u hu => let ⟨f, hf, q⟩ := g i u hu; ⟨f, hf, fmAt_mono e f u q⟩
/-- each formula is a tuple that begins with its word -/
theorem fmAt_tup {f : F} {v : V} (h : FmAt K H f v) : ∃ a xs, v = .ref a ∧ SqT K H a (.str (wordOf f) :: xs) := by
  cases f <;> simp only [FmAt] at h
  · obtain ⟨a, b, h1, h2, _⟩ := h; exact ⟨a, _, h1, h2⟩
  · obtain ⟨a, h1, h2⟩ := h; exact ⟨a, _, h1, h2⟩
  · obtain ⟨a, h1, h2⟩ := h; exact ⟨a, _, h1, h2⟩
  · obtain ⟨a, u, h1, h2, _⟩ := h; exact ⟨a, _, h1, h2⟩
  · obtain ⟨a, b, us, h1, h2, _⟩ := h; exact ⟨a, _, h1, h2⟩
  · obtain ⟨a, b, u, h1, h2, _⟩ := h; exact ⟨a, _, h1, h2⟩
  · obtain ⟨a, b, c, u, h1, h2, _⟩ := h; exact ⟨a, _, h1, h2⟩
  · obtain ⟨a, b, c, u, h1, h2, _⟩ := h; exact ⟨a, _, h1, h2⟩
  · obtain ⟨a, u, h1, h2, _⟩ := h; exact ⟨a, _, h1, h2⟩
/-- a row stands at v -/
def RowAt (_ : PySem.W.Frag) (H : Hp) (r : List Int) (v : V) : Prop := ∃ a, v = .ref a ∧ H a = some (.tup (r.map V.int))
theorem RowAt.mono (e : TEx H H') {r : List Int} {v : V} (h : RowAt K H r v) : RowAt K H' r v := let ⟨a, h1, h2⟩ := h; ⟨a, h1, e.1 _ _ h2⟩
/-- t + u, both of the heap -/
theorem oo_tcatE {X : Cx} {H : Hp} {a b : Addr} {xs ys : List V} {Q : VK} (h : H a = some (.tup xs)) (h' : H b = some (.tup ys)) (hz : xs.length + ys.length ≤ 1000) (q : ∀ p H', Ex X.K H H' → H' p = some (.tup (xs ++ ys)) → Q (.ref p) H') : BO X .Add (.ref a) (.ref b) H Q := by
  refine bo_of op_catA ⟨a, b, xs, ys, rfl, rfl, SqT.of h, SqT.of h', szk hz, fun e => q _ _ Ex.refl (by rw [e, List.nil_append]; exact h'), fun _ e => q _ _ Ex.refl (by rw [e, List.append_nil]; exact h), fun _ _ p hp => q _ _ (Ex.new hp) upd_same⟩
/-- the values vs are the rows rs -/
def RowsAt (K : PySem.W.Frag) (H : Hp) (rs : List (List Int)) (vs : List V) : Prop := vs.length = rs.length ∧ ∀ (i : Nat) v, vs[i]? = some v → ∃ r, rs[i]? = some r ∧ RowAt K H r v
theorem RowsAt.mono (e : TEx H H') {rs : List (List Int)} {vs : List V} (h : RowsAt K H rs vs) : RowsAt K H' rs vs := ⟨h.1, fun i v hv => let ⟨r, h1, h2⟩ := h.2 i v hv; ⟨r, h1, h2.mono e⟩⟩
theorem RowsAt.nil : RowsAt K H [] [] := ⟨rfl, fun i v h => by simp at h⟩
theorem RowsAt.snoc {rs : List (List Int)} {vs : List V} {r : List Int} {v : V} (h : RowsAt K H rs vs) (q : RowAt K H r v) : RowsAt K H (rs ++ [r]) (vs ++ [v]) := by
  refine ⟨by simp [h.1], fun i u hu => ?_⟩
  by_cases hi : i < vs.length
  · rw [List.getElem?_append_left hi] at hu
    obtain ⟨r', h1, h2⟩ := h.2 i u hu
    exact ⟨r', by rw [List.getElem?_append_left (by rw [← h.1]; exact hi)]; exact h1, h2⟩
  · rw [List.getElem?_append_right (by omega)] at hu
    have hz : i - vs.length = 0 := by have := (List.getElem?_eq_some_iff.mp hu).1; simp at this; omega
    rw [hz] at hu
    have e : v = u := by simpa using hu
    subst e
    exact ⟨r, by rw [List.getElem?_append_right (by rw [← h.1]; omega), ← h.1, hz]; rfl, q⟩
theorem RowsAt.refs {rs : List (List Int)} {vs : List V} (h : RowsAt K H rs vs) : ∀ x ∈ vs, ∃ a, x = .ref a := fun x hx => by
  obtain ⟨i, hi⟩ := List.mem_iff_getElem?.mp hx
  obtain ⟨r, _, a, e, _⟩ := h.2 i x hi
  exact ⟨a, e⟩
theorem RowsAt.get {rs : List (List Int)} {vs : List V} (h : RowsAt K H rs vs) {i : Nat} {r : List Int} (hr : rs[i]? = some r) : ∃ v, vs[i]? = some v ∧ RowAt K H r v := by
  have hi := (List.getElem?_eq_some_iff.mp hr).1
  have hv : vs[i]? = some (vs[i]'(by rw [h.1]; exact hi)) := List.getElem?_eq_getElem _
  obtain ⟨r', h1, h2⟩ := h.2 i _ hv
  rw [hr] at h1; cases h1
  exact ⟨_, hv, h2⟩
end
end Sy
section
open PySem PySem.Spec PyProof.Rows L2 Sy
local macro_rules | `(tactic| walk_at "syv") => `(tactic| first
  | refine ee_var 0 rfl ?_ | refine ee_var 1 rfl ?_ | refine ee_var 2 rfl ?_ | refine ee_var 3 rfl ?_ | refine ee_var 4 rfl ?_ | refine ee_var 5 rfl ?_ | refine ee_var 6 rfl ?_ | refine ee_var 7 rfl ?_ | refine ee_var 8 rfl ?_ | refine ee_var 9 rfl ?_ | refine ee_var 10 rfl ?_ | refine ee_var 11 rfl ?_)
local macro_rules | `(tactic| walk_at "sybl") => `(tactic| first
  | refine ee_blt (x := "int") (v := .ty "int") (Gs.z_int (by assumption)) bt_int rfl ?_ | refine ee_blt (x := "bool") (v := .ty "bool") (Gs.z_bool (by assumption)) bt_bool rfl ?_
  | refine ee_blt (x := "str") (v := .ty "str") (Gs.z_str (by assumption)) bt_str rfl ?_ | refine ee_blt (x := "tuple") (v := .ty "tuple") (Gs.z_tuple (by assumption)) bt_tuple rfl ?_
  | refine ee_blt (x := "list") (v := .ty "list") (Gs.z_list (by assumption)) bt_list rfl ?_ | refine ee_blt (x := "dict") (v := .ty "dict") (Gs.z_dict (by assumption)) bt_dict rfl ?_)
local macro_rules | `(tactic| walk_at "syc") => `(tactic| first
  | refine ee_callB (x := "isinstance") (Gs.z_isinstance (by assumption)) bt_isinstance ?_ | refine ee_callB (x := "len") (Gs.z_len (by assumption)) bt_len ?_ | refine ee_callB (x := "min") (Gs.z_min (by assumption)) bt_min ?_
  | refine ee_callTy (x := "tuple") (Gs.z_tuple (by assumption)) bt_tuple ?_ | refine ee_callTy (x := "list") (Gs.z_list (by assumption)) bt_list ?_)
local macro_rules | `(tactic| walk_at "sye") => `(tactic| first
  | (refine (?_ : EE _ (.Name _ _) _ _ _); first | walk_at "syv" | walk_at "sybl" | refine ee_glob (v := .ref _) (u := .ref _) (by assumption) rfl ?_ | refine ee_glob (v := .int _) (u := .int _ _) (by assumption) ⟨_, rfl⟩ ?_)
  | (refine (?_ : EE _ (.Constant _ _ _) _ _ _); first | refine ee_int ?_ | refine ee_str ?_ | refine ee_bl ?_ | refine ee_non ?_)
  | (refine (?_ : EE _ (.Compare _ _ _ _) _ _ _); first | refine ee_cmp ?_ | refine ee_chain ?_)
  | (refine (?_ : EE _ (.BoolOp _ _ _) _ _ _); first | refine ee_one ?_ | refine ee_and ?_ | refine ee_or ?_)
  | refine ee_slice ?_ | refine ee_ix ?_ | refine ee_bin ?_
  | (refine (?_ : EE _ (.Call (.Name _ _) _ _ _) _ _ _); walk_at "syc")
  | refine ee_not ?_ | refine ee_tup ?_ | refine ee_lst ?_ | refine ee_if ?_)
local macro_rules | `(tactic| walk_at "syt") => `(tactic| first
  | (refine (?_ : BB _ (.Compare _ _ _ _) _ _ _); first | refine bb_cmp ?_ | refine bb_chain ?_)
  | refine bb_not ?_ | (refine bb_bw (bw_or ?_)) | (refine bb_bw (bw_and ?_)) | refine bb_val ?_)
local macro_rules | `(tactic| walk_at "sys") => `(tactic| first
  | refine s_if ?_ | refine s_ret ?_ | refine s_expr ?_ | refine s_cont ?_ | refine s_retN ?_)
local macro_rules | `(tactic| walk_at "syco") => `(tactic| first
  | refine oo_eqs ?_ | refine oo_lt ?_ | refine oo_le ?_ | refine oo_gt ?_ | refine oo_ge ?_ | refine oo_eqi ?_ | refine oo_nei ?_ | refine oo_nes ?_ | refine oo_eqb ?_ | refine oo_isN ?_ | refine oo_notN ?_ | refine oo_inT (by assumption) ?_)
local macro_rules | `(tactic| walk_at "syix") => `(tactic| first
  | refine ix_t 0 (by assumption) rfl ?_ | refine ix_t 1 (by assumption) rfl ?_ | refine ix_t 2 (by assumption) rfl ?_ | refine ix_t 3 (by assumption) rfl ?_ | refine ix_t 4 (by assumption) rfl ?_)
local macro_rules | `(tactic| walk_at "sycc") => `(tactic| first
  | refine cc_lenT (by assumption) ?_ | refine cc_lenL (by assumption) ?_
  | refine isi_int k_ii ?_ | refine isi_int k_ib ?_ | refine isi_str k_ss ?_ | refine isi_tup (by assumption) k_tt ?_ | refine isi_lst (by assumption) k_ll ?_ | refine isi_int k_il ?_ | refine isi_int k_it ?_ | refine isi_bl k_bb ?_ | refine isi_bl k_bi ?_ | refine isi_bl k_bl ?_ | refine isi_bl k_bt ?_ | refine isi_tup (by assumption) k_tl ?_)
local macro_rules | `(tactic| walk_at "syb") => `(tactic| first
  | refine if_tt ?_ | refine if_ff ?_ | refine if_f (by decide +kernel) ?_ | refine if_t (by decide +kernel) ?_)
local macro_rules | `(tactic| walk_at "sy") => `(tactic| first
  | (refine (?_ : EE _ _ _ _ _); walk_at "sye")
  | (refine (?_ : BB _ _ _ _ _); walk_at "syt")
  | (refine (?_ : CO _ _ _ _ _ _); walk_at "syco")
  | (refine (?_ : AA _ _ _ _ _); first | refine aa_cons ?_ | refine aa_nil ?_)
  | (refine (?_ : IX _ _ _ _ _); walk_at "syix")
  | refine bq ?_ | refine rq ?_ | refine iq ?_ | refine sq ?_ | refine lq ?_
  | (refine (?_ : if _ then _ else _); walk_at "syb")
  | refine ss_cons ?_ | refine ss_nil ?_
  | (refine (?_ : S1 _ _ _ _ _); walk_at "sys")
  | (refine (?_ : CC _ _ _ _ _); walk_at "sycc")
  | (refine (?_ : BO _ _ _ _ _ _); first | refine oo_add ?_ | refine oo_sub ?_)
  | (refine (?_ : BW _ _ _ _ _); first | refine bw_or1 ?_ | refine bw_and1 ?_ | refine bw_or ?_ | refine bw_and ?_))
local macro_rules | `(tactic| walk_at "sx") => `(tactic| first
  | (refine (?_ : EE _ _ _ _ _); walk_at "sye")
  | (refine (?_ : BB _ _ _ _ _); walk_at "syt")
  | (refine (?_ : CO _ _ _ _ _ _); walk_at "syco")
  | (refine (?_ : AA _ _ _ _ _); first | refine aa_cons ?_ | refine aa_nil ?_)
  | (refine (?_ : IX _ _ _ _ _); walk_at "syix")
  | refine bq ?_ | refine rq ?_ | refine iq ?_ | refine sq ?_ | refine lq ?_
  | (refine (?_ : if _ then _ else _); walk_at "syb")
  | (refine (?_ : CC _ _ _ _ _); walk_at "sycc")
  | (refine (?_ : BO _ _ _ _ _ _); first | refine oo_add ?_ | refine oo_sub ?_)
  | (refine (?_ : BW _ _ _ _ _); first | refine bw_or1 ?_ | refine bw_and1 ?_ | refine bw_or ?_ | refine bw_and ?_))
local macro_rules | `(tactic| walk_at "go") => `(tactic| repeat walk_at "sy")
local macro_rules | `(tactic| walk_at "ge") => `(tactic| repeat walk_at "sx")
namespace Sy
/-- the order of rows -/
def rlt (a b : List Int) : Prop := lexLt itemOrd (a.map Sum.inl) (b.map Sum.inl) = true
theorem rlt_irrefl (a : List Int) : ¬ rlt a a := fun h => by unfold rlt at h; rw [lex_irrefl] at h; exact Bool.false_ne_true h
theorem rlt_trans {a b c : List Int} (h : rlt a b) (h' : rlt b c) : rlt a c := (listOrd itemOrd).trans _ _ _ h h'
theorem rlt_total {a b : List Int} (h : ¬ rlt a b) (h' : ¬ rlt b a) : a = b := by
  have e := (listOrd itemOrd).total (a.map Sum.inl) (b.map Sum.inl) (by simpa [rlt] using h) (by simpa [rlt] using h')
  have inj : ∀ {a b : List Int}, a.map (Sum.inl (β := List Nat)) = b.map Sum.inl → a = b := by
    intro a
    induction a with
    | nil => intro b h; cases b with
      | nil => rfl
      | cons => simp at h
    | cons x a ih => intro b h; cases b with
      | nil => simp at h
      | cons y b => simp at h; rw [h.1, ih (by simpa using h.2)]
  exact inj e
theorem rlt_app : ∀ {a b : List Int} (x y : List Int), a.length = b.length → rlt a b → rlt (a ++ x) (b ++ y)
  | [], [], _, _, _, h => absurd h (rlt_irrefl [])
  | i :: a, j :: b, x, y, hl, h => by
    unfold rlt at h ⊢
    simp only [List.map_cons, List.cons_append] at h ⊢
    rcases lex_true.mp h with h | ⟨h1, h2⟩
    · exact lex_true.mpr (.inl h)
    · exact lex_true.mpr (.inr ⟨h1, rlt_app (a := a) (b := b) x y (by simpa using hl) h2⟩)
theorem rlt_last : ∀ (a : List Int) {i j : Int}, i < j → rlt (a ++ [i]) (a ++ [j])
  | [], i, j, h => by
    unfold rlt
    refine lex_true.mpr (.inl ?_)
    show decide (i < j) = true
    exact decide_eq_true h
  | x :: a, i, j, h => by
    have := rlt_last a h
    unfold rlt at this ⊢
    simp only [List.cons_append, List.map_cons]
    rw [lex_self]; exact this
theorem rowsL_sorted (n : Nat) : ∀ k, (rowsL n k).Pairwise rlt
  | 0 => by show List.Pairwise rlt [[]]; exact List.pairwise_singleton _ _
  | k + 1 => by
    show ((rowsL n k).flatMap fun r => (List.range n).map fun i : Nat => r ++ [(i : Int)]).Pairwise rlt
    rw [List.pairwise_flatMap]
    refine ⟨fun r _ => ?_, ?_⟩
    · rw [List.pairwise_map]
      exact List.pairwise_lt_range.imp fun h => rlt_last r (by omega)
    · refine (List.Pairwise.and_mem.mp (rowsL_sorted n k)).imp ?_
      rintro a b ⟨ha, hb, h⟩ x hx y hy
      obtain ⟨i, _, rfl⟩ := List.mem_map.mp hx
      obtain ⟨j, _, rfl⟩ := List.mem_map.mp hy
      exact rlt_app _ _ (by rw [(mem_rowsL.mp ha).1, (mem_rowsL.mp hb).1]) h
theorem sorted_unique {α : Type} {lt : α → α → Prop} (irr : ∀ a, ¬ lt a a) (tr : ∀ {a b c}, lt a b → lt b c → lt a c) : ∀ l1 l2 : List α, l1.Pairwise lt → l2.Pairwise lt → (∀ x, x ∈ l1 ↔ x ∈ l2) → l1 = l2
  | [], [], _, _, _ => rfl
  | [], b :: l2, _, _, h => absurd ((h b).mpr (by simp)) (by simp)
  | a :: l1, [], _, _, h => absurd ((h a).mp (by simp)) (by simp)
  | a :: l1, b :: l2, h1, h2, h => by
    rw [List.pairwise_cons] at h1 h2
    have hab : a = b := by
      rcases List.mem_cons.mp ((h a).mp (by simp)) with e | ha
      · exact e
      rcases List.mem_cons.mp ((h b).mpr (by simp)) with e | hb
      · exact e.symm
      exact absurd (tr (h1.1 b hb) (h2.1 a ha)) (irr a)
    subst hab
    rw [sorted_unique irr tr l1 l2 h1.2 h2.2 fun x => ?_]
    constructor
    · intro hx
      rcases List.mem_cons.mp ((h x).mp (by simp [hx])) with e | h'
      · subst e; exact absurd (h1.1 x hx) (irr x)
      · exact h'
    · intro hx
      rcases List.mem_cons.mp ((h x).mpr (by simp [hx])) with e | h'
      · subst e; exact absurd (h2.1 x hx) (irr x)
      · exact h'
/-- the row that stands at v -/
def rowAt (H : Hp) (v : V) : List Int := match v with
  | .ref b => match H b with
    | some (.tup zs) => zs.map fun z => match z with | .int i => i | _ => 0
    | _ => []
  | _ => []
theorem rowAt_eq {K : PySem.W.Frag} {H : Hp} {r : List Int} {v : V} (h : RowAt K H r v) : rowAt H v = r := by
  obtain ⟨a, rfl, ha⟩ := h
  unfold rowAt
  simp only [ha]
  rw [List.map_map]
  exact List.map_id _
theorem rowsAt_map {K : PySem.W.Frag} {H : Hp} {rs : List (List Int)} {vs : List V} (h : RowsAt K H rs vs) : rs = vs.map (rowAt H) := by
  refine List.ext_getElem? fun i => ?_
  rw [List.getElem?_map]
  by_cases hi : i < vs.length
  · have hv : vs[i]? = some vs[i] := List.getElem?_eq_getElem hi
    obtain ⟨r, h1, h2⟩ := h.2 i _ hv
    rw [h1, hv, ← rowAt_eq h2]; rfl
  · rw [List.getElem?_eq_none (by rw [← h.1]; omega), List.getElem?_eq_none (by omega)]; rfl
theorem RowsAt.perm {K : PySem.W.Frag} {H : Hp} {rs : List (List Int)} {vs ys : List V} (h : RowsAt K H rs vs) (p : ys.Perm vs) : RowsAt K H (ys.map (rowAt H)) ys ∧ (ys.map (rowAt H)).Perm rs := by
  refine ⟨⟨by rw [List.length_map], fun i u hu => ⟨rowAt H u, by rw [List.getElem?_map, hu]; rfl, ?_⟩⟩, by rw [rowsAt_map h]; exact p.map _⟩
  have hm : u ∈ vs := p.mem_iff.mp (List.mem_of_getElem? hu)
  obtain ⟨j, hj⟩ := List.mem_iff_getElem?.mp hm
  obtain ⟨r, _, h2⟩ := h.2 j u hj
  rw [rowAt_eq h2]; exact h2
theorem items_row : ∀ {r : List Int} {us : List Value} {i : Nat}, Vals (r.map V.int) us → tupItems (fun _ => false) i us = some (r.map Sum.inl)
  | [], _, _, .nil => rfl
  | n :: r, _, i, .cons h t => by
    obtain ⟨tk, rfl⟩ := h
    show (if (fun _ => false) i = true then none else (tupItems (fun _ => false) (i + 1) _).map (Sum.inl n :: ·)) = _
    rw [if_neg (by simp), items_row t]; rfl
theorem tk_of {h : Heap} {b : Addr} {its : Array Value} {r : List Int} (hT : IsTup h b its) (hv : Vals (r.map V.int) its.toList) : G.tupKeyC h (fun _ => false) (.ref b) = some (r.map Sum.inl) := by
  obtain ⟨o, ho, hc, n, hd⟩ := hT
  have e1 : G.isTupObj h (.ref b) = true := by simp [G.isTupObj, ho, hc]
  unfold G.tupKeyC
  rw [if_pos e1]
  simp only [tupKey, ho, hd]
  exact items_row hv
theorem mk_tupsOf {h : Heap} : ∀ vs : List Value, (∀ v ∈ vs, ∃ b its, ∃ i : Int, ∃ r : List Int, v = .ref b ∧ IsTup h b its ∧ Vals ((i :: r).map V.int) its.toList) → ∃ fs, TupsOf h (fun _ => false) vs fs
  | [], _ => ⟨[], .nil⟩
  | v :: vs, hv => by
    obtain ⟨fs, hfs⟩ := mk_tupsOf vs fun u hu => hv u (by simp [hu])
    obtain ⟨b, its, i, r, rfl, ⟨o, ho, hc, n, hd⟩, hvs⟩ := hv v (by simp)
    rw [List.map_cons] at hvs
    generalize hl : its.toList = l at hvs
    cases hvs with
    | @cons _ u _ us h1 h2 =>
      obtain ⟨t, rfl⟩ := h1
      exact ⟨_, .cons ⟨b, o, its, n, rfl, ho, hc, hd, by rw [← Array.getElem?_toList, hl]; rfl, fun _ => ⟨i, t, rfl⟩, fun z => by cases z⟩ hfs⟩
theorem pget' {α β : Type} {F : α → β → Prop} : ∀ {l₁ : List α} {l₂ : List β} {j : Nat} {x : β}, Paired F l₁ l₂ → l₂[j]? = some x → ∃ y, l₁[j]? = some y ∧ F y x
  | _, _, _, _, .nil, h => by simp at h
  | _ :: _, _ :: _, 0, _, .cons h _, e => by
    have := Option.some.inj e
    subst this; exact ⟨_, rfl, h⟩
  | _ :: _, _ :: _, j + 1, _, .cons _ t, e => pget' (j := j) t e
section
variable {X : Cx} {pins : List (Addr × Obj)} {σ : L2.St} {H : Hp} {s : Shared} {Q : VK}
/-- the items of x in a row are rows -/
def Collects (X : Cx) (H : Hp) (s : Shared) (x : Value) (rs : List (List Int)) : Prop :=
  ∀ (R : List Value → Shared → Prop) (E : Value → Shared → Prop), (∀ s' vs xs rs', (∀ b o, s.heap.get? b = some o → s'.heap.get? b = some o) → (∀ pins σ, Inv X pins σ H s → Inv X pins σ H s') → Vals xs vs → RowsAt X.K H rs' xs → rs'.Perm rs → R vs s') →
    wpAny (model X.prog X.w) X.A.in1 (collect x) R E s
theorem sorted_rows (I : Inv X pins σ H s) {x : Value} {n d : Nat} {rs : List (List Int)} (hnd : rs.Nodup) (hr : ∀ r ∈ rs, IsRow n d r) (hz : rs.length ≤ 1000) (hcol : Collects X H s x rs)
    (q : ∀ p ys, H p = none → RowsAt X.K H ((rowsL n d).filter fun r => decide (r ∈ rs)) ys → Q (.ref p) (upd H p (.lst ys))) :
    wpAny (model X.prog X.w) X.A (call (.builtin "sorted") [x]) (EP X pins σ Q) X.xe s := by
  refine Calls.call_function_entry PyProof.Rows.kind_sorted PyProof.Rows.plain_sorted PyProof.Rows.entry_sorted (PyProof.Rows.args_sorted1 _) ?_
  unfold Builtin.«sorted»
  refine wpAny_bind (m := checkCount "sorted" 1 1 _) (wpAny_pure ?_)
  refine wpAny_bind (hcol _ _ fun s1 vs xs rs' k1 hI1 rv hR pm => ?_)
  have hvl : vs.length = rs.length := by rw [← rv.length, hR.1, pm.length_eq]
  refine wpAny_bind (wpAny_newList ?_ (by rw [hvl, sizeLine_eq]; omega))
  have hoL : (s1.heap.push (seqObj "list" vs.toArray 0)).get? s1.heap.objs.size = some (seqObj "list" vs.toArray 0) := Heap.get?_push_size _ rfl
  show wpAny _ _ _ _ _ { s1 with heap := s1.heap.push (seqObj "list" vs.toArray 0) }
  have kp2 : ∀ b o, s.heap.get? b = some o → (s1.heap.push (seqObj "list" vs.toArray 0)).get? b = some o := fun b o e => Heap.get?_push_of_some _ (k1 b o e)
  -- what each value is
  obtain ⟨ex, hrefs⟩ := bkV_refs rv hR.refs
  have isT : ∀ v ∈ vs, ∃ b its, v = .ref b ∧ IsTup (s1.heap.push (seqObj "list" vs.toArray 0)) b its ∧ Vals ((rowAt H (bkV v)).map V.int) its.toList ∧ rowAt H (bkV v) ∈ rs := fun v hv => by
    have hb : bkV v ∈ xs := by rw [ex]; exact List.mem_map.mpr ⟨v, hv, rfl⟩
    obtain ⟨j, hj⟩ := List.mem_iff_getElem?.mp hb
    obtain ⟨r, hr1, hr2⟩ := hR.2 j _ hj
    have er := rowAt_eq hr2
    obtain ⟨b, eb, hb2⟩ := hr2
    obtain ⟨_, its, hvs, hT⟩ := (show ObjOk X.prog X.w H s.heap b (.tup (r.map V.int)) from I.hok b _ hb2)
    refine ⟨b, its.toArray, bkV_ref eb, hT.keeps kp2, by rw [er]; simpa using hvs, by rw [er]; exact pm.mem_iff.mp (List.mem_of_getElem? hr1)⟩
  have key : ∀ v ∈ vs, G.tupKeyC (s1.heap.push (seqObj "list" vs.toArray 0)) (fun _ => false) v = some ((rowAt H (bkV v)).map Sum.inl) := fun v hv => by
    obtain ⟨b, its, rfl, hT, hvs, _⟩ := isT v hv
    exact tk_of hT hvs
  have k6 := G.keeps_sort6 (vs := vs) hoL
  refine wpAny_bind (wpAny_holding (wpAny_call_entry PyProof.Rows.slot_list_sort ⟨_, hoL, rfl⟩ PyProof.Rows.entry_list_sort
    (G.list_sort_treeG (κ := G.tupKindC (s1.heap.push (seqObj "list" vs.toArray 0)) fun _ => false) (kd := tuples' true) (s := { s1 with heap := s1.heap.push (seqObj "list" vs.toArray 0) }) hoL (G.tupKeys fun v hv => ⟨_, key v hv⟩) (G.tupC_ltAt (s := { s1 with heap := G.sortHeap6 (s1.heap.push (seqObj "list" vs.toArray 0)) s1.heap.objs.size vs }) true k6)
      (fun h2 _ hq => ?_) (by rw [hvl, sizeLine_eq]; omega) fun st' hp hs _ => ⟨_, rfl, ?_⟩)
    (PyProof.Rows.args_list_sort _)))
  · have hd1 : d ≠ 0 := fun z => by
      subst z
      have : ∀ r ∈ rs, r = [] := fun r hr' => List.length_eq_zero_iff.mp (hr r hr').1
      have h2' : 2 ≤ rs.length := by omega
      match rs, hnd, this, h2' with
      | a :: b :: t, hnd, this, _ =>
        rw [List.nodup_cons] at hnd
        exact hnd.1 (by rw [this a (by simp), this b (by simp)]; simp)
    obtain ⟨fs, hfs⟩ := mk_tupsOf (h := s1.heap.push (seqObj "list" vs.toArray 0)) vs fun v hv => by
      obtain ⟨b, its, e, hT, hvs, hm⟩ := isT v hv
      have hl := (hr _ hm).1
      cases hrow : rowAt H (bkV v) with
      | nil => rw [hrow] at hl; simp at hl; omega
      | cons i r => exact ⟨b, its, i, r, e, hT, by rw [← hrow]; exact hvs⟩
    exact tup_kind (s := { s1 with heap := G.sortHeap6 (s1.heap.push (seqObj "list" vs.toArray 0)) s1.heap.objs.size vs }) (by rw [G.TupsOf.length hfs]; omega) (G.TupsOf.keep k6 hfs) hq
  · have hps : (arrOf st').toList.Perm (vs.zip vs) := by
      have := Array.perm_iff_toList_perm.mp hp
      rw [pairsOf_toList] at this; exact this
    have hself : ∀ p ∈ (arrOf st').toList, p.1 = p.2 ∧ p.1 ∈ vs := fun p hp' => mem_zip_self (hps.mem_iff.mp hp')
    have hout : ((arrOf st').toList.map (·.2)).Perm vs := by
      have := hps.map (·.2)
      rwa [List.map_snd_zip (Nat.le_refl _)] at this
    have hyp : (((arrOf st').toList.map (·.2)).map bkV).Perm xs := by rw [ex]; exact hout.map _
    obtain ⟨hRy, hPy⟩ := hR.perm hyp
    have hnd2 := (hPy.trans pm).nodup_iff.mpr hnd
    have hpw : ((((arrOf st').toList.map (·.2)).map bkV).map (rowAt H)).Pairwise fun r r' => ¬ rlt r' r := by
      rw [List.pairwise_iff_getElem]
      intro i j hi hj hij
      rw [List.length_map, List.length_map, List.length_map, Array.length_toList] at hi hj
      have hsz : (arrOf st').size = (pairsOf vs).size := hp.size_eq
      have := hs i j (Nat.le_of_lt hij) (by omega)
      have get : ∀ k (hk : k < (arrOf st').size), KK (G.tupKindC (s1.heap.push (seqObj "list" vs.toArray 0)) fun _ => false) (arrOf st') k = (rowAt H (bkV (arrOf st')[k].2)).map Sum.inl := fun k hk => by
        have hm : (arrOf st')[k] ∈ (arrOf st').toList := by rw [Array.mem_toList_iff]; exact Array.getElem_mem hk
        obtain ⟨e1, e2⟩ := hself _ hm
        unfold KK
        rw [Array.getElem?_eq_getElem hk]
        simp only
        rw [e1] at e2 ⊢
        rw [key _ e2]; rfl
      rw [get i hi, get j hj] at this
      simp only [List.getElem_map, Array.getElem_toList]
      intro h
      unfold rlt at h
      have e : lexLt itemOrd ((rowAt H (bkV (arrOf st')[j].2)).map Sum.inl) ((rowAt H (bkV (arrOf st')[i].2)).map Sum.inl) = false := this
      rw [e] at h
      exact Bool.false_ne_true h
    have hlt : ((((arrOf st').toList.map (·.2)).map bkV).map (rowAt H)).Pairwise rlt :=
      (hpw.and hnd2).imp fun {a b} ⟨h1, h2⟩ => Classical.byContradiction fun h => h2 (rlt_total h h1)
    have efin : (((arrOf st').toList.map (·.2)).map bkV).map (rowAt H) = (rowsL n d).filter fun r => decide (r ∈ rs) := by
      refine sorted_unique rlt_irrefl rlt_trans _ _ hlt ((rowsL_sorted n d).filter _) fun x => ?_
      rw [(hPy.trans pm).mem_iff, List.mem_filter, decide_eq_true_eq]
      exact ⟨fun h => ⟨mem_rowsL.mpr (hr x h), h⟩, fun h => h.2⟩
    rw [efin] at hRy
    obtain ⟨e', he'⟩ := PyProof.Rows.sortedHeap_at (vs := vs) (out := (arrOf st').map (·.2)) hoL
    have I1 := hI1 pins σ I
    have hn : H s1.heap.objs.size = none := I1.hok.fresh (Nat.le_refl _)
    have hyv : Vals (((arrOf st').toList.map (·.2)).map bkV) ((arrOf st').map (·.2)).toList := by
      rw [Array.toList_map]
      exact bkV_vals fun u hu => hrefs u (hout.mem_iff.mp hu)
    have hkeep : ∀ b o, s1.heap.get? b = some o → (sortedHeap (s1.heap.push (seqObj "list" vs.toArray 0)) s1.heap.objs.size vs ((arrOf st').map (·.2))).get? b = some o := fun b o e => by
      have hb : b < s1.heap.objs.size := Heap.lt_size e
      rw [PyProof.Rows.sortedHeap_old (Nat.ne_of_lt hb) (by rw [size_push']; exact Nat.lt_succ_of_lt hb)]
      exact Heap.get?_push_of_some _ e
    have hlen : (((arrOf st').toList.map (·.2)).map bkV).length ≤ sizeLine := by rw [hyp.length_eq, rv.length, hvl, sizeLine_eq]; omega
    refine wpAny_pure ⟨_, rfl, .ref s1.heap.objs.size, upd H s1.heap.objs.size (.lst (((arrOf st').toList.map (·.2)).map bkV)), I1.laid (t' := s1.toks) hkeep (Nat.le_refl _) ?_, rfl, q _ _ hn hRy⟩
    exact ⟨hlen, ((arrOf st').map (·.2)).toList, e', hyv, by rw [Array.toArray_toList]; exact he'⟩
/-! ### the sources -/
def rowK (r : List Int) : List L2.Key := r.map Sum.inl
theorem rowK_v (r : List Int) : (rowK r).map kV = r.map V.int := by unfold rowK; rw [List.map_map]; rfl
theorem collects_list (I : Inv X pins σ H s) {a : Addr} {xs : List V} {rs : List (List Int)} (ha : SqL X.K H a xs) (hR : RowsAt X.K H rs xs) (hz : rs.length ≤ 1000) : Collects X H s (.ref a) rs := by
  intro R E k
  obtain ⟨its, rv, hl, hz'⟩ := I.list ha
  have hil : its.length = rs.length := by rw [← rv.length, hR.1]
  refine PyProof.Rows.collect_list hl.isList ?_ (by rw [hil, sizeLine_eq]; omega)
  have kp : ∀ b o, s.heap.get? b = some o → ((s.heap.push (seqObj "list" #[] 0)).update s.heap.objs.size (Obj.mapSeq (· ++ its.toArray))).get? b = some o := fun b o e => ?_
  refine k _ its xs rs kp (fun pins σ I => I.kept kp) rv hR (List.Perm.refl _)
  have hb : b < s.heap.objs.size := Heap.lt_size e
  rw [Heap.get?_update_ne _ _ _ _ (Nat.ne_of_lt hb)]
  exact Heap.get?_push_of_some _ e
theorem collects_dict (I : Inv X pins σ H s) (hc : X.calm = true) {a : Addr} {kvs : List (List L2.Key × V)} {rs : List (List Int)} (ha : H a = some (.dT kvs)) (hk : kvs.map (·.1) = rs.map rowK) : Collects X H s (.ref a) rs := by
  intro R E k
  obtain ⟨z, hs, ks, pr, o, es, ep, ho, hx, hdt, he, hn⟩ := (show ObjOk X.prog X.w H s.heap a (.dT kvs) from I.hok a _ ha)
  have l1 : es.size = ks.length := size_of_entries he
  have l2 : kvs.length = ks.length := Paired.length pr
  have l3 : kvs.length = rs.length := by have := congrArg List.length hk; simpa using this
  refine PySem.W.kdu_collect (kdl_raw hs hx hdt) (I.ok.hd hc) ho (by omega) fun h' tk acc' kp it => ?_
  have ea : acc'.toList = (ks.map fun x => x.2.1).map Value.ref := by
    rw [List.map_map]
    have hl : acc'.toList.length = ks.length := by rw [Array.length_toList, it.1]; exact l1
    apply List.ext_getElem?
    intro j
    rw [List.getElem?_map]
    cases hj : acc'.toList[j]? with
    | none =>
      have h1 := List.getElem?_eq_none_iff.mp hj
      rw [List.getElem?_eq_none (by omega)]
      all_goals rfl
    | some v =>
      obtain ⟨en, hen, hv⟩ := it.2 j v (by rw [← Array.getElem?_toList]; exact hj)
      have qe := entry_at he j
      rw [hen] at qe
      cases hb : ks[j]? with
      | none =>
        rw [hb] at qe
        exact nomatch (show some en = none from qe)
      | some b =>
        rw [hb] at qe
        have e2 : en = entryOfKey (tupleKind (mixKind X.prog X.w)) b := Option.some.inj qe
        rw [hv, e2]
        all_goals rfl
  have ik := isKeys_of pr
  refine k _ _ ((ks.map fun x => x.2.1).map V.ref) rs kp (fun pins σ I => I.kept kp) (by rw [ea]; exact vals_refs _) ⟨by rw [List.length_map, List.length_map]; omega, fun i v hv => ?_⟩ (List.Perm.refl _)
  rw [List.getElem?_map] at hv
  cases hb : (ks.map fun x => x.2.1)[i]? with
  | none => rw [hb] at hv; cases hv
  | some b =>
    rw [hb] at hv
    have ev : V.ref b = v := Option.some.inj hv
    subst ev
    obtain ⟨p, hp1, hp2⟩ := pget' ik hb
    have e3 : (kvs.map (·.1))[i]? = some p.1 := by rw [List.getElem?_map, hp1]; rfl
    rw [hk, List.getElem?_map] at e3
    cases hr : rs[i]? with
    | none => rw [hr] at e3; cases e3
    | some r =>
      rw [hr] at e3
      have e4 : rowK r = p.1 := Option.some.inj e3
      exact ⟨r, rfl, b, rfl, by rw [hp2, ← e4, rowK_v]⟩
theorem cc_sortedL (hc : X.calm = true) {a : Addr} {xs : List V} {n d : Nat} {rs : List (List Int)} (ha : SqL X.K H a xs) (hR : RowsAt X.K H rs xs) (hnd : rs.Nodup) (hr : ∀ r ∈ rs, IsRow n d r) (hz : rs.length ≤ 1000)
    (q : ∀ p ys, H p = none → RowsAt X.K H ((rowsL n d).filter fun r => decide (r ∈ rs)) ys → Q (.ref p) (upd H p (.lst ys))) : CC X (.builtin "sorted") [.ref a] H Q :=
  ⟨fun pins s σ us I r => by
    rw [Vals.ref1 r]
    exact sorted_rows I hnd hr hz (collects_list I ha hR hz) q⟩
theorem cc_sortedD (hc : X.calm = true) {a : Addr} {kvs : List (List L2.Key × V)} {n d : Nat} {rs : List (List Int)} (ha : H a = some (.dT kvs)) (hk : kvs.map (·.1) = rs.map rowK) (hnd : rs.Nodup) (hr : ∀ r ∈ rs, IsRow n d r) (hz : rs.length ≤ 1000)
    (q : ∀ p ys, H p = none → RowsAt X.K H ((rowsL n d).filter fun r => decide (r ∈ rs)) ys → Q (.ref p) (upd H p (.lst ys))) : CC X (.builtin "sorted") [.ref a] H Q :=
  ⟨fun pins s σ us I r => by
    rw [Vals.ref1 r]
    exact sorted_rows I hnd hr hz (collects_dict I hc ha hk) q⟩
end
end Sy
namespace Sy
section
variable {P : Program} {w : World} {A : Around} {E : Value → Shared → Prop} {s : Shared}
/-- set.update's loop, by what holds behind each turn -/
theorem set_update_gen {I : Addr} {fp wr : List Addr} {G : Array GenState → Array GenState → Prop} {n : Nat} {Pv : Nat → Value → Prop} {St : Nat → Shared → Prop} {R : Result → Shared → Prop}
    (W : WalksS P w A.in1 I fp wr G n Pv St) (S : Addr) (hSf : S ∉ fp) (J : Nat → Heap → Prop) (h0 : Heap) (hS0 : h0.get? S = none) (hw0 : ∀ b ∈ wr, h0.get? b = none)
    (hJ : ∀ i h h', J i h → (∀ o, h.get? S = some o → h'.get? S = some o) → (∀ b o, h0.get? b = some o → h'.get? b = some o) → J i h')
    (hstep : ∀ i v (s1 : Shared), Pv i v → J i s1.heap → (∀ b o, h0.get? b = some o → s1.heap.get? b = some o) → ∀ (Q' : Bool → Shared → Prop) (E' : Value → Shared → Prop), (∀ b h' tk, s1.toks ≤ tk → Heap.SameBut S s1.heap h' → J (i + 1) h' → Q' b { s1 with heap := h', toks := tk }) → wpAny (model P w) A.in1 (setAdd S v) Q' E' s1) :
    ∀ (k i : Nat) (s : Shared), n - i = k → i ≤ n → St i s → (∀ b o, h0.get? b = some o → s.heap.get? b = some o) → J i s.heap →
      (∀ s', Moved (S :: wr) G s s' → J n s'.heap → (∀ b o, h0.get? b = some o → s'.heap.get? b = some o) → R (.ok (.ret .none)) s') →
      codeAny (model P w) A (.builtin "set.update.loop" ⟨[.ref S, .ref I], []⟩) R s := by
  have hSw : S ∉ wr := fun h => hSf (W.sub _ h)
  have hsub : ∀ b ∈ wr, b ∈ S :: wr := fun b hb => List.mem_cons_of_mem _ hb
  have keepM : ∀ {s s' : Shared}, Moved wr G s s' → (∀ b o, h0.get? b = some o → s.heap.get? b = some o) → ∀ b o, h0.get? b = some o → s'.heap.get? b = some o := fun hm hkp b o e =>
    hm.heap b o (fun hb => by rw [hw0 b hb] at e; cases e) (hkp b o e)
  intro k
  induction k with
  | zero =>
    intro i s hk' hi hst hkp hj hR
    have hin : i = n := by omega
    subst hin
    refine codeAny_builtin F.entry_set_update_loop ?_
    rw [Around.under_plainId F.plain_set_update_loop _]
    show wpAny _ A.in1 (pyNext (.ref I) >>= _) _ _ s
    refine wpAny_bind (W.done s _ _ hst fun s' hm => ?_)
    show wpAny _ A.in1 (ret Value.none) _ _ s'
    have hkp' := keepM hm hkp
    exact wpAny_pure (hR s' (hm.mono hsub) (hJ _ _ _ hj (fun o e => hm.heap S o hSw e) hkp') hkp')
  | succ k ih =>
    intro i s hk' hi hst hkp hj hR
    have hlt : i < n := by omega
    refine codeAny_builtin F.entry_set_update_loop ?_
    rw [Around.under_plainId F.plain_set_update_loop _]
    show wpAny _ A.in1 (pyNext (.ref I) >>= _) _ _ s
    refine wpAny_bind (W.item i s _ _ hlt hst fun v s' hP hst' hm => ?_)
    have hkp' := keepM hm hkp
    show wpAny _ A.in1 (holding [v] (setAdd S v) >>= _) _ _ s'
    refine wpAny_bind (wpAny_holding ?_)
    refine hstep i v s' hP (hJ _ _ _ hj (fun o e => hm.heap S o hSw e) hkp') hkp' _ _ fun b h' tk htk hsb hj' => ?_
    have hkp2 : ∀ b o, h0.get? b = some o → h'.get? b = some o := fun b o e => (hsb.2 b (fun z => by rw [z, hS0] at e; cases e)).trans (hkp' b o e)
    refine wpAny_pure ⟨plainId_quiet F.plain_set_update_loop _, ih (i + 1) _ (by omega) hlt (W.frame _ s' _ _ hst' htk fun b hb o e => ?_) hkp2 hj' fun s'' hm'' hj'' hkp'' => ?_⟩
    · rw [hsb.2 b (fun h : b = S => hSf (by rw [← h]; exact hb))]; exact e
    · refine hR s'' (Moved.trans W.gtrans ((hm.mono hsub).then_heap htk fun b o hb e => ?_) hm'') hj'' hkp''
      rw [hsb.2 b (fun h : b = S => hb (by rw [h]; exact List.mem_cons_self))]; exact e

set_option maxHeartbeats 3200000 in
/-- set(xs) of a list, by what holds behind each turn -/
theorem call_set_list {l : Addr} {items : Array Value} {Q : Value → Shared → Prop} (hh : A.handled = none) (hl : s.heap.IsList l items)
    (J : Nat → Heap → Prop) (hJ0 : ∀ h' : Heap, h'.get? s.heap.objs.size = some { cls := .type "set", dict := none, data := .set #[] 0 (.fresh 0 0 (!w.params.followText "set-order")) } → (∀ b o, s.heap.get? b = some o → h'.get? b = some o) → J 0 h')
    (hJ : ∀ i h h', J i h → (∀ o, h.get? s.heap.objs.size = some o → h'.get? s.heap.objs.size = some o) → (∀ b o, s.heap.get? b = some o → h'.get? b = some o) → J i h')
    (hstep : ∀ i v (s1 : Shared), items[i]? = some v → J i s1.heap → (∀ b o, s.heap.get? b = some o → s1.heap.get? b = some o) → ∀ (B : Around) (Q' : Bool → Shared → Prop) (E' : Value → Shared → Prop), B.units ≤ A.units + 3 → (∀ b h' tk, s1.toks ≤ tk → Heap.SameBut s.heap.objs.size s1.heap h' → J (i + 1) h' → Q' b { s1 with heap := h', toks := tk }) → wpAny (model P w) B (setAdd s.heap.objs.size v) Q' E' s1)
    (h : ∀ (h' : Heap) (tk : Nat), J items.size h' → (∀ b o, s.heap.get? b = some o → h'.get? b = some o) → Q (.ref s.heap.objs.size) { s with heap := h', toks := tk }) :
    wpAny (model P w) A (call (.type "set") [.ref l]) Q E s := by
  obtain ⟨c, tl, hmro⟩ := F.called_set.mro
  have hmade := F.called_set.made
  have hsub := F.called_set.sub
  refine wpAny_call (codeAny_of_tree ?_)
  show wpAny _ _ (callAny (.type "set") _) _ _ _
  refine wpAny_pure ⟨Code.quiet_builtin _ (by decide +kernel), codeAny_builtin F.entry_type_call ?_⟩
  rw [Around.under_plain (weight_type_call_type "set" [.ref l] []) rfl]
  have h1 := F.called_set.notType
  have h2 := F.called_set.canCreate
  have hct := F.typeCall_set_1 (.ref l)
  repeat (any_goals (first | assumption | wp_step))
  refine codeAny_mono (code_set_led1 (.ref l) (E := E) (Q₁ := fun obj s₁ => obj = .ref s.heap.objs.size ∧ s₁ = { s with heap := s.heap.push { cls := .type "set", dict := none, data := .set #[] 0 (.fresh 0 0 (!w.params.followText "set-order")) } }) ⟨rfl, rfl⟩) fun r s₁ hr => ?_
  cases r with
  | error e => exact hr
  | ok fl =>
    cases fl with
    | ret obj =>
      obtain ⟨rfl, rfl⟩ := hr
      have hS : (s.heap.push { cls := .type "set", dict := none, data := .set #[] 0 (.fresh 0 0 (!w.params.followText "set-order")) }).get? s.heap.objs.size = some { cls := .type "set", dict := none, data := .set #[] 0 (.fresh 0 0 (!w.params.followText "set-order")) } := Heap.get?_push_size _ rfl
      have hT : Shared.TypeIs { s with heap := s.heap.push { cls := .type "set", dict := none, data := .set #[] 0 (.fresh 0 0 (!w.params.followText "set-order")) } } (.ref s.heap.objs.size) "set" := ⟨_, hS, rfl⟩
      have hli := F.called_set.init.lookup
      have hbi := F.called_set.init.bind (.ref s.heap.objs.size)
      repeat (any_goals (first | assumption | wp_step))
      refine codeAny_mono (codeAny_call_builtin (R := wants (fun r s₂ => r = .none ∧ ∃ h' tk, s₂ = { s with heap := h', toks := tk } ∧ J items.size h' ∧ (∀ b o, s.heap.get? b = some o → h'.get? b = some o)) E) F.called_set.init.plain F.entry_set_init (check_set_init_1 hT ?_)) fun r₂ s₂ hr₂ => ?_
      · obtain ⟨ol, hol, hcl, nl, hdl⟩ := hl
        obtain ⟨ocls, odict, odata, oslots⟩ := ol
        simp only at hcl hdl
        subst hcl; subst hdl
        have hol' : (s.heap.push { cls := .type "set", dict := none, data := .set #[] 0 (.fresh 0 0 (!w.params.followText "set-order")) }).get? l = some { cls := .type "list", dict := odict, data := .seq items nl, slots := oslots } := Heap.get?_push_of_some _ hol
        have hsls := F.sub_list_set
        have hslf := F.sub_list_frozenset
        have hne : (Value.type "list" == Value.type "dict") = false := by decide
        have hl1 : (s.heap.push { cls := .type "set", dict := none, data := .set #[] 0 (.fresh 0 0 (!w.params.followText "set-order")) }).IsList l items := ⟨_, hol', rfl, nl, rfl⟩
        unfold Builtin.«set.__init__» noKeywords Builtin.Frozenset.updateFrom
        generalize hPI : pyIter = PI
        wp_walk
        subst hPI
        refine wpAny_pyIter_list hl1 ?_
        refine wpAny_bind (wpAny_runValue ?_)
        have hlS : l < s.heap.objs.size := Heap.lt_size hol
        have hh3 : A.in1.in1.in1.handled = none := by simp [hh]
        have hneI : l ≠ (s.heap.push { cls := .type "set", dict := none, data := .set #[] 0 (.fresh 0 0 (!w.params.followText "set-order")) }).objs.size := by
          rw [Heap.size_push]; exact Nat.ne_of_lt (Nat.lt_succ_of_lt hlS)
        have hSf : s.heap.objs.size ∉ [(s.heap.push { cls := .type "set", dict := none, data := .set #[] 0 (.fresh 0 0 (!w.params.followText "set-order")) }).objs.size, l] := by
          rw [Heap.size_push]; simp only [List.mem_cons, List.mem_singleton, List.not_mem_nil, or_false, not_or]
          exact ⟨Nat.ne_of_lt (Nat.lt_succ_self _), Nat.ne_of_gt hlS⟩
        have none_of : ∀ b, s.heap.objs.size ≤ b → s.heap.get? b = none := fun b hb => by
          cases q : s.heap.get? b with
          | none => rfl
          | some o => exact absurd (Nat.lt_of_lt_of_le (Heap.lt_size q) hb) (Nat.lt_irrefl _)
        refine set_update_gen ((Walks.list hh3 _ l hneI items).toS) s.heap.objs.size hSf J s.heap (none_of _ (Nat.le_refl _)) (fun b hb => none_of b (by
            rw [List.mem_singleton.mp hb, Heap.size_push]
            exact Nat.le_succ _)) hJ (fun i v s1 hv hj hk Q' E' hq => hstep i v s1 hv hj hk _ Q' E' ?hU hq) (items.size - 0) 0 _ (by omega) (Nat.zero_le _)
          ⟨⟨_, Heap.get?_push_size _ rfl, rfl, rfl⟩, (hl1.push _)⟩ (fun b o e => Heap.get?_push_of_some _ (Heap.get?_push_of_some _ e)) (hJ0 _ (Heap.get?_push_of_some _ hS) (fun b o e => Heap.get?_push_of_some _ (Heap.get?_push_of_some _ e))) ?hR
        case hU => simp only [Around.in1]; omega
        case hR =>
          intro s' hm hj hkp
          obtain ⟨h', g2, d', tk', os'⟩ := s'
          have eg : g2 = s.gens := hm.gens
          have ed : d' = s.drawn := hm.drawn
          have eo : os' = s.os := hm.os
          subst eg; subst ed; subst eo
          show wpAny _ _ _ _ _ _
          refine wpAny_pure ?_
          show wpAny _ _ (ret Value.none) _ _ _
          exact wpAny_pure ⟨rfl, h', tk', rfl, hj, hkp⟩
      · cases r₂ with
        | error e => exact hr₂
        | ok fl₂ =>
          cases fl₂ with
          | ret r =>
            obtain ⟨rfl, h', tk, rfl, hj, hk'⟩ := hr₂
            repeat (any_goals (first | assumption | wp_step))
            exact h _ _ hj hk'
          | _ => exact hr₂.elim
    | _ => exact hr.elim


set_option maxHeartbeats 3200000 in
/-- set(xs) of a tuple, by what holds behind each turn -/
theorem call_set_tuple {l : Addr} {items : Array Value} {Q : Value → Shared → Prop} (hh : A.handled = none) (hl : s.heap.IsTuple l items)
    (J : Nat → Heap → Prop) (hJ0 : ∀ h' : Heap, h'.get? s.heap.objs.size = some { cls := .type "set", dict := none, data := .set #[] 0 (.fresh 0 0 (!w.params.followText "set-order")) } → (∀ b o, s.heap.get? b = some o → h'.get? b = some o) → J 0 h')
    (hJ : ∀ i h h', J i h → (∀ o, h.get? s.heap.objs.size = some o → h'.get? s.heap.objs.size = some o) → (∀ b o, s.heap.get? b = some o → h'.get? b = some o) → J i h')
    (hstep : ∀ i v (s1 : Shared), items[i]? = some v → J i s1.heap → (∀ b o, s.heap.get? b = some o → s1.heap.get? b = some o) → ∀ (B : Around) (Q' : Bool → Shared → Prop) (E' : Value → Shared → Prop), B.units ≤ A.units + 3 → (∀ b h' tk, s1.toks ≤ tk → Heap.SameBut s.heap.objs.size s1.heap h' → J (i + 1) h' → Q' b { s1 with heap := h', toks := tk }) → wpAny (model P w) B (setAdd s.heap.objs.size v) Q' E' s1)
    (h : ∀ (h' : Heap) (tk : Nat), J items.size h' → (∀ b o, s.heap.get? b = some o → h'.get? b = some o) → Q (.ref s.heap.objs.size) { s with heap := h', toks := tk }) :
    wpAny (model P w) A (call (.type "set") [.ref l]) Q E s := by
  obtain ⟨c, tl, hmro⟩ := F.called_set.mro
  have hmade := F.called_set.made
  have hsub := F.called_set.sub
  refine wpAny_call (codeAny_of_tree ?_)
  show wpAny _ _ (callAny (.type "set") _) _ _ _
  refine wpAny_pure ⟨Code.quiet_builtin _ (by decide +kernel), codeAny_builtin F.entry_type_call ?_⟩
  rw [Around.under_plain (weight_type_call_type "set" [.ref l] []) rfl]
  have h1 := F.called_set.notType
  have h2 := F.called_set.canCreate
  have hct := F.typeCall_set_1 (.ref l)
  repeat (any_goals (first | assumption | wp_step))
  refine codeAny_mono (code_set_led1 (.ref l) (E := E) (Q₁ := fun obj s₁ => obj = .ref s.heap.objs.size ∧ s₁ = { s with heap := s.heap.push { cls := .type "set", dict := none, data := .set #[] 0 (.fresh 0 0 (!w.params.followText "set-order")) } }) ⟨rfl, rfl⟩) fun r s₁ hr => ?_
  cases r with
  | error e => exact hr
  | ok fl =>
    cases fl with
    | ret obj =>
      obtain ⟨rfl, rfl⟩ := hr
      have hS : (s.heap.push { cls := .type "set", dict := none, data := .set #[] 0 (.fresh 0 0 (!w.params.followText "set-order")) }).get? s.heap.objs.size = some { cls := .type "set", dict := none, data := .set #[] 0 (.fresh 0 0 (!w.params.followText "set-order")) } := Heap.get?_push_size _ rfl
      have hT : Shared.TypeIs { s with heap := s.heap.push { cls := .type "set", dict := none, data := .set #[] 0 (.fresh 0 0 (!w.params.followText "set-order")) } } (.ref s.heap.objs.size) "set" := ⟨_, hS, rfl⟩
      have hli := F.called_set.init.lookup
      have hbi := F.called_set.init.bind (.ref s.heap.objs.size)
      repeat (any_goals (first | assumption | wp_step))
      refine codeAny_mono (codeAny_call_builtin (R := wants (fun r s₂ => r = .none ∧ ∃ h' tk, s₂ = { s with heap := h', toks := tk } ∧ J items.size h' ∧ (∀ b o, s.heap.get? b = some o → h'.get? b = some o)) E) F.called_set.init.plain F.entry_set_init (check_set_init_1 hT ?_)) fun r₂ s₂ hr₂ => ?_
      · obtain ⟨ol, hol, hcl, nl, hdl⟩ := hl
        obtain ⟨ocls, odict, odata, oslots⟩ := ol
        simp only at hcl hdl
        subst hcl; subst hdl
        have hol' : (s.heap.push { cls := .type "set", dict := none, data := .set #[] 0 (.fresh 0 0 (!w.params.followText "set-order")) }).get? l = some { cls := .type "tuple", dict := odict, data := .seq items nl, slots := oslots } := Heap.get?_push_of_some _ hol
        have hsls := F.sub_tuple_set
        have hslf := F.sub_tuple_frozenset
        have hne : (Value.type "tuple" == Value.type "dict") = false := by decide
        have hl1 : (s.heap.push { cls := .type "set", dict := none, data := .set #[] 0 (.fresh 0 0 (!w.params.followText "set-order")) }).IsTuple l items := ⟨_, hol', rfl, nl, rfl⟩
        unfold Builtin.«set.__init__» noKeywords Builtin.Frozenset.updateFrom
        generalize hPI : pyIter = PI
        wp_walk
        subst hPI
        refine wpAny_pyIter_tuple hl1 ?_
        refine wpAny_bind (wpAny_runValue ?_)
        have hlS : l < s.heap.objs.size := Heap.lt_size hol
        have hh3 : A.in1.in1.in1.handled = none := by simp [hh]
        have hneI : l ≠ (s.heap.push { cls := .type "set", dict := none, data := .set #[] 0 (.fresh 0 0 (!w.params.followText "set-order")) }).objs.size := by
          rw [Heap.size_push]; exact Nat.ne_of_lt (Nat.lt_succ_of_lt hlS)
        have hSf : s.heap.objs.size ∉ [(s.heap.push { cls := .type "set", dict := none, data := .set #[] 0 (.fresh 0 0 (!w.params.followText "set-order")) }).objs.size, l] := by
          rw [Heap.size_push]; simp only [List.mem_cons, List.mem_singleton, List.not_mem_nil, or_false, not_or]
          exact ⟨Nat.ne_of_lt (Nat.lt_succ_self _), Nat.ne_of_gt hlS⟩
        have none_of : ∀ b, s.heap.objs.size ≤ b → s.heap.get? b = none := fun b hb => by
          cases q : s.heap.get? b with
          | none => rfl
          | some o => exact absurd (Nat.lt_of_lt_of_le (Heap.lt_size q) hb) (Nat.lt_irrefl _)
        refine set_update_gen ((Walks.tuple hh3 _ l hneI items).toS) s.heap.objs.size hSf J s.heap (none_of _ (Nat.le_refl _)) (fun b hb => none_of b (by
            rw [List.mem_singleton.mp hb, Heap.size_push]
            exact Nat.le_succ _)) hJ (fun i v s1 hv hj hk Q' E' hq => hstep i v s1 hv hj hk _ Q' E' ?hU hq) (items.size - 0) 0 _ (by omega) (Nat.zero_le _)
          ⟨⟨_, Heap.get?_push_size _ rfl, rfl, rfl⟩, (hl1.push _)⟩ (fun b o e => Heap.get?_push_of_some _ (Heap.get?_push_of_some _ e)) (hJ0 _ (Heap.get?_push_of_some _ hS) (fun b o e => Heap.get?_push_of_some _ (Heap.get?_push_of_some _ e))) ?hR
        case hU => simp only [Around.in1]; omega
        case hR =>
          intro s' hm hj hkp
          obtain ⟨h', g2, d', tk', os'⟩ := s'
          have eg : g2 = s.gens := hm.gens
          have ed : d' = s.drawn := hm.drawn
          have eo : os' = s.os := hm.os
          subst eg; subst ed; subst eo
          show wpAny _ _ _ _ _ _
          refine wpAny_pure ?_
          show wpAny _ _ (ret Value.none) _ _ _
          exact wpAny_pure ⟨rfl, h', tk', rfl, hj, hkp⟩
      · cases r₂ with
        | error e => exact hr₂
        | ok fl₂ =>
          cases fl₂ with
          | ret r =>
            obtain ⟨rfl, h', tk, rfl, hj, hk'⟩ := hr₂
            repeat (any_goals (first | assumption | wp_step))
            exact h _ _ hj hk'
          | _ => exact hr₂.elim
    | _ => exact hr.elim

end
end Sy
namespace Sy
section
variable {P : Program} {w : World} {A : Around} {E : Value → Shared → Prop} {s : Shared} {a : Addr}
/-- a set object, by the values it holds -/
def SetW (w : World) (h : Heap) (a : Addr) (as : List Addr) : Prop := ∃ o es ep t, h.get? a = some o ∧ o.ExactSet ∧ o.data = .set es ep t ∧ es.toList.map (·.2) = as.map Value.ref ∧ t.fits es.size = true ∧ es.size < scanBound ∧ Ris t.place.toList ∧ (w.params.followText "set-order" = true ∨ t.led = true)
def SetWO (w : World) (a : Addr) (as : List Addr) : HO := .ext fun h => SetW w h a as
theorem SetW.at {h h' : Heap} {as : List Addr} (R : SetW w h a as) (k : ∀ o, h.get? a = some o → h'.get? a = some o) : SetW w h' a as := by
  obtain ⟨o, es, ep, t, ho, r⟩ := R
  exact ⟨o, es, ep, t, k o ho, r⟩
theorem setW_new {H : Hp} {h : Heap} {as : List Addr} (R : SetW w h a as) : ObjOk P w H h a (SetWO w a as) := by
  have ⟨o, _, _, _, ho, _⟩ := R
  exact ⟨R, ⟨o, ho⟩, fun h1 h2 p k => p.at k⟩
theorem setTR_w {L : List (Addr × List Int)} {es : Array (Int × Value)} {ep : Nat} {t : SetTable} (R : SetTR P w s.heap a L es ep t) : SetW w s.heap a (L.map (·.1)) := by
  obtain ⟨o, ho, hex, hd⟩ := R.ob
  refine ⟨o, es, ep, t, ho, hex, hd, ?_, R.fits, by rw [R.size]; have := R.few; unfold scanBound; omega, R.tab.ris, R.led⟩
  rw [R.rows]
  unfold rowsOf
  rw [List.map_map, List.map_map]; rfl
/-- the 64th -/
theorem add_last {L : List (Addr × List Int)} {es : Array (Int × Value)} {ep : Nat} {t : SetTable} (R : SetTR P w s.heap a L es ep t) (hL : L.length = 63) {x : Addr} {k : List Int} (hx : IsT P w s.heap k x) (hk : k ∉ L.map (·.2)) (hu : A.units < cLine) {Q : Bool → Shared → Prop}
    (hQ : ∀ b h' as, Heap.SameBut a s.heap h' → SetW w h' a as → as.Perm (x :: L.map (·.1)) → Q b { s with heap := h' }) :
    wpAny (model P w) A (setAddHashed a (.ref x) (thash P w k)) Q E s := by
  obtain ⟨o, ho, hex, hd⟩ := R.ob
  have hsl := R.size
  have hroom := R.room
  have hmask : t.mask = 127 := by
    rcases R.tab.mok with e | e | e
    · rw [e] at hroom; omega
    · rw [e] at hroom; omega
    · exact e
  unfold setAddHashed
  refine wpAny_holding ?_
  rw [show (100000 : Nat) = 99999 + 1 from rfl, setAddHashedIn_succ]
  refine wpAny_bind (wpAny_setState_of ho hd R.fits ?_)
  dsimp only
  refine wp_if_neg (by simp [byScan, Value.scannable]) ?_
  try refine wpAny_bind (wpAny_pure ?_)
  refine wpAny_bind (search_at R hx hu (fun hm => absurd hm hk) fun K hm hK hb => ?_)
  dsimp only
  refine wpAny_bind (wpAny_setState_of ho hd R.fits ?_)
  dsimp only
  obtain ⟨q1, q2, q3, q4, q5, q6, q7, q8, q9⟩ := R.tab.put hK hb
  have hp1 : (t.put (way t.mask (thash P w k) K)).1.plain = true := by rw [q6]; exact R.plain
  generalize hpt : t.put (way t.mask (thash P w k) K) = pt at q1 q3 q4 q5 q6 q7 q8 q9 hp1 ⊢
  obtain ⟨t1, p⟩ := pt
  dsimp only at q1 q3 q4 q5 q6 q7 q8 q9 hp1 ⊢
  subst q1
  first
    | (refine wpAny_bind ?_; refine wp_if_pos hp1 ?_; refine hashBy_tup hx ?_)
    | refine wp_if_pos hp1 (wpAny_bind (hashBy_tup hx ?_))
  simp only [if_true]
  have hin : (SetTable.insertAt es (SetTable.below t.place (way t.mask (thash P w k) K)) (thash P w k, Value.ref x)).toList = rowsOf P w (L.take (SetTable.below t.place (way t.mask (thash P w k) K)) ++ (x, k) :: L.drop (SetTable.below t.place (way t.mask (thash P w k) K))) := by
    rw [SetTable.toList_insertAt, rows_put, R.rows]
  generalize SetTable.below t.place (way t.mask (thash P w k) K) = p at q2 q3 hin ⊢
  have pm := put_perm L p (x, k)
  have hes : (SetTable.insertAt es p (thash P w k, Value.ref x)).size = 64 := by
    have h := congrArg List.length hin
    unfold rowsOf at h
    rw [Array.length_toList, List.length_map, pm.length_eq, List.length_cons, hL] at h
    exact h
  generalize SetTable.insertAt es p (thash P w k, Value.ref x) = es1 at hin hes ⊢
  have hhs : (L.take p ++ (x, k) :: L.drop p).map (fun p => thash P w p.2) = (L.map fun p => thash P w p.2).take p ++ thash P w k :: (L.map fun p => thash P w p.2).drop p := by
    rw [List.map_append, List.map_cons, List.map_take, List.map_drop]
  rw [← hhs] at q3
  refine wpAny_bind (wpAny_storeSet_of ho hd ?_ (by rw [hes, sizeLine_eq]; omega))
  have sb : Heap.SameBut a s.heap (s.heap.update a (Obj.putSet es1 t1)) := Heap.SameBut.update ..
  have ho1 := store_at (es' := es1) (t' := t1) ho hd
  generalize s.heap.update a (Obj.putSet es1 t1) = h1 at sb ho1 ⊢
  have ld1 : w.params.followText "set-order" = true ∨ t1.led = true := by rw [q5]; exact R.led
  have hf : ¬ t1.tooFull = true := fun h => by
    unfold SetTable.tooFull at h
    rw [decide_eq_true_eq, q9, List.length_map, q4, hmask] at h
    omega
  have hsz1 : t1.place.size = 64 := by
    have h := q3.sz
    rw [List.length_map, pm.length_eq, List.length_cons, hL] at h
    exact h
  first
    | refine wp_if_neg (by simp [hf]) ?_
    | (refine wpAny_bind ?_; refine wp_if_neg (by simp [hf]) ?_; refine wpAny_pure ?_)
  refine wpAny_pure (hQ true h1 ((L.take p ++ (x, k) :: L.drop p).map (·.1)) sb ⟨_, es1, _, t1, ho1, ⟨hex.1, hex.2.1, hex.2.2⟩, rfl, ?_, ?_, by rw [hes]; decide, q3.ris, ld1⟩ ?_)
  · rw [hin]
    unfold rowsOf
    rw [List.map_map, List.map_map]; rfl
  · unfold SetTable.fits SetTable.fill
    rw [q3.dm, Bool.and_eq_true, beq_iff_eq, decide_eq_true_eq]
    show t1.place.size = es1.size ∧ t1.place.size + 0 ≤ t1.mask
    rw [hsz1, hes, q4, hmask]; omega
  · have := pm.map (·.1)
    rwa [List.map_cons] at this
end
section
variable {X : Cx} {pins : List (Addr × Obj)} {σ : L2.St} {H : Hp} {s : Shared} {Q : VK}
theorem rows_isT (I : Inv X pins σ H s) {r : List Int} {b : Addr} (h : H b = some (.tup (r.map V.int))) : IsT X.prog X.w s.heap r b := I.isT (SqT.of h)
/-- set(xs) of a list of rows -/
theorem cc_setRows (hc : X.calm = true) (hu : X.A.units + 64 < cLine) {l : Addr} {xs : List V} {rs : List (List Int)} (hl : SqL X.K H l xs) (hR : RowsAt X.K H rs xs) (hnd : rs.Nodup) (h64 : rs.length ≤ 64)
    (q : ∀ p as, H p = none → (as.map V.ref).Perm xs → Q (.ref p) (upd H p (SetWO X.w p as))) : CC X (.type "set") [.ref l] H Q := by
  refine ⟨fun pins s σ us I r => ?_⟩
  rw [Vals.ref1 r]
  obtain ⟨its, rv, pl, hz⟩ := I.list hl
  have hn : H s.heap.objs.size = none := I.hok.fresh (Nat.le_refl _)
  obtain ⟨ex, hrefs⟩ := bkV_refs rv hR.refs
  -- the rows with their places
  have adr : ∀ v ∈ its, ∃ b, v = Value.ref b ∧ H b = some (.tup ((rowAt H (bkV v)).map V.int)) := fun v hv => by
    have hb : bkV v ∈ xs := by rw [ex]; exact List.mem_map.mpr ⟨v, hv, rfl⟩
    obtain ⟨j, hj⟩ := List.mem_iff_getElem?.mp hb
    obtain ⟨r, hr1, hr2⟩ := hR.2 j _ hj
    have er := rowAt_eq hr2
    obtain ⟨b, eb, hb2⟩ := hr2
    exact ⟨b, bkV_ref eb, by rw [er]; exact hb2⟩
  let ks : List (Addr × List Int) := its.map fun v => ((match v with | .ref b => b | _ => 0), rowAt H (bkV v))
  have hks : ks.map (·.2) = rs := by
    show (its.map _).map _ = rs
    rw [List.map_map, rowsAt_map hR, ex, List.map_map]; rfl
  have hkl : ks.length = rs.length := by have := congrArg List.length hks; rw [List.length_map] at this; exact this
  have hkget : ∀ (i : Nat) (v : Value), its[i]? = some v → ∃ p, ks[i]? = some p ∧ v = .ref p.1 ∧ H p.1 = some (.tup (p.2.map V.int)) := fun i v hv => by
    obtain ⟨b, rfl, hb⟩ := adr v (List.mem_of_getElem? hv)
    exact ⟨(b, rowAt H (bkV (.ref b))), by show (its.map _)[i]? = _; rw [List.getElem?_map, hv]; rfl, rfl, hb⟩
  have hkT : ∀ p ∈ ks, IsT X.prog X.w s.heap p.2 p.1 := fun p hp => by
    obtain ⟨v, hv, rfl⟩ := List.mem_map.mp hp
    obtain ⟨b, rfl, hb⟩ := adr v hv
    exact rows_isT I hb
  have hsz : its.toArray.size = ks.length := by show its.toArray.size = (its.map _).length; rw [List.size_toArray, List.length_map]
  refine call_set_list (P := X.prog) (w := X.w) (I.ok.hd hc) pl.isList (fun i h => ∃ L : List (Addr × List Int), L.Perm (ks.take i) ∧ ((i ≤ 63 ∧ ∃ es ep t, SetTR X.prog X.w h s.heap.objs.size L es ep t) ∨ (i = 64 ∧ ∃ as, as.Perm (L.map (·.1)) ∧ SetW X.w h s.heap.objs.size as)))
    (fun h' hf hk => ⟨[], by rw [List.take_zero], .inl ⟨by omega, _, _, _, setTR_fresh hf⟩⟩) ?_ ?_ ?_
  · rintro i h h' ⟨L, pm, hj⟩ hS hk
    refine ⟨L, pm, ?_⟩
    rcases hj with ⟨hi, es, ep, t, R⟩ | ⟨hi, as, pa, R⟩
    · exact .inl ⟨hi, es, ep, t, R.keep hS fun p hp => isT_keep (hkT p (List.mem_of_mem_take (pm.mem_iff.mp hp))) hk⟩
    · exact .inr ⟨hi, as, pa, R.at hS⟩
  · rintro i v s1 hv ⟨L, pm, hj⟩ hk B Q' E' hB hq
    obtain ⟨p, hp, rfl, hHp⟩ := hkget i v (by rw [← List.getElem?_toArray]; exact hv)
    have hik : i < ks.length := (List.getElem?_eq_some_iff.mp hp).1
    have hi63 : i ≤ 63 := by omega
    have hx : IsT X.prog X.w s1.heap p.2 p.1 := isT_keep (hkT p (List.mem_of_getElem? hp)) hk
    have hnew : p.2 ∉ L.map (·.2) := fun hm => by
      obtain ⟨q0, hq0, e0⟩ := List.mem_map.mp hm
      have hq1 := pm.mem_iff.mp hq0
      obtain ⟨j, hj1⟩ := List.mem_iff_getElem?.mp hq1
      have hji : j < i := by
        have := (List.getElem?_eq_some_iff.mp hj1).1
        rw [List.length_take] at this; omega
      rw [List.getElem?_take, if_pos hji] at hj1
      have hnd' : (ks.map (·.2)).Nodup := by rw [hks]; exact hnd
      have a1 : (ks.map (·.2))[j]? = some p.2 := by rw [List.getElem?_map, hj1, ← e0]; rfl
      have a2 : (ks.map (·.2))[i]? = some p.2 := by rw [List.getElem?_map, hp]; rfl
      obtain ⟨b1, c1⟩ := List.getElem?_eq_some_iff.mp a1
      obtain ⟨b2, c2⟩ := List.getElem?_eq_some_iff.mp a2
      exact List.pairwise_iff_getElem.mp hnd' j i b1 b2 hji (by rw [c1, c2])
    have htk : ks.take (i + 1) = ks.take i ++ [p] := by rw [List.take_add_one, hp]; rfl
    have pm2 : ∀ L' : List (Addr × List Int), L'.Perm (p :: L) → L'.Perm (ks.take (i + 1)) := fun L' h => by
      rw [htk]
      exact h.trans ((List.Perm.cons p pm).trans (List.perm_append_singleton _ _).symm)
    have hLl : L.length = i := by rw [pm.length_eq, List.length_take]; omega
    unfold setAdd
    refine wpAny_holding ?_
    rcases hj with ⟨_, es, ep, t, R⟩ | ⟨hi, _⟩
    · refine wpAny_bind (wpAny_pyHash_tuple (by omega) hx ?_)
      by_cases h62 : i ≤ 62
      · refine add_at (s := { s1 with toks := s1.toks + (p.2.length + 1) }) R hx (by omega) (by omega) fun b h' L' es' ep' t' hsb hS2 c1 c2 => ?_
        exact hq b h' _ (Nat.le_add_right _ _) hsb ⟨L', pm2 L' (c2 hnew), .inl ⟨by omega, es', ep', t', hS2⟩⟩
      · refine add_last (s := { s1 with toks := s1.toks + (p.2.length + 1) }) R (by omega) hx hnew (by omega) fun b h' as hsb hW pa => ?_
        refine hq b h' _ (Nat.le_add_right _ _) hsb ⟨p :: L, pm2 _ (List.Perm.refl _), .inr ⟨by omega, as, ?_, hW⟩⟩
        rw [List.map_cons]; exact pa
    · omega
  · rintro h' tk ⟨L, pm, hj⟩ hk
    rw [hsz, List.take_length] at pm
    have fin : ∀ as, as.Perm (L.map (·.1)) → SetW X.w h' s.heap.objs.size as → EP X pins σ Q (.ref s.heap.objs.size) { s with heap := h', toks := tk } := fun as pa hW => by
      refine ⟨.ref s.heap.objs.size, upd H s.heap.objs.size (SetWO X.w s.heap.objs.size as), I.laid (t' := tk) hk (Nat.le_refl _) (setW_new hW), rfl, q _ as hn ?_⟩
      have e1 : (ks.map (·.1)).map V.ref = xs := by
        rw [ex]
        show ((its.map _).map _).map _ = _
        rw [List.map_map, List.map_map]
        refine List.map_congr_left fun v hv => ?_
        obtain ⟨b, rfl⟩ := hrefs v hv
        rfl
      rw [← e1]
      exact (pa.trans (pm.map (·.1))).map V.ref
    rcases hj with ⟨_, es, ep, t, R⟩ | ⟨_, as, pa, R⟩
    · exact fin _ (List.Perm.refl _) (setTR_w (s := { s with heap := h', toks := tk }) R)
    · exact fin as pa R
theorem collects_set (I : Inv X pins σ H s) (hc : X.calm = true) {a : Addr} {as : List Addr} {xs : List V} {rs : List (List Int)} (ha : H a = some (SetWO X.w a as)) (pa : (as.map V.ref).Perm xs) (hR : RowsAt X.K H rs xs) : Collects X H s (.ref a) rs := by
  intro R E k
  obtain ⟨o, es, ep, t, ho, hex, hd, hes, hf, hsz, hri, hl⟩ := (show ObjOk X.prog X.w H s.heap a (SetWO X.w a as) from I.hok a _ ha).1
  refine collect_set (A := X.A.in1) (I.ok.hd hc) ⟨o, ho, hex.1, hd⟩ hf hsz hri hl fun s1 vs k1 hz g1 o1 pm => ?_
  rw [hes] at pm
  have hrefs : ∀ v ∈ vs, ∃ b, v = Value.ref b := fun v hv => by
    obtain ⟨b, _, e⟩ := List.mem_map.mp (pm.mem_iff.mp hv)
    exact ⟨b, e.symm⟩
  have p2 : (vs.map bkV).Perm xs := by
    refine List.Perm.trans ?_ pa
    have := pm.map bkV
    rw [List.map_map] at this
    exact this
  obtain ⟨h1, h2⟩ := hR.perm p2
  refine k s1 vs _ _ k1 (fun pins σ I => ?_) (bkV_vals hrefs) h1 h2
  refine I.call' o1 (ch := []) (Un.kept k1) (I.hok.kept k1) (by rw [g1]; exact I.bare) (fun _ z => nomatch z)
theorem cc_sortedS (hc : X.calm = true) {a : Addr} {as : List Addr} {xs : List V} {n d : Nat} {rs : List (List Int)} (ha : H a = some (SetWO X.w a as)) (pa : (as.map V.ref).Perm xs) (hR : RowsAt X.K H rs xs) (hnd : rs.Nodup) (hr : ∀ r ∈ rs, IsRow n d r) (hz : rs.length ≤ 1000)
    (q : ∀ p ys, H p = none → RowsAt X.K H ((rowsL n d).filter fun r => decide (r ∈ rs)) ys → Q (.ref p) (upd H p (.lst ys))) : CC X (.builtin "sorted") [.ref a] H Q :=
  ⟨fun pins s σ us I r => by
    rw [Vals.ref1 r]
    exact sorted_rows I hnd hr hz (collects_set I hc ha pa hR) q⟩
end
end Sy
namespace Sy
section
variable {P : Program} {w : World} {A : Around} {E : Value → Shared → Prop} {s : Shared} {a : Addr}
/-- a set of texts -/
def SetX (P : Program) (w : World) (h : Heap) (a : Addr) (l : List Str) : Prop := ∃ D : Froz.SD, h.get? a = some (Froz.sObj "set" D) ∧ Froz.TxOk P w D l ∧ Ris D.2.2.place.toList ∧ (w.params.followText "set-order" = true ∨ D.2.2.led = true)
def SetXO (P : Program) (w : World) (a : Addr) (l : List Str) : HO := .ext fun h => SetX P w h a l
theorem SetX.at {h h' : Heap} {l : List Str} (R : SetX P w h a l) (k : ∀ o, h.get? a = some o → h'.get? a = some o) : SetX P w h' a l := by
  obtain ⟨D, ho, r⟩ := R
  exact ⟨D, k _ ho, r⟩
theorem setX_new {H : Hp} {h : Heap} {l : List Str} (R : SetX P w h a l) : ObjOk P w H h a (SetXO P w a l) := by
  have ⟨D, ho, _⟩ := R
  exact ⟨R, ⟨_, ho⟩, fun h1 h2 p k => p.at k⟩
theorem tail_ris {ep : Nat} {es1 : Array (Int × Value)} {t2 : SetTable} {wasDummy : Bool} (hr : Ris t2.place.toList) : Ris (Froz.tailTx ep es1 t2 wasDummy).2.2.place.toList := by
  unfold Froz.tailTx
  split
  · exact relayAll_ris t2 es1 _
  · exact hr
theorem tail_led {ep : Nat} {es1 : Array (Int × Value)} {t2 : SetTable} {wasDummy : Bool} : (Froz.tailTx ep es1 t2 wasDummy).2.2.led = t2.led := by
  unfold Froz.tailTx
  split
  · exact relayAll_led t2 es1 _
  · rfl
theorem add_ris {D : Froz.SD} {x : Int} {v : Value} (hr : Ris D.2.2.place.toList) : Ris (Froz.addTx x v D).2.2.place.toList := by
  unfold Froz.addTx
  refine tail_ris ?_
  have := layNew_ris D.2.2 D.1 x v hr
  split <;> exact this
theorem add_led {D : Froz.SD} {x : Int} {v : Value} : (Froz.addTx x v D).2.2.led = D.2.2.led := by
  unfold Froz.addTx
  rw [tail_led]
  have := layNew_led D.2.2 D.1 x v
  split <;> exact this
theorem addX {l : List Str} {k : Str} {u : Tok} {Q : Bool → Shared → Prop} (R : SetX P w s.heap a l) (hb : l.length + 1 < scanBound)
    (hQ : ∀ b h', Heap.SameBut a s.heap h' → SetX P w h' a (if k ∈ l then l else k :: l) → Q b { s with heap := h', toks := s.toks + 1 }) : wpAny (model P w) A (setAdd a (.str k u)) Q E s := by
  obtain ⟨D, ho, F, hr, hl⟩ := R
  have hkey : (strKind P w).is k (.str k u) = true := Froz.is_str k u
  unfold setAdd
  refine wpAny_holding ?_
  refine wpAny_bind ((strKind P w).pyHash hkey ?_)
  by_cases hk : k ∈ l
  · obtain ⟨es, ep, t⟩ := D
    have hf : t.fits es.size = true := F.fit
    have hel : ElemsOf (strKind P w) es.toList := F.el
    have hsz : es.size = l.length := F.sz
    have hd : (Froz.sObj "set" (es, ep, t)).data = .set es ep t := rfl
    unfold setAddHashed setAddHashedIn
    refine wpAny_holding (wpAny_bind (wpAny_setState_of (s := { s with toks := s.toks + 1 }) ho hd hf ?_))
    dsimp only
    rw [byScan_of rfl (by omega) hel]
    simp only [↓reduceIte]
    unfold setAddByScan
    refine wpAny_bind ?_
    refine wpAny_bind (wpAny_rule ?_)
    refine wpAny_bind (wpAny_setScan_of (knd := strKind P w) (k := k) (s := { s with toks := s.toks + 1 }) hkey ho hd hf hel ?_)
    cases hfi : List.findIdx? (fun e => (strKind P w).is k e.2) es.toList with
    | none =>
      obtain ⟨e, he, q⟩ := (F.mem k).mp hk
      have c := List.findIdx?_eq_none_iff.mp hfi e he
      rw [q] at c; cases c
    | some j =>
      dsimp only
      refine wpAny_pure (wpAny_pure ?_)
      exact hQ _ s.heap (Heap.SameBut.refl a s.heap) (by rw [if_pos hk]; exact ⟨(es, ep, t), ho, F, hr, hl⟩)
  · refine Froz.add_x (s := { s with toks := s.toks + 1 }) ho F hk hb ?_
    refine hQ true _ (Heap.SameBut.update ..) ?_
    rw [if_neg hk]
    exact ⟨_, Froz.get_upd _ ho rfl, Froz.add_ok u F, add_ris hr, by rw [add_led]; exact hl⟩
theorem callAddX {l : List Str} {k : Str} {u : Tok} {Q : Value → Shared → Prop} (R : SetX P w s.heap a l) (hb : l.length + 1 < scanBound)
    (hQ : ∀ h', Heap.SameBut a s.heap h' → SetX P w h' a (if k ∈ l then l else k :: l) → Q .none { s with heap := h', toks := s.toks + 1 }) : wpAny (model P w) A (call (.builtin "set.add") [.ref a, .str k u]) Q E s := by
  have hT : s.TypeIs (.ref a) "set" := let ⟨_, ho, _⟩ := R; ⟨_, ho, rfl⟩
  refine wpAny_call_entry F.slot_set_add hT F.entry_set_add ?_ (F.args_set_add_2 _ _)
  unfold Builtin.«set.add» Builtin.Frozenset.oneOther
  simp only [List.isEmpty_nil, bind_assoc]
  unfold Builtin.Frozenset.addrOf
  refine wpAny_bind (wpAny_pure ?_)
  try dsimp only
  refine wpAny_bind (wpAny_pure ?_)
  try dsimp only
  refine wpAny_bind ?_
  refine addX R hb fun b h' sb r => ?_
  show wpAny _ _ (ret Value.none) _ _ _
  exact wpAny_pure ⟨_, rfl, hQ h' sb r⟩
theorem setX_fresh {h : Heap} (ho : h.get? a = some { cls := .type "set", dict := none, data := .set #[] 0 (.fresh 0 0 (!w.params.followText "set-order")) }) : SetX P w h a [] :=
  ⟨(#[], 0, .fresh 0 0 (!w.params.followText "set-order")), ho, Froz.TxOk.nil rfl, List.Pairwise.nil, by
    show _ ∨ (!w.params.followText "set-order") = true
    cases w.params.followText "set-order"
    · exact .inr rfl
    · exact .inl rfl⟩
end
/-- the texts met, each once -/
def met (l : List Str) (k : Str) : List Str := if k ∈ l then l else k :: l
theorem met_nd {l : List Str} {k : Str} (h : l.Nodup) : (met l k).Nodup := by
  unfold met; split
  · exact h
  · exact List.nodup_cons.mpr ⟨by assumption, h⟩
theorem mem_met {l : List Str} {k x : Str} : x ∈ met l k ↔ x ∈ l ∨ x = k := by
  unfold met; split
  · exact ⟨.inl, fun h => h.elim id fun e => by rw [e]; assumption⟩
  · rw [List.mem_cons]; exact Or.comm
theorem len_met (l : List Str) (k : Str) : (met l k).length ≤ l.length + 1 := by
  unfold met; split
  · omega
  · simp
section
variable {X : Cx} {pins : List (Addr × Obj)} {σ : L2.St} {H : Hp} {s : Shared} {Q : VK}
theorem strs_get : ∀ {us : List Value} {ss : List Str} {i : Nat} {v : Value}, StrsAre us ss → us[i]? = some v → ∃ x t, ss[i]? = some x ∧ v = .str x t
  | _, _, _, _, .nil, h => by simp at h
  | _, _, 0, _, .cons y t _, h => ⟨y, t, rfl, (Option.some.inj h).symm⟩
  | _, _, i + 1, _, .cons y t r, h => strs_get (i := i) r h
/-- set(xs) of a list of texts -/
theorem cc_setXL (hc : X.calm = true) {l : Addr} {ss : List Str} (hl : SqL X.K H l (ss.map V.str)) (hz : ss.length ≤ 1000)
    (q : ∀ p ks, H p = none → ks.Nodup → (∀ x, x ∈ ks ↔ x ∈ ss) → Q (.ref p) (upd H p (SetXO X.prog X.w p ks))) : CC X (.type "set") [.ref l] H Q := by
  refine ⟨fun pins s σ us I r => ?_⟩
  rw [Vals.ref1 r]
  obtain ⟨its, rv, pl, hz'⟩ := I.list hl
  have hl1 := pl.isList
  have hn : H s.heap.objs.size = none := I.hok.fresh (Nat.le_refl _)
  have hS : StrsAre its ss := rv.strs
  have hil : its.length = ss.length := by rw [← rv.length, List.length_map]
  refine call_set_list (P := X.prog) (w := X.w) (I.ok.hd hc) hl1 (fun i h => ∃ ks : List Str, SetX X.prog X.w h s.heap.objs.size ks ∧ ks.Nodup ∧ ks.length ≤ i ∧ ∀ x, x ∈ ks ↔ x ∈ ss.take i)
    (fun h' hf hk => ⟨[], setX_fresh hf, List.nodup_nil, Nat.le_refl _, fun x => by simp⟩) (fun i h h' ⟨ks, h1, h2⟩ hS hk => ⟨ks, h1.at hS, h2⟩) ?_ ?_
  · rintro i v s1 hv ⟨ks, h1, h2, h3, h4⟩ hk B Q' E' hB hq
    have hv' : its[i]? = some v := by rw [← List.getElem?_toArray]; exact hv
    obtain ⟨x, t, hx, rfl⟩ := strs_get hS hv'
    have hi := (List.getElem?_eq_some_iff.mp hx).1
    refine addX h1 (by unfold scanBound; omega) fun b h' sb new => ?_
    refine hq b h' _ (Nat.le_succ _) sb ⟨met ks x, new, met_nd h2, Nat.le_trans (len_met _ _) (by omega), fun y => ?_⟩
    rw [mem_met, h4 y, List.take_add_one, hx, List.mem_append]
    simp
  · rintro h' tk ⟨ks, h1, h2, h3, h4⟩ hk
    refine ⟨.ref s.heap.objs.size, upd H s.heap.objs.size (SetXO X.prog X.w s.heap.objs.size ks), I.laid (t' := tk) hk (Nat.le_refl _) (setX_new h1), rfl, q _ ks hn h2 fun x => ?_⟩
    rw [h4 x, List.take_of_length_le (by rw [List.size_toArray, hil]; omega)]
/-- set(xs) of a tuple of texts -/
theorem cc_setXT (hc : X.calm = true) {l : Addr} {ss : List Str} (hl : SqT X.K H l (ss.map V.str)) (hz : ss.length ≤ 1000)
    (q : ∀ p ks, H p = none → ks.Nodup → (∀ x, x ∈ ks ↔ x ∈ ss) → Q (.ref p) (upd H p (SetXO X.prog X.w p ks))) : CC X (.type "set") [.ref l] H Q := by
  refine ⟨fun pins s σ us I r => ?_⟩
  rw [Vals.ref1 r]
  obtain ⟨its, rv, pl, hz'⟩ := I.tuple hl
  have hl1 : s.heap.IsTuple l its.toArray := pl
  have hn : H s.heap.objs.size = none := I.hok.fresh (Nat.le_refl _)
  have hS : StrsAre its ss := rv.strs
  have hil : its.length = ss.length := by rw [← rv.length, List.length_map]
  refine call_set_tuple (P := X.prog) (w := X.w) (I.ok.hd hc) hl1 (fun i h => ∃ ks : List Str, SetX X.prog X.w h s.heap.objs.size ks ∧ ks.Nodup ∧ ks.length ≤ i ∧ ∀ x, x ∈ ks ↔ x ∈ ss.take i)
    (fun h' hf hk => ⟨[], setX_fresh hf, List.nodup_nil, Nat.le_refl _, fun x => by simp⟩) (fun i h h' ⟨ks, h1, h2⟩ hS hk => ⟨ks, h1.at hS, h2⟩) ?_ ?_
  · rintro i v s1 hv ⟨ks, h1, h2, h3, h4⟩ hk B Q' E' hB hq
    have hv' : its[i]? = some v := by rw [← List.getElem?_toArray]; exact hv
    obtain ⟨x, t, hx, rfl⟩ := strs_get hS hv'
    have hi := (List.getElem?_eq_some_iff.mp hx).1
    refine addX h1 (by unfold scanBound; omega) fun b h' sb new => ?_
    refine hq b h' _ (Nat.le_succ _) sb ⟨met ks x, new, met_nd h2, Nat.le_trans (len_met _ _) (by omega), fun y => ?_⟩
    rw [mem_met, h4 y, List.take_add_one, hx, List.mem_append]
    simp
  · rintro h' tk ⟨ks, h1, h2, h3, h4⟩ hk
    refine ⟨.ref s.heap.objs.size, upd H s.heap.objs.size (SetXO X.prog X.w s.heap.objs.size ks), I.laid (t' := tk) hk (Nat.le_refl _) (setX_new h1), rfl, q _ ks hn h2 fun x => ?_⟩
    rw [h4 x, List.take_of_length_le (by rw [List.size_toArray, hil]; omega)]
theorem cc_lenX {a : Addr} {l : List Str} (ha : H a = some (SetXO X.prog X.w a l)) (hz : l.length ≤ 1000) (q : Q (.int l.length) H) : CC X (.builtin "len") [.ref a] H Q := by
  refine ⟨fun pins s σ us I r => ?_⟩
  rw [Vals.ref1 r]
  obtain ⟨D, ho, F, hr, hl⟩ := (show ObjOk X.prog X.w H s.heap a (SetXO X.prog X.w a l) from I.hok a _ ha).1
  obtain ⟨es, ep, t⟩ := D
  have hn : es.size = l.length := F.sz
  refine call_len_set ho ⟨rfl, rfl, rfl⟩ rfl F.fit (by rw [hn] <;> omega) ⟨.int l.length, H, I.tok _, ⟨_, by rw [hn]⟩, q⟩
theorem cc_sortedX (hc : X.calm = true) {a : Addr} {l : List Str} (ha : H a = some (SetXO X.prog X.w a l)) (hz : l.length < 64)
    (q : ∀ (p : Addr) (ys : List Str), H p = none → ys.length = l.length → (∀ x ∈ ys, x ∈ l) → Q (.ref p) (upd H p (.lst (ys.map V.str)))) : CC X (.builtin "sorted") [.ref a] H Q := by
  refine ⟨fun pins s σ us I r => ?_⟩
  rw [Vals.ref1 r]
  obtain ⟨D, ho, Fx, hr, hl⟩ := (show ObjOk X.prog X.w H s.heap a (SetXO X.prog X.w a l) from I.hok a _ ha).1
  obtain ⟨es, ep, t⟩ := D
  have hn : es.size = l.length := Fx.sz
  refine Calls.call_function_entry PyProof.Rows.kind_sorted PyProof.Rows.plain_sorted PyProof.Rows.entry_sorted (PyProof.Rows.args_sorted1 _) ?_
  unfold Builtin.«sorted»
  refine wpAny_bind (m := checkCount "sorted" 1 1 _) (wpAny_pure ?_)
  refine wpAny_bind (collect_set (A := X.A.in1) (I.ok.hd hc) ⟨_, ho, rfl, rfl⟩ Fx.fit (by rw [hn]; unfold scanBound; omega) hr hl fun s1 vs k1 hz1 g1 o1 pm => ?_)
  have each : ∀ v ∈ vs, ∃ x t, v = Value.str x t ∧ x ∈ l := fun v hv => by
    obtain ⟨e, he, rfl⟩ := List.mem_map.mp (pm.mem_iff.mp hv)
    obtain ⟨⟨k, hk, _⟩, _⟩ := Fx.el e he
    obtain ⟨t, ev⟩ := Value.isStrOf_shape (x := k) (v := e.2) hk
    exact ⟨k, t, ev, (Fx.mem k).mpr ⟨e, he, hk⟩⟩
  have mk : ∀ vs : List Value, (∀ v ∈ vs, ∃ x t, v = Value.str x t ∧ x ∈ l) → ∃ ss, StrsAre vs ss ∧ ∀ x ∈ ss, x ∈ l := by
    intro vs
    induction vs with
    | nil => exact fun _ => ⟨[], .nil, by simp⟩
    | cons v vs ih =>
      intro h
      obtain ⟨x, t, rfl, hx⟩ := h v (by simp)
      obtain ⟨ss, h1, h2⟩ := ih fun u hu => h u (by simp [hu])
      exact ⟨x :: ss, .cons x t h1, fun y hy => by
        rcases List.mem_cons.mp hy with rfl | hy
        · exact hx
        · exact h2 y hy⟩
  obtain ⟨ss, hS, hss⟩ := mk vs each
  have hvl : vs.length = l.length := by rw [pm.length_eq, List.length_map, Array.length_toList]; exact hn
  have hsl : ss.length = vs.length := by have := (vals_of_strs hS).length; rw [List.length_map] at this; exact this
  have I1 : Inv X pins σ H s1 := I.call' o1 (ch := []) (Un.kept k1) (I.hok.kept k1) (by rw [g1]; exact I.bare) (fun _ z => nomatch z)
  refine wpAny_bind (wpAny_newList ?_ (by rw [hvl, sizeLine_eq]; omega))
  have hoL : (s1.heap.push (seqObj "list" vs.toArray 0)).get? s1.heap.objs.size = some (seqObj "list" vs.toArray 0) := Heap.get?_push_size _ rfl
  show wpAny _ _ _ _ _ { s1 with heap := s1.heap.push (seqObj "list" vs.toArray 0) }
  refine wpAny_bind (wpAny_holding (wpAny_call_entry PyProof.Rows.slot_list_sort ⟨_, hoL, rfl⟩ PyProof.Rows.entry_list_sort
    (list_sort_treeK strKind_oneLt (s := { s1 with heap := s1.heap.push (seqObj "list" vs.toArray 0) }) hoL hS.keysOf (fun v₁ v₂ rest e => keyKind_strs (by rw [← e]; exact hS)) (by rw [hvl]; exact hz) fun st' hp hs => ⟨_, rfl, ?_⟩)
    (PyProof.Rows.args_list_sort _)))
  obtain ⟨ys, h1, h2, h3⟩ := sorted_out_str hS hp hs
  obtain ⟨e', he'⟩ := PyProof.Rows.sortedHeap_at (vs := vs) (out := (arrOf st').map (·.2)) hoL
  have hyl : ys.length = l.length := by rw [h2.length_eq, hsl, hvl]
  have hlen : (ys.map V.str).length ≤ sizeLine := by rw [List.length_map, hyl, sizeLine_eq]; omega
  have hn1 : H s1.heap.objs.size = none := I1.hok.fresh (Nat.le_refl _)
  refine wpAny_pure ⟨_, rfl, .ref s1.heap.objs.size, upd H s1.heap.objs.size (.lst (ys.map V.str)), I1.laid (t' := s1.toks) (fun b u e => ?_) (Nat.le_refl _)
    (show ObjOk X.prog X.w _ _ _ (.lst (ys.map V.str)) from ⟨hlen, ((arrOf st').map (·.2)).toList, e', vals_of_strs h1, by rw [Array.toArray_toList]; exact he'⟩), rfl, q _ ys hn1 hyl fun x hx => hss x (h2.mem_iff.mp hx)⟩
  have hb : b < s1.heap.objs.size := Heap.lt_size e
  rw [PyProof.Rows.sortedHeap_old (Nat.ne_of_lt hb) (by rw [size_push']; exact Nat.lt_succ_of_lt hb)]
  exact Heap.get?_push_of_some _ e
/-- found.add(k) -/
theorem mt_addX {x : Addr} {l : List Str} {k : Str} (ha : H x = some (SetXO X.prog X.w x l)) (hz : l.length ≤ 1000) (q : Q .non (upd H x (SetXO X.prog X.w x (met l k)))) : MM X "set.add" (.ref x) [.str k] H Q := by
  refine ⟨fun pins s σ v us I rx rv => ?_⟩
  cases rx
  obtain ⟨u, rfl, ru⟩ := rv.one
  obtain ⟨t, rfl⟩ := ru
  refine callAddX (show SetX X.prog X.w s.heap x l from (I.hok x _ ha).1) (by unfold scanBound; omega) fun h' sb new => ?_
  have he : ∃ u, h'.get? x = some u := by
    have ⟨D, ho, _⟩ := new
    exact ⟨_, ho⟩
  exact ⟨.non, upd H x (SetXO X.prog X.w x (met l k)), I.write (e := x) (t' := s.toks + 1) (by rw [ha]; trivial) (.inl rfl) (fun b u hb hu => (sb.2 b hb).trans hu) he (setX_new new), rfl, q⟩
end
section
variable {X : Cx} {σ : L2.St} {H : Hp} {Q : VK} {o e : Expr} {apos pos : Pos}
theorem ee_addX (h : EE X o σ H fun x H1 => ∃ a l, x = .ref a ∧ H1 a = some (SetXO X.prog X.w a l) ∧ EE X e σ H1 fun y H2 => ∃ k l, y = .str k ∧ H2 a = some (SetXO X.prog X.w a l) ∧ l.length ≤ 1000 ∧ Q .non (upd H2 a (SetXO X.prog X.w a (met l k))))
    (hbase : attributeBase o "add" X.env (eval o X.env) = eval o X.env := by rfl)
    (hfew : ((backTo pos (starEach [e] X.env)).all (fun x => !x.1) && (backToKw pos (keywordEach [] X.env)).all (fun x => x.1.isSome)
      && decide (([e] : List Expr).length + ([] : List Keyword).length + (if ([] : List Keyword).isEmpty then 0 else 1) < 30)) = true := by rfl)
    (hline : (apos.endLine == pos.line) = true := by rfl) (hs : starEach [e] X.env = (false, eval e X.env) :: starEach [] X.env := by rfl) (hplain : (backTo pos (starEach [] X.env)).any (·.1) = false := by rfl) :
    EE X (.Call (.Attribute o "add" apos) [e] [] pos) σ H Q := by
  refine ⟨fun pins s I => ?_⟩
  refine wpAny_Call_method_late hbase hfew hline rfl (thn (h.run pins s I) fun v s1 ⟨x, H1, I1, r1, a, l, ex, ha, q1⟩ => ?_)
  subst ex
  cases r1
  have hX : SetX X.prog X.w s1.heap a l := (I1.hok a _ ha).1
  have hT : s1.TypeIs (.ref a) "set" := let ⟨_, ho, _⟩ := hX; ⟨_, ho, rfl⟩
  have hD : ∀ b, Value.ref a = .ref b → ∃ ob, s1.heap.get? b = some ob ∧ ob.dict = none := fun b q => by
    cases q
    obtain ⟨D, ho, _⟩ := hX
    exact ⟨_, ho, rfl⟩
  refine ⟨"set", "set.add", F.plainAttrs_set, F.slot_set_add, F.type_set_add, hT, hD, ?_⟩
  have hA := (aa_cons (QA := fun vs H2 => ∃ k l, vs = [.str k] ∧ H2 a = some (SetXO X.prog X.w a l) ∧ l.length ≤ 1000 ∧ Q .non (upd H2 a (SetXO X.prog X.w a (met l k)))) (X := X) (es := []) (⟨fun pins s I => thn (q1.run pins s I) fun u s' ⟨y, H2, I2, r2, k, l, e2, h1, h2, q2⟩ => ⟨y, H2, I2, r2, aa_nil ⟨k, l, by rw [e2], h1, h2, q2⟩⟩⟩ : EE X e σ H1 fun y H2 => AA X [] σ H2 fun vs H3 => ∃ k l, y :: vs = [.str k] ∧ H3 a = some (SetXO X.prog X.w a l) ∧ l.length ≤ 1000 ∧ Q .non (upd H3 a (SetXO X.prog X.w a (met l k)))) hs).run pos pins s1 I1
  rw [hs] at hA ⊢
  refine Calls.callWith_builtin (by show (false || (backTo pos (starEach [] X.env)).any (·.1)) = false; rw [hplain] <;> rfl) (Calls.evalArgs_plain ?_)
  exact thn hA fun us s2 ⟨vs, H2, I2, r2, k, l, e2, h1, h2, q2⟩ => (by
    subst e2
    exact (mt_addX h1 h2 q2).run pins s2 σ (.ref a) us I2 rfl r2)
end
end Sy
namespace Sy
section
variable {prog : Program} {w : World} {K : Type} [DecidableEq K] {knd : HeapKind prog w K} {A : Around} {E : Value → Shared → Prop} {s : Shared}
theorem eqTT {v : Value} {Q : Bool → Shared → Prop} (e : v = .bool true) (h : Q true s) : wpAny (model prog w) A (eqBool (.bool true) v) Q E s := by
  subst e
  unfold eqBool
  refine wpAny_holding ?_
  rw [if_pos (by rfl)]
  exact wpAny_bind (wpAny_rule (wpAny_pure h))
theorem samePairsH {nm : String} {a b : Addr} {xa xb : List (K × Addr × Value)} {Q : Bool → Shared → Prop} (ha : (a == sysModules) = false) (hb : (b == sysModules) = false) (hu : knd.room A)
    (da : s.heap.DictOfH knd a xa) (db : s.heap.DictOfH knd b xb) (va : ∀ x ∈ xa, x.2.2 = .bool true) (vb : ∀ x ∈ xb, x.2.2 = .bool true)
    (h : ∀ r, (r = true ↔ xa.length = xb.length ∧ ∀ x ∈ xa, x.1 ∈ xb.map (·.1)) → Q r s) :
    wpAny (model prog w) A (Builtin.Dict.samePairs nm a b) Q E s := by
  obtain ⟨oa, es, ep, hoa, _, hda, hka, hia, hna⟩ := da
  obtain ⟨ob, es', ep', hob, _, hdb, hkb, hib, hnb⟩ := db
  have hla : es.size = xa.length := size_of_entries hka
  have hlb : es'.size = xb.length := size_of_entries hkb
  unfold Builtin.Dict.samePairs Builtin.Dict.showsAll
  rw [if_neg (show ¬ (a == sysModules) = true by rw [ha]; exact Bool.false_ne_true), if_neg (show ¬ (b == sysModules) = true by rw [hb]; exact Bool.false_ne_true)]
  refine wpAny_bind (wpAny_pure (wpAny_bind (wpAny_pure ?_)))
  refine wpAny_bind (wpAny_dictEntries hoa hda ?_)
  dsimp only
  refine wpAny_bind (wpAny_dictEntries hob hdb ?_)
  by_cases hsz : es.size = es'.size
  case neg =>
    rw [if_pos (by simpa using hsz)]
    exact wpAny_bind (wpAny_rule (wpAny_pure (h false ⟨(fun z => nomatch z), fun z => absurd (by rw [hla, hlb]; exact z.1) hsz⟩)))
  case pos =>
    have h' : ∀ r, (r = true ↔ ∀ x ∈ xa, x.1 ∈ xb.map (·.1)) → Q r s := fun r hr => h r (hr.trans ⟨fun z => ⟨by rw [← hla, ← hlb]; exact hsz, z⟩, fun z => z.2⟩)
    rw [if_neg (by rw [hsz]; simp)]
    refine wpAny_bind (wpAny_dictEpoch hoa hda ?_)
    refine wpAny_bind ?_
    rw [Std.Legacy.Range.forIn_eq_forIn_range']
    simp only [Std.Legacy.Range.size, Nat.sub_zero, Nat.add_sub_cancel, Nat.div_one]
    refine wpAny_forIn_list _
      (fun rest q s' => s' = s ∧ q = (none, ()) ∧ ∃ i, rest = List.range' i (es.size - i) ∧ i ≤ es.size ∧ ∀ x ∈ xa.take i, x.1 ∈ xb.map (·.1))
      _ ?_ ?_ _ _ ⟨rfl, rfl, 0, by simp, Nat.zero_le _, by simp⟩
    · rintro x rest q s' ⟨rfl, rfl, i, hr, hi, hpre⟩
      have hlt : i < es.size := by
        rcases Nat.lt_or_ge i es.size with h | h
        · exact h
        · rw [Nat.sub_eq_zero_of_le h] at hr; simp at hr
      obtain ⟨rfl, hrest⟩ : x = i ∧ rest = List.range' (i + 1) (es.size - (i + 1)) := by
        have e : es.size - i = (es.size - (i + 1)) + 1 := by omega
        rw [e, List.range'_succ] at hr
        injection hr with h1 h2
        exact ⟨h1, h2⟩
      refine wpAny_bind (wpAny_dictEntries hoa hda ?_)
      have hlx : x < xa.length := by omega
      have hxa : xa[x]? = some xa[x] := List.getElem?_eq_getElem hlx
      have hex : es[x]? = some (entryOfKey knd xa[x]) := by rw [entry_at hka x, hxa]; rfl
      rw [hex]
      obtain ⟨k, c, v, hkv⟩ : ∃ k c v, xa[x] = (k, c, v) := ⟨_, _, _, rfl⟩
      rw [hkv]
      have hmem : (k, c, v) ∈ xa := by rw [← hkv]; exact List.getElem_mem hlx
      have ev : v = .bool true := va _ hmem
      subst ev
      show wpAny _ _ (holding [Value.ref c, Value.bool true] _ >>= _) _ _ _
      refine wpAny_bind (wpAny_holding (wpAny_bind (wpAny_dictFind_heap (k := k) hu (hia _ hmem) hob hdb hkb hib hnb (fun hno => ?_) fun j p hj => ?_)))
      · have hn : k ∉ xb.map (·.1) := not_mem_keys_of_get hno
        refine wpAny_pure ?_
        show wpAny _ _ (if (!false) = true then _ else _) _ _ _
        rw [if_pos (by decide)]
        exact wpAny_pure (wpAny_pure (h' false ⟨(fun z => nomatch z), fun z => absurd (z _ hmem) hn⟩))
      · have hk : k ∈ xb.map (·.1) := List.mem_map.mpr ⟨(k, p), List.mem_of_getElem? hj, rfl⟩
        refine wpAny_bind (wpAny_dictEntries hob hdb ?_)
        have hej : es'[j]? = some (entryOfKey knd (k, p)) := by rw [entry_at hkb j, hj]; rfl
        rw [hej]
        have ep2 : p.2 = .bool true := vb _ (List.mem_of_getElem? hj)
        refine wpAny_holding (eqTT ?_ ?_)
        · show (entryOfKey knd (k, p)).val = .bool true
          exact ep2
        show wpAny _ _ (if (!true) = true then _ else _) _ _ _
        rw [if_neg (by decide)]
        refine wpAny_bind (wpAny_dictEpoch hoa hda ?_)
        rw [if_neg (by simp)]
        refine wpAny_pure ⟨rfl, rfl, x + 1, hrest, hlt, fun y hy => ?_⟩
        rw [List.take_add_one, hxa, hkv] at hy
        rcases List.mem_append.mp hy with hy | hy
        · exact hpre y hy
        · have : y = (k, c, .bool true) := by simpa using hy
          rw [this]; exact hk
    · rintro q s' ⟨rfl, rfl, i, hr, hi, hpre⟩
      have hin : i = es.size := by
        rcases Nat.lt_or_ge i es.size with h | h
        · have e : es.size - i = (es.size - (i + 1)) + 1 := by omega
          rw [e, List.range'_succ] at hr; exact nomatch hr
        · exact Nat.le_antisymm hi h
      refine wpAny_pure ?_
      rw [hin, hla, List.take_length] at hpre
      exact h' true ⟨fun _ => hpre, fun _ => rfl⟩
/-- a == b of dicts with heap keys, all values True -/
theorem eq_dictsH {a b : Addr} {xa xb : List (K × Addr × Value)} {Q : Value → Shared → Prop} (ha : (a == sysModules) = false) (hb : (b == sysModules) = false) (hr : ∀ B : Around, B.units ≤ A.units + 1 → knd.room B) (hu : A.units < cLine)
    (da : s.heap.DictOfH knd a xa) (db : s.heap.DictOfH knd b xb) (va : ∀ x ∈ xa, x.2.2 = .bool true) (vb : ∀ x ∈ xb, x.2.2 = .bool true)
    (h : ∀ r, (r = true ↔ xa.length = xb.length ∧ ∀ x ∈ xa, x.1 ∈ xb.map (·.1)) → Q (.bool r) s) : wpAny (model prog w) A (compareOp .Eq (.ref a) (.ref b)) Q E s := by
  refine wpAny_richCompare_same_room (op := .Eq) da.typeIs db.typeIs PySem.F.slot_dict_eq (wpAny_call_entry PySem.F.slot_dict_eq da.typeIs PySem.F.entry_dict_eq ?_ (PySem.F.args_dict_eq_2 _ _)) hu
  show wpAny _ _ (Builtin.Dict.dictSlotArgs "__eq__" ⟨[.ref a, .ref b], []⟩ >>= _) _ _ s
  refine wpAny_bind ?_
  unfold Builtin.Dict.dictSlotArgs
  refine wpAny_bind (wpAny_notOrdered_dict da.typeIs ?_)
  show wpAny _ _ (pure (Value.ref a, Value.ref b)) _ _ s
  refine wpAny_pure ?_
  refine wpAny_bind (wpAny_isInstance (T := "dict") db.typeIs PySem.F.sub_dict_dict ?_)
  simp only [Bool.not_true, Bool.false_eq_true, if_false]
  refine wpAny_bind (wpAny_pure (wpAny_bind (wpAny_pure ?_)))
  refine wpAny_bind (samePairsH ha hb (hr _ (by first | (simp only [Around.in1]; omega) | exact Nat.le_refl _)) da db va vb fun r hr => ?_)
  refine wpAny_pure ⟨_, rfl, ?_, ?_⟩
  · exact fun x => nomatch x
  · simpa using h r hr
end
end Sy
namespace Sy
/-! ### dicts of rows -/
theorem rowK_inj {r r' : List Int} (h : rowK r = rowK r') : r = r' := by
  unfold rowK at h
  induction r generalizing r' with
  | nil => cases r' with
    | nil => rfl
    | cons => simp at h
  | cons x r ih => cases r' with
    | nil => simp at h
    | cons y r' => simp at h; rw [h.1, ih h.2]
def RDk (rs : List (List Int)) : List (List L2.Key × V) := rs.map fun r => (rowK r, V.bl true)
def addR (rs : List (List Int)) (r : List Int) : List (List Int) := if r ∈ rs then rs else rs ++ [r]
theorem mem_addR {rs : List (List Int)} {r x : List Int} : x ∈ addR rs r ↔ x ∈ rs ∨ x = r := by
  unfold addR; split
  · exact ⟨.inl, fun h => h.elim id fun e => by rw [e]; assumption⟩
  · simp
theorem addR_nd {rs : List (List Int)} {r : List Int} (h : rs.Nodup) : (addR rs r).Nodup := by
  unfold addR; split
  · exact h
  · rename_i hn
    rw [List.nodup_append]
    exact ⟨h, by simp, fun a ha b hb => by rw [List.mem_singleton.mp hb]; rintro rfl; exact hn ha⟩
theorem RDk_len (rs : List (List Int)) : (RDk rs).length = rs.length := by unfold RDk; rw [List.length_map]
theorem valV_RD {rs : List (List Int)} {r : List Int} : valV (RDk rs) (rowK r) = if r ∈ rs then some (.bl true) else none := by
  induction rs with
  | nil => rfl
  | cons x rs ih =>
    show valV ((rowK x, V.bl true) :: RDk rs) (rowK r) = _
    by_cases e : x = r
    · rw [valV_pos (by rw [e]), e]; simp
    · have : valV ((rowK x, V.bl true) :: RDk rs) (rowK r) = valV (RDk rs) (rowK r) := by
        unfold valV
        rw [List.find?_cons]
        have : decide (rowK x = rowK r) = false := decide_eq_false fun h => e (rowK_inj h)
        simp only [this]
      rw [this, ih]
      have e' : ¬ r = x := fun z => e z.symm
      simp [e']
theorem putK_RD {rs : List (List Int)} {r : List Int} : putK (RDk rs) (rowK r) (.bl true) = RDk (addR rs r) := by
  have hany : ((RDk rs).any fun kv => decide (kv.1 = rowK r)) = decide (r ∈ rs) := by
    unfold RDk
    rw [List.any_map]
    induction rs with
    | nil => rfl
    | cons x rs ih =>
      rw [List.any_cons, ih]
      by_cases e : x = r
      · subst e; simp
      · have : ¬ rowK x = rowK r := fun h => e (rowK_inj h)
        have e' : ¬ r = x := fun z => e z.symm
        simp [Function.comp, this, e']
  unfold putK addR
  rw [hany]
  by_cases h : r ∈ rs
  · rw [if_pos (decide_eq_true h), if_pos h]
    unfold RDk
    rw [List.map_map]
    refine List.map_congr_left fun x _ => ?_
    simp only [Function.comp]
    split <;> rfl
  · rw [if_neg (by simp [h]), if_neg h]
    unfold RDk
    rw [List.map_append]; rfl
theorem RDk_keys (rs : List (List Int)) : (RDk rs).map (·.1) = rs.map rowK := by unfold RDk; rw [List.map_map]; rfl
section
variable {X : Cx} {pins : List (Addr × Obj)} {σ : L2.St} {H : Hp} {s : Shared} {Q : VK} {a b : Addr}
theorem dget_row {rs : List (List Int)} {r : List Int} {v : V} (ha : H a = some (.dT (RDk rs))) (hv : RowAt X.K H r v) : DGet H a v (if r ∈ rs then some (.bl true) else none) := by
  obtain ⟨b, rfl, hb⟩ := hv
  rw [← valV_RD]
  exact DGet.t ha (by rw [rowK_v]; exact hb)
theorem dput_row {rs : List (List Int)} {r : List Int} {v : V} (ha : H a = some (.dT (RDk rs))) (hv : RowAt X.K H r v) (hz : rs.length ≤ 10000) : DPut H a v (.bl true) (upd H a (.dT (RDk (addR rs r)))) := by
  obtain ⟨b, rfl, hb⟩ := hv
  rw [← putK_RD]
  exact DPut.t ha (by rw [rowK_v]; exact hb) (by rw [RDk_len, sizeLine_eq]; omega)
theorem kt_facts {rs : List (List Int)} {xs : List (List L2.Key × Addr × Value)} (h : KT H (RDk rs) xs) : xs.map (·.1) = rs.map rowK ∧ ∀ x ∈ xs, x.2.2 = .bool true := by
  have : ∀ {l : List (List L2.Key × V)} {xs : List (List L2.Key × Addr × Value)}, KT H l xs → (∀ p ∈ l, p.2 = .bl true) → xs.map (·.1) = l.map (·.1) ∧ ∀ x ∈ xs, x.2.2 = .bool true := by
    intro l xs h
    induction h with
    | nil => exact fun _ => ⟨rfl, by simp⟩
    | @cons p q ps qs hq t ih =>
      intro hp
      obtain ⟨h1, h2⟩ := ih fun p hm => hp p (by simp [hm])
      refine ⟨by rw [List.map_cons, List.map_cons, h1, hq.1], fun x hx => ?_⟩
      rcases List.mem_cons.mp hx with rfl | hx
      · have := hq.2.2
        rw [hp p (by simp)] at this
        exact this
      · exact h2 x hx
  obtain ⟨h1, h2⟩ := this h (fun p hp => by
    unfold RDk at hp
    obtain ⟨r, _, rfl⟩ := List.mem_map.mp hp
    rfl)
  exact ⟨by rw [h1, RDk_keys], h2⟩
theorem oo_eqRD {k : Nat} {ra rb : List (List Int)} (hr : Room k X.A) (ha : H a = some (.dT (RDk ra))) (hb : H b = some (.dT (RDk rb))) (q : ∀ r, (r = true ↔ ra.length = rb.length ∧ ∀ x ∈ ra, x ∈ rb) → Q (.bl r) H) : CO X .Eq (.ref a) (.ref b) H Q := by
  refine ⟨⟨fun pins s σ v u I r1 r2 => ?_⟩⟩
  cases r1; cases r2
  obtain ⟨_, ya, xa, ka, da⟩ := dt_of I.hok ha
  obtain ⟨_, yb, xb, kb, db⟩ := dt_of I.hok hb
  obtain ⟨a1, a2⟩ := kt_facts ka
  obtain ⟨b1, b2⟩ := kt_facts kb
  have hu := hr.units
  refine eq_dictsH (knd := tupleKind (mixKind X.prog X.w)) ya yb (fun B hB => show B.units < cLine by omega) hr.units0 da db a2 b2 fun r hr' => ⟨.bl r, H, I, rfl, q r (hr'.trans ?_)⟩
  have la : xa.length = ra.length := by have := congrArg List.length a1; simpa using this
  have lb : xb.length = rb.length := by have := congrArg List.length b1; simpa using this
  rw [la, lb, b1]
  refine and_congr_right fun _ => ?_
  constructor
  · intro h x hx
    have hm : rowK x ∈ xa.map (·.1) := by rw [a1]; exact List.mem_map.mpr ⟨x, hx, rfl⟩
    obtain ⟨y, hy, e⟩ := List.mem_map.mp hm
    obtain ⟨z, hz, e2⟩ := List.mem_map.mp (h y hy)
    rw [← rowK_inj (e2.trans e)]; exact hz
  · intro h y hy
    have hm : y.1 ∈ xa.map (·.1) := List.mem_map.mpr ⟨y, hy, rfl⟩
    rw [a1] at hm
    obtain ⟨x, hx, e⟩ := List.mem_map.mp hm
    rw [← e]
    exact List.mem_map.mpr ⟨x, h x hx, rfl⟩
end
/-! ### a dict with keys of keys -/
def nkr (r : List Int) : NestedKey := .tup (r.map .num)
def nk (rs : List (List Int)) : NestedKey := .tup (rs.map nkr)
theorem num_map_inj : ∀ {a b : List Int}, a.map NestedKey.num = b.map NestedKey.num → a = b
  | [], [], _ => rfl
  | [], _ :: _, h => by simp at h
  | _ :: _, [], h => by simp at h
  | x :: a, y :: b, h => by
    simp only [List.map_cons, List.cons.injEq, NestedKey.num.injEq] at h
    rw [h.1, num_map_inj h.2]
theorem nkr_inj {a b : List Int} (h : nkr a = nkr b) : a = b := num_map_inj (by unfold nkr at h; injection h)
theorem nk_inj {a b : List (List Int)} (h : nk a = nk b) : a = b := by
  unfold nk at h
  injection h with h
  induction a generalizing b with
  | nil => cases b with
    | nil => rfl
    | cons => simp at h
  | cons x a ih => cases b with
    | nil => simp at h
    | cons y b =>
      simp only [List.map_cons, List.cons.injEq] at h
      rw [nkr_inj h.1, ih h.2]
theorem nkr_depth (r : List Int) : (nkr r).depth ≤ 1 := by
  have : ∀ r : List Int, NestedKey.depthAll (r.map .num) = 0 := by
    intro r
    induction r with
    | nil => rfl
    | cons x r ih => show max 0 (NestedKey.depthAll (r.map .num)) = 0; rw [ih]; rfl
  show NestedKey.depthAll (r.map .num) + 1 ≤ 1
  rw [this]; omega
theorem nk_depth (rs : List (List Int)) : (nk rs).depth ≤ 8 := by
  have : ∀ rs : List (List Int), NestedKey.depthAll (rs.map nkr) ≤ 1 := by
    intro rs
    induction rs with
    | nil => exact Nat.zero_le _
    | cons x r ih => show max (nkr x).depth (NestedKey.depthAll (r.map nkr)) ≤ 1; have := nkr_depth x; omega
  show NestedKey.depthAll (rs.map nkr) + 1 ≤ 8
  have := this rs; omega
/-- the rows as one tuple -/
def KeyAt (K : PySem.W.Frag) (H : Hp) (rs : List (List Int)) (a : Addr) : Prop := ∃ us, H a = some (.tup us) ∧ RowsAt K H rs us
theorem KeyAt.mono {K : PySem.W.Frag} {H H' : Hp} {rs : List (List Int)} {a : Addr} (e : TEx H H') (h : KeyAt K H rs a) : KeyAt K H' rs a := let ⟨us, h1, h2⟩ := h; ⟨us, e.1 _ _ h1, h2.mono e⟩
abbrev SeenL := List (List (List Int) × Addr)
def SeenR (P : Program) (w : World) (h : Heap) (d : Addr) (L : SeenL) : Prop := (d == sysModules) = false ∧ ∃ o es ep, h.get? d = some o ∧ o.ExactDict ∧ o.data = .dict es ep ∧ es.toList = L.map (fun p => entryOfKey (nestedKind P w) (nk p.1, p.2, .bool true)) ∧ (L.map (·.1)).Nodup
def SeenO (P : Program) (w : World) (d : Addr) (L : SeenL) : HO := .ext fun h => SeenR P w h d L
def addS (L : SeenL) (rs : List (List Int)) (a : Addr) : SeenL := if rs ∈ L.map (·.1) then L else L ++ [(rs, a)]
section
variable {P : Program} {w : World}
theorem SeenR.at {h h' : Heap} {d : Addr} {L : SeenL} (R : SeenR P w h d L) (k : ∀ o, h.get? d = some o → h'.get? d = some o) : SeenR P w h' d L := by
  obtain ⟨h0, o, es, ep, ho, r⟩ := R
  exact ⟨h0, o, es, ep, k o ho, r⟩
theorem seen_new {H : Hp} {h : Heap} {d : Addr} {L : SeenL} (R : SeenR P w h d L) : ObjOk P w H h d (SeenO P w d L) := by
  have ⟨_, o, _, _, ho, _⟩ := R
  exact ⟨R, ⟨o, ho⟩, fun h1 h2 p k => p.at k⟩
end
section
variable {X : Cx} {pins : List (Addr × Obj)} {σ : L2.St} {H : Hp} {s : Shared} {Q : VK} {a d : Addr}
theorem nested_nums {h : Heap} : ∀ {r : List Int} {us : List Value}, Vals (r.map V.int) us → NestedAll h (r.map .num) us
  | [], _, .nil => .nil
  | n :: r, _, .cons hq t => by
    obtain ⟨tk, rfl⟩ := hq
    exact .cons (.int n tk) (nested_nums t)
theorem nested_row (I : Inv X pins σ H s) {r : List Int} {v : V} {u : Value} (h : RowAt X.K H r v) (hu : RelV v u) : NestedIs s.heap (nkr r) u := by
  obtain ⟨b, rfl, hb⟩ := h
  cases hu
  obtain ⟨_, its, hv, o, ho, hc, n, hd⟩ := (show ObjOk X.prog X.w H s.heap b (.tup (r.map V.int)) from I.hok b _ hb)
  exact .tup ho hc hd (by simpa using nested_nums hv)
theorem nested_rows (I : Inv X pins σ H s) : ∀ {rs : List (List Int)} {us : List V} {vs : List Value}, RowsAt X.K H rs us → Vals us vs → NestedAll s.heap (rs.map nkr) vs
  | [], us, vs, h, hv => by
    have : us = [] := List.length_eq_zero_iff.mp h.1
    subst this
    cases hv
    exact .nil
  | r :: rs, us, vs, h, hv => by
    cases hv with
    | nil => have := h.1; simp at this
    | @cons x y xs ys h1 h2 =>
      obtain ⟨r', e1, h3⟩ := h.2 0 x rfl
      have e2 : r = r' := Option.some.inj e1
      subst e2
      exact .cons (nested_row I h3 h1) (nested_rows I ⟨by have := h.1; simpa using this, fun i v hv => h.2 (i + 1) v hv⟩ h2)
theorem nested_key (I : Inv X pins σ H s) {rs : List (List Int)} (h : KeyAt X.K H rs a) : (nestedKind X.prog X.w).is s.heap (nk rs) a := by
  obtain ⟨us, ha, hR⟩ := h
  obtain ⟨_, its, hv, o, ho, hc, n, hd⟩ := (show ObjOk X.prog X.w H s.heap a (.tup us) from I.hok a _ ha)
  exact ⟨.tup ho hc hd (by simpa using nested_rows I hR hv), nk_depth rs⟩
theorem seen_dict (I : Inv X pins σ H s) {L : SeenL} (hd : H d = some (SeenO X.prog X.w d L)) (hL : ∀ p ∈ L, KeyAt X.K H p.1 p.2) : (d == sysModules) = false ∧ s.heap.DictOfH (nestedKind X.prog X.w) d (L.map fun p => (nk p.1, p.2, .bool true)) := by
  obtain ⟨h0, o, es, ep, ho, hx, hdt, he, hn⟩ := (show ObjOk X.prog X.w H s.heap d (SeenO X.prog X.w d L) from I.hok d _ hd).1
  refine ⟨h0, o, es, ep, ho, hx, hdt, by rw [he, List.map_map]; rfl, fun x hx => ?_, ?_⟩
  · obtain ⟨p, hp, rfl⟩ := List.mem_map.mp hx
    exact nested_key I (hL p hp)
  · rw [List.map_map]
    have : (L.map fun p => nk p.1) = (L.map (·.1)).map nk := by rw [List.map_map]; rfl
    show (L.map fun p => nk p.1).Nodup
    rw [this]
    unfold List.Nodup
    rw [List.pairwise_map]
    exact hn.imp fun h e => h (nk_inj e)
theorem atKey_seen {L : SeenL} {rs : List (List Int)} : (atKey (L.map fun p => (nk p.1, p.2, Value.bool true)) (nk rs)).isSome = decide (rs ∈ L.map (·.1)) := by
  unfold atKey
  induction L with
  | nil => rfl
  | cons p L ih =>
    rw [List.map_cons, List.find?_cons]
    by_cases e : p.1 = rs
    · simp [e]
    · have h1 : decide (nk p.1 = nk rs) = false := decide_eq_false fun h => e (nk_inj h)
      have e' : ¬ rs = p.1 := fun z => e z.symm
      simp only [h1, ih, List.map_cons, List.mem_cons]
      simp [e']
theorem oo_inSeen {k : Nat} {L : SeenL} {rs : List (List Int)} (hr : Room k X.A) (hd : H d = some (SeenO X.prog X.w d L)) (hL : ∀ p ∈ L, KeyAt X.K H p.1 p.2) (ha : KeyAt X.K H rs a) (q : Q (.bl (decide (rs ∈ L.map (·.1)))) H) : CO X .In (.ref a) (.ref d) H Q := by
  refine ⟨⟨fun pins s σ v u I r1 r2 => ?_⟩⟩
  cases r1; cases r2
  obtain ⟨h0, hm⟩ := seen_dict I hd hL
  have hu := hr.units
  refine wpAny_in_heap (knd := nestedKind X.prog X.w) (by show X.A.in1.units + 8 < cLine; simp only [Around.in1]; omega) (nested_key I ha) h0 hm ?_
  rw [atKey_seen]
  exact ⟨.bl _, H, I.tok _, rfl, q⟩
theorem pst_seen {k : Nat} {L : SeenL} {rs : List (List Int)} {R : Hp → Prop} (hr : Room k X.A) (hd : H d = some (SeenO X.prog X.w d L)) (hL : ∀ p ∈ L, KeyAt X.K H p.1 p.2) (ha : KeyAt X.K H rs a) (hz : L.length ≤ 100000) (q : R (upd H d (SeenO X.prog X.w d (addS L rs a)))) : PSt X (.ref d) (.ref a) (.bl true) H R := by
  refine ⟨fun pins s σ ov iv u I r1 r2 r3 => ?_⟩
  cases r1; cases r2; cases r3
  obtain ⟨h0, hm⟩ := seen_dict I hd hL
  have hu := hr.units
  refine wpAny_setItem_heap (knd := nestedKind X.prog X.w) (hsz := by rw [List.length_map, sizeLine_eq]; omega) (by show X.A.in1.units + 8 < cLine; simp only [Around.in1]; omega) (nested_key I ha) hm fun h' hm' hs => ?_
  obtain ⟨o, es, ep, ho, hx, hdt, he, _, hn⟩ := hm'
  have eL : storedH (L.map fun p => (nk p.1, p.2, Value.bool true)) (nk rs) a (.bool true) = (addS L rs a).map fun p => (nk p.1, p.2, Value.bool true) := by
    unfold storedH addS
    rw [atKey_seen]
    by_cases hm : rs ∈ L.map (·.1)
    · rw [if_pos (decide_eq_true hm), if_pos hm, List.map_map]
      refine List.map_congr_left fun p _ => ?_
      simp only [Function.comp, putAt]
      split <;> rfl
    · rw [if_neg (by simp [hm]), if_neg hm, List.map_append]; rfl
  rw [eL] at he
  have hnd : ((addS L rs a).map (·.1)).Nodup := by
    obtain ⟨_, _, _, _, _, _, _, _, hn0⟩ := (show ObjOk X.prog X.w H s.heap d (SeenO X.prog X.w d L) from I.hok d _ hd).1
    unfold addS
    split
    · exact hn0
    · rename_i hnm
      rw [List.map_append, List.nodup_append]
      refine ⟨hn0, by simp, fun x hx y hy => ?_⟩
      rw [show y = rs by simpa using hy]
      rintro rfl; exact hnm hx
  have new : SeenR X.prog X.w h' d (addS L rs a) := ⟨h0, o, es, ep, ho, hx, hdt, by rw [he, List.map_map]; rfl, hnd⟩
  exact ⟨_, d_write I (by rw [hd]; trivial) hs ⟨o, ho⟩ (seen_new new), q⟩
theorem ee_newSeen {pos : Pos} (q : ∀ p, H p = none → Q (.ref p) (upd H p (SeenO X.prog X.w p []))) : EE X (.Dict [] [] pos) σ H Q := by
  refine ⟨fun pins s I => ?_⟩
  have hd : (s.heap.objs.size == sysModules) = false := beq_eq_false_iff_ne.mpr (Nat.ne_of_gt I.big)
  refine wpAny_Dict_empty ⟨.ref s.heap.objs.size, _, I.laid (a := s.heap.objs.size) (o := SeenO X.prog X.w s.heap.objs.size []) (t' := s.toks) (fun _ _ q => Heap.get?_push_of_some _ q) (Nat.le_refl _) (seen_new ⟨hd, _, #[], 0, Heap.get?_push_size _ rfl, ⟨rfl, rfl, rfl⟩, rfl, rfl, List.nodup_nil⟩), rfl, q _ (I.hok.fresh (Nat.le_refl _))⟩
end
end Sy
namespace Sy
/-- a tuple and a list side by side, the items in new pairs -/
def ItM (K : PySem.W.Frag) (a b : Addr) : It :=
  ⟨fun i H => ∃ (xs ys : List V) (x y : V), SqT K H a xs ∧ SqL K H b ys ∧ xs[i]? = some x ∧ ys[i]? = some y,
    fun i H v H' => ∃ T x y, v = .ref T ∧ H T = none ∧ H' = upd H T (.tup [x, y]) ∧ (∀ xs, SqT K H a xs → xs[i]? = some x) ∧ ∀ ys, SqL K H b ys → ys[i]? = some y,
    fun i H => ∃ xs ys : List V, SqT K H a xs ∧ SqL K H b ys ∧ i ≤ xs.length ∧ i ≤ ys.length ∧ (i = xs.length ∨ i = ys.length)⟩
theorem adn {a b : Nat} (h : a ≠ b) : @Ne Addr a b := h
theorem ad2 {x y z : Nat} (h1 : x ≠ y) (h2 : x ≠ z) : (x : Addr) ∉ ([y, z] : List Addr) := fun h => by
  rcases List.mem_cons.mp h with h | h
  · exact h1 h
  · exact h2 (List.mem_singleton.mp h)
theorem sep_of {n a b : Nat} (ha : a < n) (hb : b < n) : ZipSep2 (n + 4) (n + 2) (n + 3) n (n + 1) [n, a] [n + 1, b] where
  TIz := adn (by omega)
  TOz := adn (by omega)
  TITO := adn (by omega)
  TIi1 := adn (by omega)
  mem1 := by simp
  zf1 := ad2 (by omega) (by omega)
  Tf1 := ad2 (by omega) (by omega)
  TIi2 := adn (by omega)
  mem2 := by simp
  zf2 := ad2 (by omega) (by omega)
  Tf2 := ad2 (by omega) (by omega)
  sep1_2 := ad2 (by omega) (by omega)
  sep2_1 := ad2 (by omega) (by omega)
theorem turn_zipM {P : Program} {w : World} {K : PySem.W.Frag} {elts : List Expr} {kk : Nat} {tpos : Pos} {a b n : Nat} (ha : a < n) (hb : b < n) :
    Turn P w K (.Tuple elts kk tpos) (ItM K a b) [n + 4, n + 2, n + 3, n, n + 1] (n + 4) (fun i h => IsZip h (n + 4) (n + 2) (n + 3) .none ∧ IsPair h (n + 2) (.ref n) (.ref (n + 1)) ∧ (∃ x y, IsPair h (n + 3) x y) ∧ h.IsTupleIter n a i ∧ h.IsListIter (n + 1) b i) where
  mem := by simp
  obj := fun i h st c hc => by
    obtain ⟨hz, hTI, ⟨x, y, hTO⟩, ⟨o1, e1, _, d1⟩, ⟨o2, e2, _, d2⟩⟩ := st
    have e' : c = n + 4 ∨ c = n + 2 ∨ c = n + 3 ∨ c = n ∨ c = n + 1 := by simpa using hc
    rcases e' with q | q | q | q | q
    · rw [q]; exact ⟨_, hz, fun v q => nomatch q⟩
    · rw [q]; exact ⟨_, hTI, fun v q => nomatch q⟩
    · rw [q]; exact ⟨_, hTO, fun v q => nomatch q⟩
    · rw [q]; exact ⟨o1, e1, fun v q => by rw [d1] at q; cases q⟩
    · rw [q]; exact ⟨o2, e2, fun v q => by rw [d2] at q; cases q⟩
  keep := fun i h h' st k => by
    obtain ⟨hz, hTI, ⟨x, y, hTO⟩, h1, h2⟩ := st
    exact ⟨k (n + 4) (by simp) _ hz, k (n + 2) (by simp) _ hTI, ⟨x, y, k (n + 3) (by simp) _ hTO⟩, h1.at fun o q => k n (by simp) o q, h2.at fun o q => k (n + 1) (by simp) o q⟩
  item := by
    intro X hP hw hK hc i pins s σ H E I hf st hg
    subst hP hw hK
    obtain ⟨hz, hTI, ⟨x0, y0, hTO⟩, h1, h2⟩ := st
    obtain ⟨xs, ys, x, y, hqx, hqy, hx, hy⟩ := hg
    obtain ⟨its, rv, p, _⟩ := I.tuple hqx
    obtain ⟨its2, rv2, p2, _⟩ := I.list hqy
    obtain ⟨u, hu, ru⟩ := rv.get hx
    obtain ⟨u2, hu2, ru2⟩ := rv2.get hy
    have hh : X.A.in1.handled = none := by simp [I.ok.hd hc]
    have hzl : n + 4 < s.heap.objs.size := Heap.lt_size hz
    have p' : s.heap.IsTuple a its.toArray := p
    refine wpAny_pyNext_zipD2_item (sep_of ha hb) (Draws.tuple hh n a (adn (by omega)) its.toArray) (Draws.list hh (n + 1) b (adn (by omega)) its2.toArray) hz hTI hTO ⟨h1, p'⟩ ⟨h2, p2.isList⟩
      (by rw [List.size_toArray]; exact (List.getElem?_eq_some_iff.mp hu).1) (by rw [List.size_toArray]; exact (List.getElem?_eq_some_iff.mp hu2).1) fun x1 x2 h' tk q1 q2 z' TO' st1 st2 hT hsz hk => ?_
    have ex1 : u = x1 := by
      have := q1; rw [List.getElem?_toArray, hu] at this; exact Option.some.inj this
    have ex2 : u2 = x2 := by
      have := q2; rw [List.getElem?_toArray, hu2] at this; exact Option.some.inj this
    subst ex1; subst ex2
    refine ⟨_, rfl, wpAny_letOwnedTupleGo_zip (s := { s with heap := h', toks := tk }) z' fun h'' z'' sb => ?_⟩
    have hT2 : h''.get? s.heap.objs.size = some { cls := .type "tuple", data := .seq #[u, u2] } := (sb.2 _ (Nat.ne_of_gt hzl)).trans hT
    have new : ObjOk X.prog X.w (upd H s.heap.objs.size (.tup [x, y])) h'' s.heap.objs.size (.tup [x, y]) :=
      ⟨by show 2 ≤ sizeLine; decide, [u, u2], .cons ru (.cons ru2 .nil), ⟨_, hT2, rfl, _, rfl⟩⟩
    have I1 : Inv X pins σ (upd H s.heap.objs.size (.tup [x, y])) { s with heap := h'', toks := tk } :=
      I.turnedNew (t' := tk) (ch := [n + 4, n + 2, n + 3, n, n + 1]) (fun c o hb q => (sb.2 c (fun q' => hb (by simp [q']))).trans (hk c o (fun q' => hb (by simp [q'])) (fun q' => hb (by simp [q'])) (fun q' => hb (by simp [q'])) (fun q' => hb (by simp [q'])) q)) hf (Nat.le_refl _) new
    refine ⟨.ref s.heap.objs.size, _, I1, rfl, ⟨_, x, y, rfl, I.hok.fresh (Nat.le_refl _), rfl, fun l hl => by rw [I.tuple_inj hl hqx]; exact hx, fun l hl => by rw [I.list_inj hl hqy]; exact hy⟩, ⟨z'', ?_, ⟨u, u2, ?_⟩, ?_, ?_⟩, fun c hcm => ?_⟩
    · exact (sb.2 _ (adn (by omega))).trans (hk _ _ (adn (by omega)) (adn (by omega)) (adn (by omega)) (adn (by omega)) hTI)
    · exact (sb.2 _ (adn (by omega))).trans TO'
    · exact st1.1.at fun o q => (sb.2 _ (adn (by omega))).trans q
    · exact st2.1.at fun o q => (sb.2 _ (adn (by omega))).trans q
    · have hlt : c < s.heap.objs.size := by
        have e' : c = n + 4 ∨ c = n + 2 ∨ c = n + 3 ∨ c = n ∨ c = n + 1 := by simpa using hcm
        rcases e' with q | q | q | q | q
        · rw [q]; exact hzl
        · rw [q]; exact Heap.lt_size hTI
        · rw [q]; exact Heap.lt_size hTO
        · rw [q]; obtain ⟨_, e1, _⟩ := h1; exact Heap.lt_size e1
        · rw [q]; obtain ⟨_, e2, _⟩ := h2; exact Heap.lt_size e2
      rw [upd_ne (Nat.ne_of_lt hlt)]
      exact (hf c hcm).1
  done := by
    intro X hP hw hK hc i pins s σ H E I hf st hg
    subst hP hw hK
    obtain ⟨hz, hTI, ⟨x0, y0, hTO⟩, h1, h2⟩ := st
    obtain ⟨xs, ys, hqx, hqy, hl1, hl2, hend⟩ := hg
    obtain ⟨its, rv, p, _⟩ := I.tuple hqx
    obtain ⟨its2, rv2, p2, _⟩ := I.list hqy
    have l1 := rv.length
    have l2 := rv2.length
    have hh : X.A.in1.handled = none := by simp [I.ok.hd hc]
    have p' : s.heap.IsTuple a its.toArray := p
    exact wpAny_pyNext_zipD2_end (sep_of ha hb) (Draws.tuple hh n a (adn (by omega)) its.toArray) (Draws.list hh (n + 1) b (adn (by omega)) its2.toArray) hz hTI hTO ⟨h1, p'⟩ ⟨h2, p2.isList⟩
      (by rw [List.size_toArray]; omega) (by rw [List.size_toArray]; omega) (by rw [List.size_toArray, List.size_toArray]; omega) fun h' tk hk => ⟨rfl, I.turnedL (t' := tk) (ch := [n + 4, n + 2, n + 3, n, n + 1]) (fun c o hb q =>
      hk c o (fun q' => hb (by simp [q'])) (fun q' => hb (by simp [q'])) (fun q' => hb (by simp [q'])) (fun q' => hb (by simp [q'])) q) hf⟩
  self := fun A i s Q E st h => wpAny_pyIter_zip st.1 h
abbrev zM1 (h : Heap) (l1 : Addr) : Heap := h.push { cls := .type "tuple_iterator", data := .fields #[.ref l1, .int 0 0] }
abbrev zM2 (h : Heap) (l1 l2 : Addr) : Heap := (zM1 h l1).push { cls := .type "list_iterator", data := .fields #[.ref l2, .int 0 0] }
abbrev zM3 (h : Heap) (l1 l2 : Addr) : Heap := (zM2 h l1 l2).push { cls := .type "tuple", data := .seq #[.ref h.objs.size, .ref (zM1 h l1).objs.size] }
abbrev zM4 (h : Heap) (l1 l2 : Addr) : Heap := (zM3 h l1 l2).push { cls := .type "tuple", data := .seq #[.none, .none] }
abbrev zM5 (h : Heap) (l1 l2 : Addr) : Heap := (zM4 h l1 l2).push { cls := .type "zip", data := .fields #[.none, .bool false, .bool false, .ref (zM2 h l1 l2).objs.size, .ref (zM3 h l1 l2).objs.size] }
theorem meets_zipM (l1 l2 : Addr) (xs ys : Array Value) :
    Meets (Builtin.«zip.__new__» ⟨[.type "zip", .ref l1, .ref l2], []⟩) (fun _ R s => s.heap.IsTuple l1 xs ∧ s.heap.IsList l2 ys ∧
      R (.ok (.ret (.ref (zM4 s.heap l1 l2).objs.size))) { s with heap := zM5 s.heap l1 l2 }) :=
  .of_wp fun prog w A R s h => by
    obtain ⟨hp, g, d, tk, os⟩ := s; obtain ⟨hl1, hl2, h⟩ := h
    have hsub := sub_zip
    have hL1 : Heap.IsTuple (Shared.heap ⟨hp, g, d, tk, os⟩) l1 xs := hl1
    have hL2 : Heap.IsList (Shared.heap ⟨hp.push { cls := .type "tuple_iterator", data := .fields #[.ref l1, .int 0 0] }, g, d, tk, os⟩) l2 ys := Heap.IsList.push hl2 _
    wp_walk using wpAny_pyIter_tuple hL1, wpAny_pyIter_list hL2
    exact ⟨_, rfl, h⟩
theorem call_zipM {prog : Program} {w : World} {A : Around} {E : Value → Shared → Prop} {s : Shared} {l1 l2 : Addr} {xs ys : Array Value} {Q : Value → Shared → Prop} (hl1 : s.heap.IsTuple l1 xs) (hl2 : s.heap.IsList l2 ys)
    (h : ∀ h', IsZip h' (s.heap.objs.size + 4) (s.heap.objs.size + 2) (s.heap.objs.size + 3) .none → IsPair h' (s.heap.objs.size + 2) (.ref s.heap.objs.size) (.ref (s.heap.objs.size + 1)) →
      IsPair h' (s.heap.objs.size + 3) .none .none → h'.IsTupleIter s.heap.objs.size l1 0 → h'.IsListIter (s.heap.objs.size + 1) l2 0 →
      (∀ c o, s.heap.get? c = some o → h'.get? c = some o) → Q (.ref (s.heap.objs.size + 4)) { s with heap := h' }) :
    wpAny (model prog w) A (call (.type "zip") [.ref l1, .ref l2]) Q E s := by
  refine callType_new PySem.F.called_zip (by decide) (PySem.F.typeCall_zip_2 _ _) (PySem.F.newCall_zip_2 _ _) (fun obj => PySem.F.args_object_init_3 obj _ _) PySem.F.entry_zip_new
    (meets_zipM l1 l2 xs ys) ⟨hl1, hl2, ?_⟩
  have z1 : (zM1 s.heap l1).objs.size = s.heap.objs.size + 1 := Heap.size_push ..
  have z2 : (zM2 s.heap l1 l2).objs.size = s.heap.objs.size + 2 := by rw [Heap.size_push, z1]
  have z3 : (zM3 s.heap l1 l2).objs.size = s.heap.objs.size + 3 := by rw [Heap.size_push, z2]
  have z4 : (zM4 s.heap l1 l2).objs.size = s.heap.objs.size + 4 := by rw [Heap.size_push, z3]
  have g5 : (zM5 s.heap l1 l2).get? (zM4 s.heap l1 l2).objs.size = some _ := Heap.get?_push_size _ rfl
  have g4 : (zM5 s.heap l1 l2).get? (zM3 s.heap l1 l2).objs.size = some _ := Heap.get?_push_of_some _ (Heap.get?_push_size _ rfl)
  have g3 : (zM5 s.heap l1 l2).get? (zM2 s.heap l1 l2).objs.size = some _ := Heap.get?_push_of_some _ (Heap.get?_push_of_some _ (Heap.get?_push_size _ rfl))
  have g2 : (zM5 s.heap l1 l2).get? (zM1 s.heap l1).objs.size = some _ := Heap.get?_push_of_some _ (Heap.get?_push_of_some _ (Heap.get?_push_of_some _ (Heap.get?_push_size _ rfl)))
  have g1 : (zM5 s.heap l1 l2).get? s.heap.objs.size = some _ := Heap.get?_push_of_some _ (Heap.get?_push_of_some _ (Heap.get?_push_of_some _ (Heap.get?_push_of_some _ (Heap.get?_push_size _ rfl))))
  rw [z2, z3, z4] at g5
  rw [z1, z2] at g3
  rw [z3] at g4
  rw [z1] at g2
  show _ ∧ _
  rw [z4]
  exact ⟨⟨_, g5, rfl⟩, h _ g5 g3 g4 ⟨_, g1, rfl, rfl⟩ ⟨_, g2, rfl, rfl⟩ fun c o x =>
    Heap.get?_push_of_some _ (Heap.get?_push_of_some _ (Heap.get?_push_of_some _ (Heap.get?_push_of_some _ (Heap.get?_push_of_some _ x))))⟩
section
variable {X : Cx} {σ : L2.St} {H : Hp} {e e2 : Expr} {p pos tpos : Pos} {elts : List Expr} {kk : Nat} {R : It → Hp → Prop}
/-- zip of a tuple and a list -/
theorem ii_zipM (hm : X.mg "zip" = none) (h : AA X [e, e2] σ H fun vs H1 => ∃ a b xs ys, vs = [.ref a, .ref b] ∧ SqT X.K H1 a xs ∧ SqL X.K H1 b ys ∧ R (ItM X.K a b) H1)
    (hg : Gl X "zip" := by rfl) (hs : starEach [e, e2] X.env = (false, eval e X.env) :: starEach [e2] X.env := by rfl) (hpl : (backTo pos (starEach [e2] X.env)).any (·.1) = false := by rfl) :
    II X (.Tuple elts kk tpos) (.Call (.Name "zip" p) [e, e2] [] pos) σ H R := by
  refine ⟨fun pins s I => ?_⟩
  refine Call_ (ld_blt I hg hm PyProof.Rows.boot_zip (PyProof.Rows.callWith_type1 (thn (h.run pos pins s I) fun us s1 ⟨vs, H1, I1, r1, a, b, xs, ys, ex, hqx, hqy, q⟩ => ?_) hs hpl))
  subst ex
  cases r1 with
  | cons r rr =>
    cases rr with
    | cons r' rr =>
      cases rr
      cases r
      cases r'
      have fresh5 : ∀ c, c ∈ [s1.heap.objs.size + 4, s1.heap.objs.size + 2, s1.heap.objs.size + 3, s1.heap.objs.size, s1.heap.objs.size + 1] → FpOk X pins H1 c := fun c hcm => by
        have e' : c = s1.heap.objs.size + 4 ∨ c = s1.heap.objs.size + 2 ∨ c = s1.heap.objs.size + 3 ∨ c = s1.heap.objs.size ∨ c = s1.heap.objs.size + 1 := by simpa using hcm
        have hle : s1.heap.objs.size ≤ c := by
          rcases e' with z | z | z | z | z <;> rw [z] <;> first | exact Nat.le_refl _ | exact Nat.le_add_right _ _
        exact I1.fpOk hle (I1.hok.fresh hle)
      obtain ⟨its, rv, p1, _⟩ := I1.tuple hqx
      obtain ⟨its2, rv2, p2, _⟩ := I1.list hqy
      obtain ⟨o1, ho1, _⟩ := id p1
      refine call_zipM (show s1.heap.IsTuple a its.toArray from p1) p2.isList fun h' hz hTI hTO h1 h2 hk => wpAny_pyIter_zip hz ?_
      have I2 : Inv X pins σ H1 { s1 with heap := h' } := I1.kept (t' := s1.toks) hk
      exact ⟨s1.heap.objs.size + 4, [s1.heap.objs.size + 4, s1.heap.objs.size + 2, s1.heap.objs.size + 3, s1.heap.objs.size, s1.heap.objs.size + 1], _, _, H1, rfl, I2, turn_zipM (Heap.lt_size ho1) p2.lt, ⟨hz, hTI, ⟨_, _, hTO⟩, h1, h2⟩, fresh5, q⟩
/-- zip of two tuples -/
theorem ii_zipT (hm : X.mg "zip" = none) (h : AA X [e, e2] σ H fun vs H1 => ∃ a b xs ys, vs = [.ref a, .ref b] ∧ SqT X.K H1 a xs ∧ SqT X.K H1 b ys ∧ R (RZ.ItzT X.K a b) H1)
    (hg : Gl X "zip" := by rfl) (hs : starEach [e, e2] X.env = (false, eval e X.env) :: starEach [e2] X.env := by rfl) (hpl : (backTo pos (starEach [e2] X.env)).any (·.1) = false := by rfl) :
    II X (.Tuple elts kk tpos) (.Call (.Name "zip" p) [e, e2] [] pos) σ H R :=
  ii_of (RZ.pi_zipA (ta := AA X [e, e2]) hg hm AA.pa hs hpl) ⟨fun pos pins s I => thn (h.run pos pins s I) fun us s1 ⟨vs, H1, I1, r1, a, b, xs, ys, ex, hqx, hqy, q⟩ => ⟨vs, H1, I1, r1, a, b, xs, ys, ex, .inr ⟨hqx, hqy, q⟩⟩⟩
end
end Sy
namespace Sy
/-- d[row] = v by a comprehension -/
theorem dictSetT {X : Cx} {pins : List (Addr × Obj)} {σ : L2.St} {H : Hp} {s : Shared} {E : Value → Shared → Prop} {D : Addr} {kvs : List (List L2.Key × V)} {k : List L2.Key} {b : Addr} {v : V} {r : Value} {Q : Unit → Shared → Prop} (hu : X.A.units < cLine) (I : Inv X pins σ H s) (hD : H D = some (.dT kvs)) (hz : kvs.length < sizeLine)
    (hb : H b = some (.tup (k.map kV))) (rv : RelV v r) (h : ∀ s', Inv X pins σ (upd H D (.dT (putK kvs k v))) s' → Q () s') : wpAny (model X.prog X.w) X.A (dictSet D (.ref b) r) Q E s := by
  obtain ⟨z, hd, xs, rel, dd⟩ := dt_of I.hok hD
  have hzx : xs.length ≤ sizeLine := by rw [← Paired.length rel]; exact z
  have hl : (putK kvs k v).length ≤ sizeLine := by have := length_putK kvs k v; omega
  have hk := key_of (P := X.prog) (w := X.w) I.hok hb
  unfold dictSet
  refine wpAny_holding (wpAny_bind ((tupleKind (mixKind X.prog X.w)).pyHash (show X.A.units < cLine from hu) hk ?_))
  refine wpAny_dictSetHashed_heap (s := { s with toks := s.toks + (tupleKind (mixKind X.prog X.w)).draws k }) (hsz := hzx) (show X.A.units < cLine from hu) hk dd fun h' dd' hs => h _ ?_
  obtain ⟨q, es, ep, hq, h2, h3, h4, _, h5⟩ := dd'
  refine d_write (I.tok _) (by rw [hD]; exact True.intro) hs ⟨q, hq⟩ ⟨hl, hd, _, (rel.put k hb rv).keeps fun c ys ec => ?_, q, es, ep, hq, h2, h3, h4, h5⟩
  rw [upd_ne (ne_of ec hD (fun z => nomatch z))]
  exact ec
/-- the turns of a dict of rows made by a comprehension -/
def DTurns (J : It) (g : TG) (tk tv : TE) (vs : List Nat) (σ : L2.St) (D : Addr) (H1 : Hp) (Q : Hp → Prop) : Prop :=
  ∃ W : Nat → Nat → Hp → Prop, (∃ m, W 0 m (upd H1 D (.dT []))) ∧ ∀ i m H, W i m H →
  (J.stop i H ∧ Q H) ∨ (J.go i H ∧ ∃ Nx : Hp → Prop, (∀ H', Nx H' → ∃ m', m' < m ∧ W (i + 1) m' H') ∧ ∀ x H', J.yld i H x H' → g x (wipe σ vs) H' fun σ2 H2 => wipe σ2 vs = wipe σ vs ∧
    tk σ2 H2 fun y H4 => tv σ2 H4 fun z H5 => ∃ b kvs k, y = .ref b ∧ H5 b = some (.tup (k.map kV)) ∧ H5 D = some (.dT kvs) ∧ kvs.length < sizeLine ∧ Nx (upd H5 D (.dT (putK kvs k z))))
section
variable {X : Cx} {σ : L2.St} {H : Hp} {Q : VK} {kx vx tg iter : Expr} {scope : Scope} {pos : Pos}
theorem ee_dcT (own : List (Str × Nat)) (N : List Str) (sc : Scope) (hu : X.A.units < cLine) (hc : X.calm = true) (hN : X.N.Nodup) (h : II X tg iter σ H fun J H1 => ∀ D, H1 D = none → DTurns J (GGb X scope tg) (EEb X scope kx) (EEb X scope vx) (own.map (·.2)) σ D H1 fun H => Q (.ref D) H)
    (okc : blkC N sc scope own = true := by decide +kernel) (e1 : X.N = N := by rfl) (e2 : X.env.scope = sc := by rfl) (hs : ∀ x, foldedSetIterable iter X.env x = pure x := by intro _; rfl) : EE X (.DictComp kx vx [⟨tg, iter, [], 0⟩] scope pos) σ H Q := by
  have ok : BlkOk X.N X.env.scope scope own := blk_ok okc e1 e2
  refine ⟨fun pins s I => ?_⟩
  rw [arm_eval_DictComp]
  have hfree : ∀ y ∈ scope.names, y.2 = .free → ∃ c, X.env.cells.lookup y.1 = some c := fun y hy e => by
    rcases ok.free y hy e with k | k
    · exact I.ok.has _ (.inl k)
    · exact I.ok.has _ (.inr k)
  refine wpAny_comprehension_free rfl hs (closure_ok hfree) ok.kind (fun y hy e => by rw [ok.uniq y hy, e])
    (thn (h.run pins s I) fun xv s1 hx => thn hx fun itv s2 h2 => ?_)
  obtain ⟨it, fp, tn, J, H2, e, I2, T, st2, f2, q⟩ := h2
  subst e
  refine wpAny_newObj_type (newEnv_comp ?_)
  generalize hD : s2.heap.objs.size = D
  have hDn : H2 D = none := I2.hok.fresh (Nat.le_of_eq hD)
  obtain ⟨W, ⟨m0, w0⟩, turn⟩ := q D hDn
  generalize hs3 : ({ s2 with heap := s2.heap.push { cls := .type "dict", data := .dict #[] } } : Shared) = s3
  have I3 : Inv X pins σ (upd H2 D (.dT [])) s3 := by
    rw [← hs3]
    refine I2.laid (t' := s2.toks) (fun b o e => Heap.get?_push_of_some _ e) (Nat.le_of_eq hD) ?_
    rw [← hD]
    exact dt_empty s2.heap I2.big
  have h3 : s3.heap = s2.heap.push { cls := .type "dict", data := .dict #[] } := by rw [← hs3]
  have sz : ∀ b ∈ fp, b < s2.heap.objs.size := fun b hb => by
    obtain ⟨o, e, _⟩ := T.obj _ _ st2 b hb
    exact Heap.lt_size e
  have f3 : ∀ b ∈ fp, FpOk X pins (upd H2 D (.dT [])) b ∧ b < s3.heap.objs.size := fun b hb => by
    have hlt := sz b hb
    refine ⟨⟨?_, (f2 b hb).2⟩, by rw [h3, Heap.size_push]; exact Nat.lt_succ_of_lt hlt⟩
    rw [upd_ne (by rw [← hD]; exact Nat.ne_of_lt hlt)]
    exact (f2 b hb).1
  have st3 : tn 0 s3.heap := T.keep _ _ _ st2 fun b _ o e => by rw [h3]; exact Heap.get?_push_of_some _ e
  have I4 := block_start I3 ok hN f3
  have pg : PG _ tg (GGb X scope tg) := ggb s3 (upd H2 D (.dT [])) s3.heap.objs.size (cellsFrom (s3.heap.objs.size + 1) scope.names (cloFrom X.env.cells scope.names [])) fp
  have pk : PE _ kx (EEb X scope kx) := eeb s3 (upd H2 D (.dT [])) s3.heap.objs.size (cellsFrom (s3.heap.objs.size + 1) scope.names (cloFrom X.env.cells scope.names [])) fp
  have pe : PE _ vx (EEb X scope vx) := eeb s3 (upd H2 D (.dT [])) s3.heap.objs.size (cellsFrom (s3.heap.objs.size + 1) scope.names (cloFrom X.env.cells scope.names [])) fp
  refine (?_ : codeAny _ _ (.compStart (.DictComp kx vx [⟨tg, iter, [], 0⟩] scope pos) 0 (.ref it) (.ref D) (compEnvC scope (cellsFrom (s3.heap.objs.size + 1) scope.names (cloFrom X.env.cells scope.names [])) s3.heap.objs.size X.env)) (compPost (model X.prog X.w) X.A X.xe _ _ (.ref D) s3.heap.objs.size) { s3 with heap := pushCells (s3.heap.push { cls := .type "dict", data := .dict #[] }) scope.names })
  have nfp : ∀ b ∈ fp, (upd H2 D (.dT [])) b = none := fun b hb => (f3 b hb).1.1
  generalize hce : compEnvC scope (cellsFrom (s3.heap.objs.size + 1) scope.names (cloFrom X.env.cells scope.names [])) s3.heap.objs.size X.env = ce at I4 pg pk pe ⊢
  have cL : ce.locals = s3.heap.objs.size := by subst hce; rfl
  generalize hH3 : upd H2 D (.dT []) = H3 at I3 I4 pg pk pe w0 nfp f3
  generalize hs4 : ({ s3 with heap := pushCells (s3.heap.push { cls := .type "dict", data := .dict #[] }) scope.names } : Shared) = s4 at I4 ⊢
  have st4 : tn 0 s4.heap := T.keep _ _ _ st3 fun b _ o e => by rw [← hs4]; exact pushCells_keeps _ _ _ _ (Heap.get?_push_of_some _ e)
  have stat : ∀ {σ' : L2.St} {H' : Hp} {s' : Shared}, Inv (X.blk s3 H3 scope ce fp) [] σ' H' s' → (∀ b ∈ fp, H' b = none) → ∀ b ∈ fp, FpOk (X.blk s3 H3 scope ce fp) [] H' b := fun {σ' H' s'} I' hn b hb =>
    ⟨hn b hb, (I'.ok.exf b hb).1, I'.ok.exfs b hb, .inl hb, fun x c e => (I'.ok.exf b hb).2 x c e, fun p hp => absurd (show p ∈ ([] : List (Addr × Obj)) ++ [] from hp) (by simp)⟩
  refine codeAny_compStart_dict ?_ (T.self X.A 0 _ _ _ st4 ?_)
  all_goals
    refine compLoop_anyD (fun n s' => ∃ i H', Inv (X.blk s3 H3 scope ce fp) [] (wipe σ (own.map (·.2))) H' s' ∧ tn i s'.heap ∧ (∀ b ∈ fp, H' b = none) ∧ W i n H') ?_ m0 ⟨0, H3, I4, st4, nfp, w0⟩
    rintro n s5 ⟨i, H5, I5, st5, n5, w5⟩
    rcases turn i n H5 w5 with ⟨stop, qq⟩ | ⟨go, Nx, hNx, step⟩
    · have td := T.done (X.blk s3 H3 scope ce fp) rfl rfl rfl hc i [] s5 _ H5 (fun _ _ => False) I5 (stat I5 n5) st5 stop
      refine thnF td fun r s6 ⟨hr, I6⟩ => ?_
      subst hr
      have I7 : Inv X pins σ H5 s6 := I3.call' (ch := fp) I6.os I6.base I6.hok I6.bare fun b hb => ⟨(f3 b hb).1.2.2.2.1, (f3 b hb).1.2.1, (f3 b hb).1.2.2.2.2.1, (f3 b hb).1.2.2.2.2.2⟩
      have nC : H5 s3.heap.objs.size = none := by
        have z : H5 ce.locals = none := I6.free
        rw [cL] at z
        exact z
      obtain ⟨m, hn, _⟩ := I6.loc
      have hn : s6.heap.Ns ce.locals m := hn
      rw [cL] at hn
      obtain ⟨f0, f1, f2', f3', f4, f5⟩ := I3.fpOk (Nat.le_refl _) nC
      exact ⟨m, hn, fun h'' sb => ⟨.ref D, H5, I7.turned (t' := s6.toks) (fun b o hb e => (sb.2 b hb).trans e) f0 f1 f3' f4 f5, rfl, qq⟩⟩
    · have ti := T.item (X.blk s3 H3 scope ce fp) rfl rfl rfl hc i [] s5 _ H5 (fun _ _ => False) I5 (stat I5 n5) st5 go
      refine thnF ti fun r s6 ⟨u, hr, h6⟩ => ?_
      subst hr
      refine thnF h6 fun _ s7 ⟨x, H7, I7, r7, y7, st7, n7⟩ => ?_
      have I7' := I7.pinned (stat I7 n7) (T.obj _ _ st7)
      refine thnF (pg.run _ s7 _ H7 x u _ I7' r7 (step x H7 y7)) fun _ s8 ⟨σ8, H8, I8, hw8, q8⟩ => ?_
      refine thnF ((pts_nil (X := X.blk s3 H3 scope ce fp)).run _ s8 σ8 H8 (fun b H9 => b = true ∧ H9 = H8) I8 (show true = true ∧ H8 = H8 from ⟨rfl, rfl⟩)) fun b s9 ⟨H9, I9, eb, eH⟩ => ?_
      subst eb; subst eH
      have fin : ∀ {s' : Shared} {H' : Hp}, Inv (X.blk s3 H3 scope ce fp) ([] ++ pinsAt fp s7.heap) σ8 H' s' → Nx H' → ∃ m, m < n ∧ ∃ i H', Inv (X.blk s3 H3 scope ce fp) [] (wipe σ (own.map (·.2))) H' s' ∧ tn i s'.heap ∧ (∀ b ∈ fp, H' b = none) ∧ W i m H' := fun {s' H'} I' nx => by
        obtain ⟨m', hm, w'⟩ := hNx H' nx
        have pin' : ∀ b ∈ fp, ∀ o, s7.heap.get? b = some o → s'.heap.get? b = some o ∧ H' b = none := fun b hb o e =>
          let z := I'.pin (b, o) (List.mem_append_right _ (List.mem_append_right _ (mem_pinsAt hb e)))
          ⟨z.1, z.2.1⟩
        have hl : (wipe σ (own.map (·.2))).length = σ8.length := by rw [← hw8, wipe_length]
        refine ⟨m', hm, i + 1, H', (I'.unpinned (pins := [])).weak hl (fun j v e => ?_), T.keep _ _ _ st7 fun b hb o e => (pin' b hb o e).1, fun b hb => ?_, w'⟩
        · rw [← hw8] at e
          exact (wipe_some e).1
        · obtain ⟨o, e, _⟩ := T.obj _ _ st7 b hb
          exact (pin' b hb o e).2
      simp only [if_true]
      refine thnF (pk.run _ s9 σ8 H9 _ I9 q8) fun z s10 ⟨yk, H10, I10, r10, q10⟩ => ?_
      refine thnF (pe.run _ s10 σ8 H10 _ I10 q10) fun z2 s11 ⟨yv, H11, I11, r11, b, kvs, k, ek, hb11, hD11, hz11, nx⟩ => ?_
      subst ek
      cases r10
      exact dictSetT (X := X.blk s3 H3 scope ce fp) hu I11 hD11 hz11 hb11 r11 fun s12 I12 => fin I12 nx
end
end Sy
namespace Sy
section
variable {X : Cx} {σ : L2.St} {H : Hp} {Q : VK} {ke : Expr} {pos cp : Pos} {j : Nat}
/-- {row: True} -/
theorem ee_disp1 {k : Nat} (hr : Room k X.A) (h : ∀ p, H p = none → EE X ke σ (upd H p (.dT [])) fun y H1 => H1 p = some (.dT []) ∧ ∃ r, RowAt X.K H1 r y ∧ Q (.ref p) (upd H1 p (.dT (RDk [r])))) :
    EE X (.Dict [some ke] [.Constant (.bool true) j cp] pos) σ H Q := by
  refine ⟨fun pins s I => ?_⟩
  have hn := I.hok.fresh (Nat.le_refl s.heap.objs.size)
  have I1 := I.laid (a := s.heap.objs.size) (o := .dT []) (h' := s.heap.push { cls := .type "dict", data := .dict #[] }) (t' := s.toks) (fun _ _ q => Heap.get?_push_of_some _ q) (Nat.le_refl _) (dt_empty s.heap I.big)
  have hl := pairTrees_length [some ke] [.Constant (.bool true) j cp] X.env pos rfl rfl
  rw [arm_eval_Dict, zip_pairTrees [some ke] [.Constant (.bool true) j cp] X.env pos rfl rfl, dictDisplay_pairs _ (fun e => by rw [e] at hl; cases hl) (by rw [hl]; show 1 < 17; omega)]
  refine wpAny_bind (wpAny_standAt (wpAny_bind (wpAny_subDictH (knd := tupleKind (mixKind X.prog X.w)) (show X.A.units < cLine from hr.units0) (by rw [hl]; show 1 ≤ 15; omega) ?_)))
  refine pairTrees_cons_walk (thn ((h _ hn).run pins _ I1) fun kv s1 ⟨y, H1, I2, r1, hp1, r, hrow, q⟩ => ?_)
  refine thn ((ee_bl (X := X) (i := true) (j := j) (pos := cp) (σ := σ) (H := H1) (Q := fun z H2 => z = .bl true ∧ H2 = H1) ⟨rfl, rfl⟩).run pins s1 I2) fun vv s2 ⟨z, H2, I3, r2, ez, eH⟩ => ?_
  subst ez; subst eH
  refine pairTrees_nil_walk ?_
  obtain ⟨b, rfl, hb⟩ := id hrow
  cases r1; cases r2
  have hkb : H2 b = some (.tup ((rowK r).map kV)) := by rw [rowK_v]; exact hb
  obtain ⟨_, hd, xs, rel, dd⟩ := dt_of I3.hok hp1
  cases rel
  refine ⟨[(rowK r, b, .bool true)], ⟨rfl, rfl, key_of I3.hok hkb, trivial⟩, dd, fun h' tk dd' hs => ?_⟩
  refine wpAny_pure ⟨.ref s.heap.objs.size, upd H2 s.heap.objs.size (.dT (RDk [r])), ?_, rfl, q⟩
  obtain ⟨o, es, ep, ho, h2, h3, h4, _, h5⟩ := dd'
  refine d_write I3 (by rw [hp1]; exact True.intro) hs ⟨o, ho⟩ ⟨by show 1 ≤ sizeLine; rw [sizeLine_eq]; omega, hd, [(rowK r, b, .bool true)], .cons ⟨rfl, ?_, rfl⟩ .nil, o, es, ep, ho, h2, h3, h4, h5⟩
  show upd H2 s.heap.objs.size (.dT (RDk [r])) b = _
  rw [upd_ne (ne_of hkb hp1 (fun z => nomatch z))]; exact hkb
end
end Sy
namespace Sy
section
variable {w : World} {K : PySem.W.Frag} {mg : Str → Option Value} {base : Heap}
def spIsInt : Sp := fun vs H Q _ => ∃ i, vs = [.int i] ∧ Q (.bl true) H
theorem dn_is_integer (T : Top K mg "is_integer" s_is_integer) (G : Gs K mg) : Dn w K mg base "is_integer" 1 spIsInt := by
  refine T.dn sc_is_integer (fun vs H Q E h => ?_) (fun _ _ _ _ _ _ us hl => match us, hl with | [_], _ => rfl) (fun f cd A outer s H vs Q E hr h => ?_)
  · obtain ⟨i, rfl, _⟩ := h; rfl
  · obtain ⟨i, rfl, q⟩ := h
    walk_at "go"
    exact q
def spIsBelow : Sp := fun vs H Q _ => ∃ i j, vs = [.int i, .int j] ∧ Q (.bl (decide (0 ≤ i ∧ i < j))) H
theorem dn_is_below (T : Top K mg "is_below" s_is_below) (G : Gs K mg) (D : Dn w K mg base "is_integer" 1 spIsInt) : Dn w K mg base "is_below" 2 spIsBelow := by
  refine T.dn sc_is_below (fun vs H Q E h => ?_) (fun _ _ _ _ _ _ us hl => match us, hl with | [_, _], _ => rfl) (fun f cd A outer s H vs Q E hr h => ?_)
  · obtain ⟨i, j, rfl, _⟩ := h; rfl
  · obtain ⟨i, j, rfl, q⟩ := h
    walk_at "go"
    refine ee_call D rfl hr ?_
    walk_at "go"
    refine if_d (fun h0 => ?_) (fun h0 => ?_)
    · walk_at "go"
      simpa [h0] using q
    · simpa [h0] using q
/-- power(n, k), small -/
def spPower : Sp := fun vs H Q _ => ∃ (n : Int) (k : Nat), vs = [.int n, .int k] ∧ 0 ≤ n ∧ n < 2 ^ 64 ∧ k < 100 ∧ Q (.int (n ^ k)) H
theorem dn_power (T : Top K mg "power" s_power) (G : Gs K mg) : Dn w K mg base "power" 1 spPower := by
  refine T.dn sc_power (fun vs H Q E h => ?_) (fun _ _ _ _ _ _ us hl => match us, hl with | [_, _], _ => rfl) (fun f cd A outer s H vs Q E hr h => ?_)
  · obtain ⟨i, j, rfl, _⟩ := h; rfl
  · obtain ⟨n, k, rfl, h0, h1, hk, q⟩ := h
    refine ss_cons (s_set 2 ?_ sc_power.nd)
    walk_at "go"
    refine s_forT PassesOwn.never rfl (ii_range G.z_range ?_)
    walk_at "go"
    refine ⟨by omega, by omega, ?_⟩
    rw [Int.toNat_natCast]
    refine turns_range k (fun i σ H' => ∃ y, σ = [some (.int n), some (.int k), some (.int (n ^ i)), y] ∧ H' = H) ⟨_, by rw [Int.pow_zero]; rfl, rfl⟩ ?_ ?_
    · rintro i σ H' hi ⟨y, rfl, rfl⟩
      refine gg_name 3 ?_ sc_power.nd
      refine ss_cons (s_aug 2 rfl ?_ sc_power.nd)
      walk_at "go"
      refine io_mul (.inr ⟨by omega, h1⟩) ?_
      walk_at "go"
      exact ⟨_, by rw [Int.pow_succ]; rfl, rfl⟩
    · rintro σ H' ⟨y, rfl, rfl⟩
      walk_at "go"
      exact q
end
end Sy
namespace Sy
section
variable {w : World} {K : PySem.W.Frag} {mg : Str → Option Value} {base : Heap}
/-! ### rows_of, is_name, is_row -/
theorem rowsL_len (n : Nat) : ∀ k, (rowsL n k).length = n ^ k
  | 0 => rfl
  | k + 1 => by
    have e : ∀ l : List (List Int), (l.flatMap fun r => (List.range n).map fun i : Nat => r ++ [(i : Int)]).length = l.length * n := by
      intro l
      induction l with
      | nil => simp
      | cons x l ih => rw [List.flatMap_cons, List.length_append, ih, List.length_map, List.length_range, List.length_cons, Nat.add_mul]; omega
    show ((rowsL n k).flatMap _).length = _
    rw [e, rowsL_len n k, Nat.pow_succ]
/-- the first i rows with all ends, and j ends of the next -/
def rowsTo (n : Nat) (rs : List (List Int)) (i j : Nat) : List (List Int) :=
  ((rs.take i).flatMap fun r => (List.range n).map fun m : Nat => r ++ [(m : Int)]) ++ ((rs[i]?).map fun r => (List.range j).map fun m : Nat => r ++ [(m : Int)]).getD []
theorem rowsTo_zero (n : Nat) (rs : List (List Int)) (i : Nat) : rowsTo n rs i 0 = (rs.take i).flatMap fun r => (List.range n).map fun m : Nat => r ++ [(m : Int)] := by
  unfold rowsTo
  cases rs[i]? <;> simp
theorem rowsTo_next (n : Nat) (rs : List (List Int)) (i : Nat) (h : i < rs.length) : rowsTo n rs i n = rowsTo n rs (i + 1) 0 := by
  rw [rowsTo_zero]
  unfold rowsTo
  rw [List.getElem?_eq_getElem h, List.take_add_one, List.getElem?_eq_getElem h, List.flatMap_append]
  simp
theorem rowsTo_step (n : Nat) (rs : List (List Int)) (i j : Nat) (r : List Int) (h : rs[i]? = some r) : rowsTo n rs i (j + 1) = rowsTo n rs i j ++ [r ++ [(j : Int)]] := by
  unfold rowsTo
  rw [h]
  simp [List.range_succ]
theorem rowsTo_le (n : Nat) (rs : List (List Int)) (i j : Nat) (hj : j ≤ n) : (rowsTo n rs i j).length ≤ (rs.length + 1) * n := by
  have e : ∀ l : List (List Int), (l.flatMap fun r => (List.range n).map fun i : Nat => r ++ [(i : Int)]).length = l.length * n := by
    intro l
    induction l with
    | nil => simp
    | cons x l ih => rw [List.flatMap_cons, List.length_append, ih, List.length_map, List.length_range, List.length_cons, Nat.add_mul]; omega
  have h1 : (rowsTo n rs i j).length ≤ (rs.take i).length * n + n := by
    unfold rowsTo
    rw [List.length_append, e]
    cases rs[i]? <;> simp <;> omega
  have h2 : (rs.take i).length * n ≤ rs.length * n := Nat.mul_le_mul_right _ (by rw [List.length_take]; omega)
  rw [Nat.add_mul]; omega
def spRowsOf (K : PySem.W.Frag) : Sp := fun vs H Q _ => ∃ n k : Nat, vs = [.int n, .int k] ∧ n ≤ 16 ∧ n ^ k ≤ 4096 ∧ k ≤ 100 ∧
  ∀ H' L us, Ex K H H' → H L = none → H' L = some (.lst us) → RowsAt K H' (rowsL n k) us → Q (.ref L) H'
theorem dn_rows_of (T : Top K mg "rows_of" s_rows_of) (G : Gs K mg) : Dn w K mg base "rows_of" 1 (spRowsOf K) := by
  refine T.dn sc_rows_of (fun vs H Q E h => ?_) (fun _ _ _ _ _ _ us hl => match us, hl with | [_, _], _ => rfl) (fun f cd A outer s H vs Q E hr h => ?_)
  · obtain ⟨i, j, rfl, _⟩ := h; rfl
  · obtain ⟨n, k, rfl, hn, hp, hk, q⟩ := h
    refine ss_cons (s_set 2 ?_ sc_rows_of.nd)
    walk_at "go"
    refine ⟨szk (by simp), fun e0 he0 => ?_⟩
    walk_at "go"
    refine ⟨szk (by simp), fun l0 hl0 => ?_⟩
    have x0 : Ex K H (upd (upd H e0 (.tup [])) l0 (.lst [.ref e0])) := (Ex.new he0).trans (Ex.new hl0)
    walk_at "go"
    refine s_forT PassesOwn.never rfl (ii_range G.z_range ?_)
    walk_at "go"
    refine ⟨by omega, by omega, ?_⟩
    rw [Int.toNat_natCast]
    refine turns_range k (fun i σ H' => ∃ L us y r m, σ = [some (.int n), some (.int k), some (.ref L), y, r, m] ∧ Ex K H H' ∧ H L = none ∧ H' L = some (.lst us) ∧ RowsAt K H' (rowsL n i) us) ?_ ?_ ?_
    · refine ⟨l0, _, none, none, none, rfl, x0, (Ex.new (K := K) he0).there _ hl0, upd_same, ?_⟩
      refine (RowsAt.nil.snoc (r := []) ⟨e0, rfl, ?_⟩ : RowsAt K _ ([] ++ [[]]) ([] ++ [V.ref e0]))
      rw [upd_ne (ne_of_none upd_same hl0)]; exact upd_same
    · rintro i σ H' hi ⟨L, us, y, r, m, rfl, x1, nL, hL, hR⟩
      have hik : n ^ i ≤ 4096 := by
        rcases Nat.eq_zero_or_pos n with z | z
        · subst z
          rcases Nat.eq_zero_or_pos i with z | z
          · subst z; simp
          · rw [Nat.zero_pow z]; omega
        · exact Nat.le_trans (Nat.pow_le_pow_right z (by omega)) hp
      have hus : us.length = n ^ i := by rw [hR.1, rowsL_len]
      refine gg_name 3 ?_ sc_rows_of.nd
      refine ss_cons (s_lc2 [("row", 4), ("number", 5)] N_rows_of (defScope s_rows_of) [5] 2 rfl sc_rows_of.nd ?_)
      refine ii_list ?_
      walk_at "go"
      refine ⟨⟨us, SqL.of hL⟩, fun D hD => ?_⟩
      refine lt2_L (K := K) us n (fun x => [some (.int n), some (.int k), some (.ref L), some (.int (0 + (i : Int))), some x, none]) (fun a b ys H2 => a ≤ us.length ∧ b ≤ n ∧ RowsAt K H2 (rowsTo n (rowsL n i) a b) ys) hD (SqL.of hL) (nd_allref hR.refs) ?_ ?_ ?_ ?_ ?_ ?_ ?_ ?_
      · intro H2 _
        refine ⟨Nat.zero_le _, Nat.zero_le _, ?_⟩
        rw [rowsTo_zero]; exact RowsAt.nil
      · rintro a b ys H2 ⟨h1, h2, h3⟩
        refine ⟨?_, nd_allref h3.refs⟩
        have := rowsTo_le n (rowsL n i) a b h2
        rw [← h3.1, ← hR.1, hus] at this
        have : (n ^ i + 1) * n ≤ (4096 + 1) * 16 := Nat.mul_le_mul (by omega) hn
        omega
      · rintro a b ys H2 H3 e ⟨h1, h2, h3⟩; exact ⟨h1, h2, h3.mono e⟩
      · intro a x H2 hx e s0 H0 C cl fp
        refine gg_name 4 ?_ sc_rows_of.nd
        exact ⟨rfl, rfl, rfl⟩
      · intro a x H2 R hx hRR s0 H0 C cl fp
        refine ii_range G.z_range ?_
        walk_at "go"
        refine ⟨by omega, by omega, ?_⟩
        rw [Int.toNat_natCast]; exact hRR
      · rintro a x b ys H2 hx hb e ⟨h1, h2, h3⟩
        obtain ⟨r0, hr0, p, rfl, hp0⟩ := hR.2 a x hx
        have ha := (List.getElem?_eq_some_iff.mp hx).1
        intro s0 H0 C cl fp
        refine gg_name 5 ?_ sc_rows_of.nd
        refine ⟨rfl, rfl, ?_⟩
        intro s1 H1 C1 cl1 fp1
        walk_at "go"
        refine ⟨szk (by simp), fun t ht => ?_⟩
        have e2 : Ex K H2 (upd H2 t (.tup [V.int (0 + (b : Int))])) := Ex.new ht
        have hp2 := e2.tr (e.tr hp0)
        have hb2 : (0 + (b : Int)) = (b : Int) := by omega
        have hlen : r0.length = i := (mem_rowsL.mp (List.mem_of_getElem? hr0)).1
        refine oo_tcatE hp2 upd_same (by rw [List.length_map]; simp; omega) (fun p' H3 e3 hp3 => ?_)
        refine ⟨e2.trans e3, h1, hb, ?_⟩
        rw [rowsTo_step n (rowsL n i) a b r0 hr0]
        refine (h3.mono (e2.trans e3).tex).snoc ⟨p', rfl, ?_⟩
        rw [hp3, hb2, List.map_append]; rfl
      · rintro a ys H2 ha ⟨h1, h2, h3⟩
        refine ⟨ha, Nat.zero_le _, ?_⟩
        rw [← rowsTo_next n _ a (by rw [← hR.1]; exact ha)]; exact h3
      · rintro ys H2 e hL2 ⟨h1, h2, h3⟩
        refine ss_nil ?_
        refine ⟨D, ys, _, _, _, rfl, x1.trans e, x1.there _ hD, hL2, ?_⟩
        rw [rowsTo_zero, hR.1, List.take_length] at h3
        exact h3
    · rintro σ H' ⟨L, us, y, r, m, rfl, x1, nL, hL, hR⟩
      walk_at "go"
      exact q H' L us x1 nL hL hR
end
end Sy
namespace Sy
section
variable {w : World} {K : PySem.W.Frag} {mg : Str → Option Value} {base : Heap}
def NM : List Str := ["x", "y", "z", "e", "p", "q", "r", "s"]
def VR : List Str := ["x", "y", "z"]
def NR : List Str := ["e", "p", "q", "r", "s"]
def LETT : Str := "abcdefghijklmnopqrstuvwxyz"
def WORDS_ : List Str := ["and", "or", "not", "some", "all", "lfp", "pfp", "tc", "guess", "true", "false"]
theorem nm_facts : ∀ x ∈ NM, x = ⟨#[x.cps.getD 0 0]⟩ ∧ x.cps.getD 0 0 ∈ LETT.cps.toList ∧ x ∉ WORDS_ := by decide +kernel
theorem nm_of {x : Str} (h : x ∈ NM) : ∃ c, x = ⟨#[c]⟩ ∧ c ∈ LETT.cps.toList ∧ (⟨#[c]⟩ : Str) ∉ WORDS_ := by
  obtain ⟨h1, h2, h3⟩ := nm_facts x h
  exact ⟨_, h1, h2, by rw [← h1]; exact h3⟩
def spIsName : Sp := fun vs H Q _ => ∃ x, vs = [.str x] ∧ x ∈ NM ∧ Q (.bl true) H
theorem dn_is_name (T : Top K mg "is_name" s_is_name) (G : Gs K mg) : Dn w K mg base "is_name" 1 spIsName := by
  refine T.dn sc_is_name (fun vs H Q E h => ?_) (fun _ _ _ _ _ _ us hl => match us, hl with | [_], _ => rfl) (fun f cd A outer s H vs Q E hr h => ?_)
  · obtain ⟨x, rfl, _⟩ := h; rfl
  · obtain ⟨x, rfl, hx, q⟩ := h
    obtain ⟨c, rfl, hc, hw⟩ := nm_of hx
    obtain ⟨tl, hLET⟩ := G.c_LETTERS
    obtain ⟨ti, hLON⟩ := G.c_LONGEST
    obtain ⟨aw, hWO, hWS⟩ := G.c_WORDS
    walk_at "go"
    refine cc_lenS (szk (by show 1 ≤ 1000; decide)) ?_
    walk_at "go"
    refine ix_s (szk (by show 1 ≤ 1000; decide)) (c := c) rfl ?_
    refine ee_glob hLET (v := .str LETT) ⟨_, rfl⟩ ?_
    refine oo_nsign ?_
    refine bq ?_
    refine if_f (by simp [hc]) ?_
    refine bw_or1 ?_
    refine bb_cmp ?_
    refine ee_var 0 rfl ?_
    refine ee_glob hWO (v := .ref aw) rfl ?_
    refine oo_inT (hWS _) ?_
    refine bq ?_
    refine if_f (decide_eq_false hw) ?_
    walk_at "go"
    refine s_forT PassesOwn.never rfl (ii_str ?_)
    walk_at "go"
    refine turns_str ⟨#[c]⟩ (fun i σ H' => ∃ y, σ = [some (.str ⟨#[c]⟩), y] ∧ H' = H) ⟨_, rfl, rfl⟩ ?_ ?_
    · rintro i c' σ H' hi ⟨y, rfl, rfl⟩
      have e : c' = c := by
        have hm : c' ∈ (⟨#[c]⟩ : Str).cps := Array.mem_of_getElem? hi
        simpa using hm
      subst e
      refine gg_name 1 ?_ sc_is_name.nd
      walk_at "go"
      refine ee_glob hLET (v := .str LETT) ⟨_, rfl⟩ ?_
      refine oo_nsign ?_
      refine bq ?_
      refine if_f (by simp [hc]) ?_
      refine if_ff ?_
      walk_at "go"
      exact ⟨_, rfl, rfl⟩
    · rintro σ H' ⟨y, rfl, rfl⟩
      walk_at "go"
      exact q
/-- is_row(r, n, k) of a row -/
def spIsRow (K : PySem.W.Frag) : Sp := fun vs H Q _ => ∃ v r, ∃ n : Int, ∃ k : Nat, vs = [v, .int n, .int k] ∧ RowAt K H r v ∧ IsRow n k r ∧ Q (.bl true) H
theorem dn_is_row (T : Top K mg "is_row" s_is_row) (G : Gs K mg) (D : Dn w K mg base "is_below" 2 spIsBelow) : Dn w K mg base "is_row" 3 (spIsRow K) := by
  refine T.dn sc_is_row (fun vs H Q E h => ?_) (fun _ _ _ _ _ _ us hl => match us, hl with | [_, _, _], _ => rfl) (fun f cd A outer s H vs Q E hr h => ?_)
  · obtain ⟨v, r, n, k, rfl, _⟩ := h; rfl
  · obtain ⟨v, r, n, k, rfl, ⟨a, rfl, ha0⟩, ⟨h1, h2⟩, q⟩ := h
    have ha := SqT.of (K := K) ha0
    walk_at "go"
    refine if_f (by simp [h1]) ?_
    walk_at "go"
    refine s_forT PassesOwn.never rfl (ii_tup ?_)
    walk_at "go"
    refine ⟨⟨_, ha⟩, ?_⟩
    refine turns_tup (r.map V.int) (fun i σ H' => ∃ y, σ = [some (.ref a), some (.int n), some (.int k), y] ∧ H' = H) ⟨_, rfl, rfl⟩ (fun i σ H' _ ⟨_, _, e⟩ => by rw [e]; exact ha) ?_ ?_
    · rintro i x σ H' hx ⟨y, rfl, rfl⟩
      obtain ⟨z, hz, rfl⟩ : ∃ z, z ∈ r ∧ x = V.int z := by
        have := List.mem_of_getElem? hx
        obtain ⟨z, hz, rfl⟩ := List.mem_map.mp this
        exact ⟨z, hz, rfl⟩
      refine gg_name 3 ?_ sc_is_row.nd
      walk_at "go"
      refine ee_call D rfl hr ?_
      walk_at "go"
      refine ⟨_, n, rfl, ?_⟩
      walk_at "go"
      refine if_f (by simp [h2 z hz]) ?_
      walk_at "go"
      exact ⟨_, rfl, rfl⟩
    · rintro σ H' ⟨y, rfl, rfl⟩
      walk_at "go"
      exact q
end
end Sy
namespace Sy
section
variable {w : World} {K : PySem.W.Frag} {mg : Str → Option Value} {base : Heap}
theorem SqT.up {K : PySem.W.Frag} {H : Hp} {p : Addr} {xs : List V} : SqT K (upd H p (.tup xs)) p xs := .inl (.inl upd_same)
def spInner (K : PySem.W.Frag) : Sp := fun vs H Q _ => ∃ v φ, vs = [v] ∧ FmAt K H φ v ∧ ∀ H' b us, Ex K H H' → SqT K H' b us → FmsAt K H' (kids φ) us → Q (.ref b) H'
theorem dn_inner (T : Top K mg "inner" s_inner) (G : Gs K mg) : Dn w K mg base "inner" 1 (spInner K) := by
  refine T.dn sc_inner (fun vs H Q E h => ?_) (fun _ _ _ _ _ _ us hl => match us, hl with | [_], _ => rfl) (fun f cd A outer s H vs Q E hr h => ?_)
  · obtain ⟨v, φ, rfl, _⟩ := h; rfl
  · obtain ⟨v, φ, rfl, hF, q⟩ := h
    obtain ⟨aq, hQ, hQS⟩ := G.c_QUANTIFIERS
    obtain ⟨af, hX, hXS⟩ := G.c_FIXED
    have hq := hQS H
    have hx := hXS H
    have one : ∀ (φ' : F) (u : V), FmAt K H φ' u → kids φ = [φ'] → ∀ p, H p = none → Q (.ref p) (upd H p (.tup [u])) := fun φ' u hu e p hp => by
      refine q _ p [u] (Ex.new hp) SqT.up ?_
      rw [e]; exact ⟨u, [], rfl, fmAt_mono (TEx.new hp) _ _ hu, rfl⟩
    have zero : kids φ = [] → ∀ p, H p = none → Q (.ref p) (upd H p (.tup [])) := fun e p hp => by
      refine q _ p [] (Ex.new hp) SqT.up ?_
      rw [e]; rfl
    refine ss_cons (s_set 1 ?_ sc_inner.nd)
    cases φ with
    | rel nm args =>
      obtain ⟨a, b, rfl, h1, h2⟩ := hF
      walk_at "go"; exact ⟨szk (by simp), zero rfl⟩
    | eq x y =>
      obtain ⟨a, rfl, h1⟩ := hF
      walk_at "go"; exact ⟨szk (by simp), zero rfl⟩
    | less x y =>
      obtain ⟨a, rfl, h1⟩ := hF
      walk_at "go"; exact ⟨szk (by simp), zero rfl⟩
    | not f =>
      obtain ⟨a, u, rfl, h1, h2⟩ := hF
      walk_at "go"; exact ⟨szk (by simp), one f u h2 rfl⟩
    | join s fs =>
      obtain ⟨a, b, us, rfl, h1, h2, h3⟩ := hF
      cases s <;> (walk_at "go"; exact q H b us Ex.refl h2 h3)
    | quant s vs f =>
      obtain ⟨a, b, u, rfl, h1, h2, h3⟩ := hF
      cases s <;> (walk_at "go"; exact ⟨szk (by simp), one f u h3 rfl⟩)
    | fix l nm vs f args =>
      obtain ⟨a, b, c, u, rfl, h1, h2, h3, h4⟩ := hF
      cases l <;> (walk_at "go"; exact ⟨szk (by simp), one f u h3 rfl⟩)
    | tc vs f args =>
      obtain ⟨a, b, c, u, rfl, h1, h2, h3, h4⟩ := hF
      walk_at "go"; exact ⟨szk (by simp), one f u h3 rfl⟩
    | guess nm k f =>
      obtain ⟨a, u, rfl, h1, h2⟩ := hF
      walk_at "go"; exact ⟨szk (by simp), one f u h2 rfl⟩
end
end Sy
namespace Sy
section
variable {w : World} {K : PySem.W.Frag} {mg : Str → Option Value} {base : Heap}
def ovars : F → List Str
  | .quant _ vs _ => vs
  | .tc vs _ _ => vs
  | .fix _ _ vs _ _ => vs
  | _ => []
def oname : F → Option (Str × Nat)
  | .fix _ nm vs _ _ => some (nm, vs.length)
  | .guess nm k _ => some (nm, k)
  | _ => none
def oargs : F → List Str
  | .rel _ args => args
  | .eq x y => [x, y]
  | .less x y => [x, y]
  | .fix _ _ _ _ args => args
  | .tc _ _ args => args
  | _ => []
def spOVars (K : PySem.W.Frag) : Sp := fun vs H Q _ => ∃ v φ, vs = [v] ∧ FmAt K H φ v ∧ ∀ H' b, Ex K H H' → SqS K H' b (ovars φ) → Q (.ref b) H'
theorem dn_own_variables (T : Top K mg "own_variables" s_own_variables) (G : Gs K mg) : Dn w K mg base "own_variables" 1 (spOVars K) := by
  refine T.dn sc_own_variables (fun vs H Q E h => ?_) (fun _ _ _ _ _ _ us hl => match us, hl with | [_], _ => rfl) (fun f cd A outer s H vs Q E hr h => ?_)
  · obtain ⟨v, φ, rfl, _⟩ := h; rfl
  · obtain ⟨v, φ, rfl, hF, q⟩ := h
    obtain ⟨aq, hQ, hQS⟩ := G.c_QUANTIFIERS
    obtain ⟨af, hX, hXS⟩ := G.c_FIXED
    have hq := hQS H
    have hx := hXS H
    have zero : ovars φ = [] → ∀ p, H p = none → Q (.ref p) (upd H p (.tup [])) := fun e p hp => by
      refine q _ p (Ex.new hp) ?_
      rw [e]; exact SqT.up
    cases φ with
    | rel nm args =>
      obtain ⟨a, b, rfl, h1, h2⟩ := hF
      walk_at "go"; exact ⟨szk (by simp), zero rfl⟩
    | eq x y =>
      obtain ⟨a, rfl, h1⟩ := hF
      walk_at "go"; exact ⟨szk (by simp), zero rfl⟩
    | less x y =>
      obtain ⟨a, rfl, h1⟩ := hF
      walk_at "go"; exact ⟨szk (by simp), zero rfl⟩
    | not f =>
      obtain ⟨a, u, rfl, h1, h2⟩ := hF
      walk_at "go"; exact ⟨szk (by simp), zero rfl⟩
    | join s fs =>
      obtain ⟨a, b, us, rfl, h1, h2, h3⟩ := hF
      cases s <;> (walk_at "go"; exact ⟨szk (by simp), zero rfl⟩)
    | quant s vs f =>
      obtain ⟨a, b, u, rfl, h1, h2, h3⟩ := hF
      cases s <;> (walk_at "go"; exact q H b Ex.refl h2)
    | fix l nm vs f args =>
      obtain ⟨a, b, c, u, rfl, h1, h2, h3, h4⟩ := hF
      cases l <;> (walk_at "go"; exact q H b Ex.refl h2)
    | tc vs f args =>
      obtain ⟨a, b, c, u, rfl, h1, h2, h3, h4⟩ := hF
      walk_at "go"; exact q H b Ex.refl h2
    | guess nm k f =>
      obtain ⟨a, u, rfl, h1, h2⟩ := hF
      walk_at "go"; exact ⟨szk (by simp), zero rfl⟩
/-- None, or the pair of the name and its arity -/
def ONameAt (K : PySem.W.Frag) (H : Hp) (o : Option (Str × Nat)) (v : V) : Prop := match o with
  | none => v = .non
  | some (nm, k) => ∃ a, v = .ref a ∧ SqT K H a [.str nm, .int k]
def spOName (K : PySem.W.Frag) : Sp := fun vs H Q _ => ∃ v φ, vs = [v] ∧ FmAt K H φ v ∧ ∀ H' u, Ex K H H' → ONameAt K H' (oname φ) u → Q u H'
theorem dn_own_name (T : Top K mg "own_name" s_own_name) (G : Gs K mg) : Dn w K mg base "own_name" 1 (spOName K) := by
  refine T.dn sc_own_name (fun vs H Q E h => ?_) (fun _ _ _ _ _ _ us hl => match us, hl with | [_], _ => rfl) (fun f cd A outer s H vs Q E hr h => ?_)
  · obtain ⟨v, φ, rfl, _⟩ := h; rfl
  · obtain ⟨v, φ, rfl, hF, q⟩ := h
    obtain ⟨af, hX, hXS⟩ := G.c_FIXED
    have hx := hXS H
    have zero : oname φ = none → Q .non H := fun e => q H .non Ex.refl (by rw [e]; rfl)
    have one : ∀ nm k, oname φ = some (nm, k) → ∀ p, H p = none → Q (.ref p) (upd H p (.tup [.str nm, .int (k : Int)])) := fun nm k e p hp => by
      refine q _ (.ref p) (Ex.new hp) ?_
      rw [e]; exact ⟨p, rfl, SqT.up⟩
    cases φ with
    | rel nm args =>
      obtain ⟨a, b, rfl, h1, h2⟩ := hF
      walk_at "go"; exact zero rfl
    | eq x y =>
      obtain ⟨a, rfl, h1⟩ := hF
      walk_at "go"; exact zero rfl
    | less x y =>
      obtain ⟨a, rfl, h1⟩ := hF
      walk_at "go"; exact zero rfl
    | not f =>
      obtain ⟨a, u, rfl, h1, h2⟩ := hF
      walk_at "go"; exact zero rfl
    | join s fs =>
      obtain ⟨a, b, us, rfl, h1, h2, h3⟩ := hF
      cases s <;> (walk_at "go"; exact zero rfl)
    | quant s vs f =>
      obtain ⟨a, b, u, rfl, h1, h2, h3⟩ := hF
      cases s <;> (walk_at "go"; exact zero rfl)
    | fix l nm vs f args =>
      obtain ⟨a, b, c, u, rfl, h1, h2, h3, h4⟩ := hF
      cases l <;> (walk_at "go"; refine ⟨szk (by simp), ?_⟩; rw [List.length_map]; exact one nm vs.length rfl)
    | tc vs f args =>
      obtain ⟨a, b, c, u, rfl, h1, h2, h3, h4⟩ := hF
      walk_at "go"; exact zero rfl
    | guess nm k f =>
      obtain ⟨a, u, rfl, h1, h2⟩ := hF
      walk_at "go"; exact ⟨szk (by simp), one nm k rfl⟩
def spOArgs (K : PySem.W.Frag) : Sp := fun vs H Q _ => ∃ v φ, vs = [v] ∧ FmAt K H φ v ∧ ∀ H' b, Ex K H H' → SqS K H' b (oargs φ) → Q (.ref b) H'
theorem dn_own_arguments (T : Top K mg "own_arguments" s_own_arguments) (G : Gs K mg) : Dn w K mg base "own_arguments" 1 (spOArgs K) := by
  refine T.dn sc_own_arguments (fun vs H Q E h => ?_) (fun _ _ _ _ _ _ us hl => match us, hl with | [_], _ => rfl) (fun f cd A outer s H vs Q E hr h => ?_)
  · obtain ⟨v, φ, rfl, _⟩ := h; rfl
  · obtain ⟨v, φ, rfl, hF, q⟩ := h
    obtain ⟨af, hX, hXS⟩ := G.c_FIXED
    have hx := hXS H
    have zero : oargs φ = [] → ∀ p, H p = none → Q (.ref p) (upd H p (.tup [])) := fun e p hp => by
      refine q _ p (Ex.new hp) ?_
      rw [e]; exact SqT.up
    have two : ∀ y z, oargs φ = [y, z] → ∀ p, H p = none → Q (.ref p) (upd H p (.tup [.str y, .str z])) := fun y z e p hp => by
      refine q _ p (Ex.new hp) ?_
      rw [e]; exact SqT.up
    refine ss_cons (s_set 1 ?_ sc_own_arguments.nd)
    cases φ with
    | rel nm args =>
      obtain ⟨a, b, rfl, h1, h2⟩ := hF
      walk_at "go"; exact q H b Ex.refl h2
    | eq x y =>
      obtain ⟨a, rfl, h1⟩ := hF
      walk_at "go"; exact ⟨szk (by simp), two x y rfl⟩
    | less x y =>
      obtain ⟨a, rfl, h1⟩ := hF
      walk_at "go"; exact ⟨szk (by simp), two x y rfl⟩
    | not f =>
      obtain ⟨a, u, rfl, h1, h2⟩ := hF
      walk_at "go"; exact ⟨szk (by simp), zero rfl⟩
    | join s fs =>
      obtain ⟨a, b, us, rfl, h1, h2, h3⟩ := hF
      cases s <;> (walk_at "go"; exact ⟨szk (by simp), zero rfl⟩)
    | quant s vs f =>
      obtain ⟨a, b, u, rfl, h1, h2, h3⟩ := hF
      cases s <;> (walk_at "go"; exact ⟨szk (by simp), zero rfl⟩)
    | fix l nm vs f args =>
      obtain ⟨a, b, c, u, rfl, h1, h2, h3, h4⟩ := hF
      cases l <;> (walk_at "go"; exact q H c Ex.refl h4)
    | tc vs f args =>
      obtain ⟨a, b, c, u, rfl, h1, h2, h3, h4⟩ := hF
      walk_at "go"; exact q H c Ex.refl h4
    | guess nm k f =>
      obtain ⟨a, u, rfl, h1, h2⟩ := hF
      walk_at "go"; exact ⟨szk (by simp), zero rfl⟩
/-- are_names(t, lo, hi) of names -/
def spAreNames (K : PySem.W.Frag) : Sp := fun vs H Q _ => ∃ a xs, ∃ lo hi : Int, vs = [.ref a, .int lo, .int hi] ∧ SqS K H a xs ∧ lo ≤ xs.length ∧ (xs.length : Int) ≤ hi ∧ (∀ x ∈ xs, x ∈ NM) ∧ Q (.bl true) H
theorem dn_are_names (T : Top K mg "are_names" s_are_names) (G : Gs K mg) (D : Dn w K mg base "is_name" 1 spIsName) : Dn w K mg base "are_names" 2 (spAreNames K) := by
  refine T.dn sc_are_names (fun vs H Q E h => ?_) (fun _ _ _ _ _ _ us hl => match us, hl with | [_, _, _], _ => rfl) (fun f cd A outer s H vs Q E hr h => ?_)
  · obtain ⟨a, xs, lo, hi, rfl, _⟩ := h; rfl
  · obtain ⟨a, xs, lo, hi, rfl, ha, h1, h2, h3, q⟩ := h
    walk_at "go"
    refine if_t (decide_eq_true (by rw [List.length_map]; exact h1)) ?_
    walk_at "go"
    refine if_f (by simp [h2]) ?_
    walk_at "go"
    refine s_forT PassesOwn.never rfl (ii_tup ?_)
    walk_at "go"
    refine ⟨⟨_, ha⟩, ?_⟩
    refine turns_tup (xs.map V.str) (fun i σ H' => ∃ y, σ = [some (.ref a), some (.int lo), some (.int hi), y] ∧ H' = H) ⟨_, rfl, rfl⟩ (fun i σ H' _ ⟨_, _, e⟩ => by rw [e]; exact ha) ?_ ?_
    · rintro i x σ H' hx ⟨y, rfl, rfl⟩
      obtain ⟨z, hz, rfl⟩ : ∃ z, z ∈ xs ∧ x = V.str z := by
        have := List.mem_of_getElem? hx
        obtain ⟨z, hz, rfl⟩ := List.mem_map.mp this
        exact ⟨z, hz, rfl⟩
      refine gg_name 3 ?_ sc_are_names.nd
      walk_at "go"
      refine ee_call D rfl (hr.mono (by decide)) ?_
      walk_at "go"
      refine ⟨_, rfl, h3 z hz, ?_⟩
      walk_at "go"
      exact ⟨_, rfl, rfl⟩
    · rintro σ H' ⟨y, rfl, rfl⟩
      walk_at "go"
      exact q
end
end Sy
namespace Sy
section
variable {w : World} {K : PySem.W.Frag} {mg : Str → Option Value} {base : Heap}
theorem word_rel {φ : F} (h : ∀ nm args, φ ≠ .rel nm args) : ¬ wordOf φ = "rel" := by
  cases φ with
  | rel nm args => exact absurd rfl (h nm args)
  | join s fs => cases s <;> (simp only [wordOf, jW]; decide +kernel)
  | quant s vs f => cases s <;> (simp only [wordOf, qW]; decide +kernel)
  | fix l nm vs f args => cases l <;> (simp only [wordOf, fW]; decide +kernel)
  | _ => simp only [wordOf]; decide +kernel
theorem word_not {φ : F} (h : ∀ f, φ ≠ .not f) : ¬ wordOf φ = "not" := by
  cases φ with
  | not f => exact absurd rfl (h f)
  | join s fs => cases s <;> (simp only [wordOf, jW]; decide +kernel)
  | quant s vs f => cases s <;> (simp only [wordOf, qW]; decide +kernel)
  | fix l nm vs f args => cases l <;> (simp only [wordOf, fW]; decide +kernel)
  | _ => simp only [wordOf]; decide +kernel
theorem word_pfp {φ : F} (h : ∀ nm vs f args, φ ≠ .fix false nm vs f args) : ¬ wordOf φ = "pfp" := by
  cases φ with
  | join s fs => cases s <;> (simp only [wordOf, jW]; decide +kernel)
  | quant s vs f => cases s <;> (simp only [wordOf, qW]; decide +kernel)
  | fix l nm vs f args =>
    cases l
    · exact absurd rfl (h nm vs f args)
    · simp only [wordOf, fW]; decide +kernel
  | _ => simp only [wordOf]; decide +kernel
theorem word_lfp {φ : F} (h : ∀ nm vs f args, φ ≠ .fix true nm vs f args) : ¬ wordOf φ = "lfp" := by
  cases φ with
  | join s fs => cases s <;> (simp only [wordOf, jW]; decide +kernel)
  | quant s vs f => cases s <;> (simp only [wordOf, qW]; decide +kernel)
  | fix l nm vs f args =>
    cases l
    · simp only [wordOf, fW]; decide +kernel
    · exact absurd rfl (h nm vs f args)
  | _ => simp only [wordOf]; decide +kernel
theorem occ_kid {nm : Str} {φ : F} (h : ¬ Occ nm φ) (hr : ∀ m args, φ ≠ .rel m args) (ho : ∀ m k, oname φ = some (m, k) → m ≠ nm) : ∀ g ∈ kids φ, ¬ Occ nm g := by
  intro g hg z
  cases φ with
  | rel m args => exact hr _ _ rfl
  | eq _ _ => simp [kids] at hg
  | less _ _ => simp [kids] at hg
  | not f => simp [kids] at hg; subst hg; exact h z
  | join s fs => exact h (occs_iff.mpr ⟨g, hg, z⟩)
  | quant s vs f => simp [kids] at hg; subst hg; exact h z
  | fix l m vs f args => simp [kids] at hg; subst hg; exact h ⟨ho _ _ rfl, z⟩
  | tc vs f args => simp [kids] at hg; subst hg; exact h z
  | guess m k f => simp [kids] at hg; subst hg; exact h ⟨ho _ _ rfl, z⟩
/-- the items of inner(φ): the i-th is the i-th part -/
theorem kids_get {H : Hp} {φ : F} {us : List V} (h : FmsAt K H (kids φ) us) {i : Nat} {x : V} (hx : us[i]? = some x) : ∃ g, g ∈ kids φ ∧ FmAt K H g x := by
  obtain ⟨g, hg, q⟩ := (fmsAt_get h).2 i x hx
  exact ⟨g, List.mem_of_getElem? hg, q⟩
theorem oname_sq {H : Hp} {m : Str} {k : Nat} {u : V} (h : ONameAt K H (some (m, k)) u) : ∃ a, u = .ref a ∧ SqT K H a [.str m, .int k] := h
def spOcc (K : PySem.W.Frag) (d : Nat) : Sp := fun vs H Q _ => ∃ v φ nm, vs = [v, .str nm] ∧ FmAt K H φ v ∧ depth φ ≤ d ∧ ¬ Occ nm φ ∧ ∀ H', Ex K H H' → Q (.bl false) H'
theorem dn_occurs (T : Top K mg "occurs" s_occurs) (G : Gs K mg) (DI : Dn w K mg base "inner" 1 (spInner K)) (DO : Dn w K mg base "own_name" 1 (spOName K)) : ∀ d, Dn w K mg base "occurs" (d + 2) (spOcc K d) := by
  intro d
  induction d with
  | zero =>
    refine T.dn sc_occurs (fun vs H Q E h => ?_) (fun _ _ _ _ _ _ us hl => match us, hl with | [_, _], _ => rfl) (fun f cd A outer s H vs Q E hr h => ?_)
    · obtain ⟨v, φ, nm, rfl, _⟩ := h; rfl
    · obtain ⟨v, φ, nm, rfl, _, hd, _⟩ := h
      have := depth_pos φ; omega
  | succ d ih =>
    refine T.dn sc_occurs (fun vs H Q E h => ?_) (fun _ _ _ _ _ _ us hl => match us, hl with | [_, _], _ => rfl) (fun f cd A outer s H vs Q E hr h => ?_)
    · obtain ⟨v, φ, nm, rfl, _⟩ := h; rfl
    · obtain ⟨v, φ, nm, rfl, hF, hd, ho, q⟩ := h
      by_cases hrel : ∃ m args, φ = .rel m args
      · obtain ⟨m, args, rfl⟩ := hrel
        obtain ⟨a, b, rfl, h1, h2⟩ := hF
        walk_at "go"
        have e : decide (m = nm) = false := decide_eq_false ho
        rw [e]; exact q H Ex.refl
      · have hrel' : ∀ m args, φ ≠ .rel m args := fun m args e => hrel ⟨m, args, e⟩
        obtain ⟨a, xs, rfl, h1⟩ := fmAt_tup hF
        walk_at "go"
        refine if_f (decide_eq_false (word_rel hrel')) ?_
        refine ss_nil ?_
        refine ss_cons (s_set 2 ?_ sc_occurs.nd)
        refine ee_call DO rfl (hr.mono (by omega)) ?_
        walk_at "go"
        refine ⟨_, φ, rfl, hF, fun H1 u e1 hu => ?_⟩
        have fin : (∀ m k, oname φ = some (m, k) → m ≠ nm) → SS (Cxd w K mg base N_occurs "occurs" s_occurs f cd A outer s H E) ((defBody s_occurs).drop 3) { nx := fun _ H' => Q .non H', rt := Q } (List.set (L2.start N_occurs [V.ref a, V.str nm]) 2 (some u)) H1 := fun hne => by
          refine ss_cons (s_forT PassesOwn.never rfl (ii_tup ?_))
          refine ee_call DI rfl (hr.mono (by omega)) ?_
          walk_at "go"
          refine ⟨_, φ, rfl, fmAt_mono e1.tex _ _ hF, fun H2 b us e2 hb hus => ?_⟩
          refine rq ⟨⟨_, hb⟩, ?_⟩
          refine turns_tup us (fun i σ H' => ∃ y, σ = [some (.ref a), some (.str nm), some u, y] ∧ Ex K H2 H') ⟨_, rfl, Ex.refl⟩ (fun i σ H' _ ⟨_, _, e⟩ => e.t hb) ?_ ?_
          · rintro i x σ H' hx ⟨y, rfl, e3⟩
            obtain ⟨g, hg, hgx⟩ := kids_get hus hx
            refine gg_name 3 ?_ sc_occurs.nd
            refine ss_cons (s_if (bb_val ?_))
            refine ee_call ih rfl hr ?_
            walk_at "go"
            refine ⟨x, g, nm, rfl, fmAt_mono e3.tex _ _ hgx, by have := depth_kid hg; omega, occ_kid ho hrel' hne g hg, fun H3 e4 => ?_⟩
            walk_at "go"
            exact ⟨_, rfl, e3.trans e4⟩
          · rintro σ H' ⟨y, rfl, e3⟩
            walk_at "go"
            exact q _ ((e1.trans e2).trans e3)
        cases hon : oname φ with
        | none =>
          rw [hon] at hu
          have : u = .non := hu
          subst this
          refine ss_cons (s_if ?_)
          walk_at "ge"
          refine ss_nil ?_
          exact fin (fun m k e => by rw [hon] at e; cases e)
        | some p =>
          obtain ⟨m, k⟩ := p
          rw [hon] at hu
          obtain ⟨b, rfl, hb⟩ := oname_sq hu
          walk_at "go"
          refine if_d (fun e => ?_) (fun e => ?_)
          · walk_at "go"
            exact q _ e1
          · refine ss_nil ?_
            exact fin (fun m' k' e' => by rw [hon] at e'; cases e'; exact e)
end
end Sy
namespace Sy
section
variable {w : World} {K : PySem.W.Frag} {mg : Str → Option Value} {base : Heap}
theorem agr_kid {nm : Str} {ev : Bool} {φ : F} (h : Agr nm ev φ) (hr : ∀ m args, φ ≠ .rel m args) (ho : ∀ m k, oname φ = some (m, k) → m ≠ nm) :
    (∀ g ∈ kids φ, Agr nm (if wordOf φ = "not" then !ev else ev) g) ∧ (wordOf φ = "pfp" → ∀ g ∈ kids φ, ¬ Occ nm g) := by
  have wn : (∀ f, φ ≠ .not f) → (if wordOf φ = "not" then !ev else ev) = ev := fun e => if_neg (word_not e)
  have wp : (∀ m vs f args, φ ≠ .fix false m vs f args) → (wordOf φ = "pfp" → ∀ g ∈ kids φ, ¬ Occ nm g) := fun e z => absurd z (word_pfp e)
  cases φ with
  | rel m args => exact absurd rfl (hr m args)
  | eq _ _ => exact ⟨fun g hg => by simp [kids] at hg, wp (fun _ _ _ _ z => nomatch z)⟩
  | less _ _ => exact ⟨fun g hg => by simp [kids] at hg, wp (fun _ _ _ _ z => nomatch z)⟩
  | not f =>
    refine ⟨fun g hg => ?_, wp (fun _ _ _ _ z => nomatch z)⟩
    simp [kids] at hg; subst hg
    rw [if_pos (by rfl)]; exact h
  | join s fs =>
    refine ⟨fun g hg => ?_, wp (fun _ _ _ _ z => nomatch z)⟩
    rw [wn (fun _ z => nomatch z)]; exact agrs_iff.mp h g hg
  | quant s vs f =>
    refine ⟨fun g hg => ?_, wp (fun _ _ _ _ z => nomatch z)⟩
    simp [kids] at hg; subst hg
    rw [wn (fun _ z => nomatch z)]; exact h
  | fix l m vs f args =>
    have h' := (show m = nm ∨ ((l = false → ¬ Occ nm f) ∧ Agr nm ev f) from h).resolve_left (ho _ _ rfl)
    refine ⟨fun g hg => ?_, fun e g hg => ?_⟩
    · simp [kids] at hg; subst hg
      rw [wn (fun _ z => nomatch z)]; exact h'.2
    · simp [kids] at hg; subst hg
      refine h'.1 ?_
      cases l
      · rfl
      · exact absurd e (by simp only [wordOf, fW]; decide +kernel)
  | tc vs f args =>
    refine ⟨fun g hg => ?_, wp (fun _ _ _ _ z => nomatch z)⟩
    simp [kids] at hg; subst hg
    rw [wn (fun _ z => nomatch z)]; exact h
  | guess m k f =>
    have h' := (show m = nm ∨ Agr nm ev f from h).resolve_left (ho _ _ rfl)
    refine ⟨fun g hg => ?_, wp (fun _ _ _ _ z => nomatch z)⟩
    simp [kids] at hg; subst hg
    rw [wn (fun _ z => nomatch z)]; exact h'
def spAgr (K : PySem.W.Frag) (d : Nat) : Sp := fun vs H Q _ => ∃ v φ nm ev, vs = [v, .str nm, .bl ev] ∧ FmAt K H φ v ∧ depth φ ≤ d ∧ Agr nm ev φ ∧ ∀ H', Ex K H H' → Q (.bl true) H'
theorem dn_agrees (T : Top K mg "agrees" s_agrees) (G : Gs K mg) (DI : Dn w K mg base "inner" 1 (spInner K)) (DO : Dn w K mg base "own_name" 1 (spOName K)) (DC : ∀ d, Dn w K mg base "occurs" (d + 2) (spOcc K d)) :
    ∀ d, Dn w K mg base "agrees" (d + 2) (spAgr K d) := by
  intro d
  induction d with
  | zero =>
    refine T.dn sc_agrees (fun vs H Q E h => ?_) (fun _ _ _ _ _ _ us hl => match us, hl with | [_, _, _], _ => rfl) (fun f cd A outer s H vs Q E hr h => ?_)
    · obtain ⟨v, φ, nm, ev, rfl, _⟩ := h; rfl
    · obtain ⟨v, φ, nm, ev, rfl, _, hd, _⟩ := h
      have := depth_pos φ; omega
  | succ d ih =>
    refine T.dn sc_agrees (fun vs H Q E h => ?_) (fun _ _ _ _ _ _ us hl => match us, hl with | [_, _, _], _ => rfl) (fun f cd A outer s H vs Q E hr h => ?_)
    · obtain ⟨v, φ, nm, ev, rfl, _⟩ := h; rfl
    · obtain ⟨v, φ, nm, ev, rfl, hF, hd, ho, q⟩ := h
      by_cases hrel : ∃ m args, φ = .rel m args
      · obtain ⟨m, args, rfl⟩ := hrel
        obtain ⟨a, b, rfl, h1, h2⟩ := hF
        walk_at "go"
        refine if_nd (fun e => q H Ex.refl) (fun e => ?_)
        walk_at "go"
        have e2 : ev = true := ho.resolve_left (fun z => z e)
        rw [e2]; exact q H Ex.refl
      · have hrel' : ∀ m args, φ ≠ .rel m args := fun m args e => hrel ⟨m, args, e⟩
        obtain ⟨a, xs, rfl, h1⟩ := fmAt_tup hF
        walk_at "go"
        refine if_f (decide_eq_false (word_rel hrel')) ?_
        refine ss_nil ?_
        refine ss_cons (s_set 3 ?_ sc_agrees.nd)
        refine ee_call DO rfl (hr.mono (by omega)) ?_
        walk_at "ge"
        refine ⟨_, φ, rfl, hF, fun H1 u e1 hu => ?_⟩
        have fin : (∀ m k, oname φ = some (m, k) → m ≠ nm) → SS (Cxd w K mg base N_agrees "agrees" s_agrees f cd A outer s H E) ((defBody s_agrees).drop 3) { nx := fun _ H' => Q .non H', rt := Q } (List.set (L2.start N_agrees [V.ref a, V.str nm, V.bl ev]) 3 (some u)) H1 := fun hne => by
          obtain ⟨k1, k2⟩ := agr_kid ho hrel' hne
          have loop : ∀ H1', Ex K H1 H1' → SS (Cxd w K mg base N_agrees "agrees" s_agrees f cd A outer s H E) ((defBody s_agrees).drop 4) { nx := fun _ H' => Q .non H', rt := Q } (List.set (L2.start N_agrees [V.ref a, V.str nm, V.bl ev]) 3 (some u)) H1' := fun H1' e0 => by
            refine ss_cons (s_forT PassesOwn.never rfl (ii_tup ?_))
            refine ee_call DI rfl (hr.mono (by omega)) ?_
            walk_at "ge"
            refine ⟨_, φ, rfl, fmAt_mono (e1.trans e0).tex _ _ hF, fun H2 b us e2 hb hus => ?_⟩
            refine rq ⟨⟨_, hb⟩, ?_⟩
            refine turns_tup us (fun i σ H' => ∃ y, σ = [some (.ref a), some (.str nm), some (.bl ev), some u, y] ∧ Ex K H2 H') ⟨_, rfl, Ex.refl⟩ (fun i σ H' _ ⟨_, _, e⟩ => e.t hb) ?_ ?_
            · rintro i x σ H' hx ⟨y, rfl, e3⟩
              obtain ⟨g, hg, hgx⟩ := kids_get hus hx
              have h1' := (((e1.trans e0).trans e2).trans e3).t h1
              refine gg_name 4 ?_ sc_agrees.nd
              refine ss_cons (s_if (bb_not (bb_val ?_)))
              refine ee_call ih rfl hr ?_
              walk_at "ge"
              refine if_d (fun e => ?_) (fun e => ?_)
              all_goals
                walk_at "ge"
                refine ⟨x, g, nm, _, rfl, fmAt_mono e3.tex _ _ hgx, by have := depth_kid hg; omega, by first | (have z := k1 g hg; rw [if_pos e] at z; exact z) | (have z := k1 g hg; rw [if_neg e] at z; exact z), fun H3 e4 => ?_⟩
                walk_at "go"
                exact ⟨_, rfl, e3.trans e4⟩
            · rintro σ H' ⟨y, rfl, e3⟩
              walk_at "go"
              exact q _ (((e1.trans e0).trans e2).trans e3)
          have h1' := e1.t h1
          refine ss_cons (s_if ?_)
          walk_at "ge"
          refine if_d (fun e => ?_) (fun e => ?_)
          · obtain ⟨m, vs, f', args, rfl⟩ : ∃ m vs f' args, φ = .fix false m vs f' args := Classical.byContradiction fun z => word_pfp (fun m vs f' args e' => z ⟨m, vs, f', args, e'⟩) e
            obtain ⟨a', b, c, u', ea, g1, g2, g3, g4⟩ := hF
            cases ea
            have g1' := e1.t g1
            walk_at "ge"
            refine ee_call (DC d) rfl hr ?_
            walk_at "ge"
            refine ⟨u', f', nm, rfl, fmAt_mono e1.tex _ _ g3, by simp only [depth] at hd; omega, k2 e f' (by simp [kids]), fun H3 e4 => ?_⟩
            walk_at "ge"
            refine ss_nil ?_
            exact loop H3 e4
          · walk_at "ge"
            refine ss_nil ?_
            exact loop H1 Ex.refl
        cases hon : oname φ with
        | none =>
          rw [hon] at hu
          have : u = .non := hu
          subst this
          refine ss_cons (s_if ?_)
          walk_at "ge"
          refine ss_nil ?_
          exact fin (fun m k e => by rw [hon] at e; cases e)
        | some p =>
          obtain ⟨m, k⟩ := p
          rw [hon] at hu
          obtain ⟨b, rfl, hb⟩ := oname_sq hu
          refine ss_cons (s_if ?_)
          walk_at "ge"
          refine if_d (fun e => ?_) (fun e => ?_)
          · walk_at "go"
            exact q _ e1
          · refine ss_nil ?_
            exact fin (fun m' k' e' => by rw [hon] at e'; cases e'; exact e)
end
end Sy
namespace Sy
section
variable {w : World} {K : PySem.W.Frag} {mg : Str → Option Value} {base : Heap}
theorem cc_sum {X : Cx} {a : Addr} {ns : List Int} {H : Hp} {Q : VK} (hc : X.calm = true) (h : SqL X.K H a (ns.map V.int)) (q : Q (.int ns.sum) H) : CC X (.builtin "sum") [.ref a] H Q := cc_of (cr_sum hc) ⟨a, ns, rfl, h, q⟩
/-- what a drawn formula is -/
def Wf (φ : F) : Prop := ∃ Γ, GamOk (· ∈ NR) Γ ∧ WF (· ∈ VR) (· ∈ NR) Γ φ
theorem Wf.kid {φ g : F} (h : Wf φ) (hg : g ∈ kids φ) : Wf g := let ⟨Γ, h1, h2⟩ := h; ⟨_, h2.gam h1, h2.kid hg⟩
theorem Wf.vars {φ : F} (h : Wf φ) : (ovars φ).length ≤ 3 ∧ (∀ x ∈ ovars φ, x ∈ VR) := by
  obtain ⟨Γ, _, h⟩ := h
  cases φ with
  | quant s vs f => simp only [WF] at h; exact ⟨h.1.2.2.1, h.1.2.2.2⟩
  | fix l nm vs f args => cases l <;> simp only [WF] at h <;> exact ⟨h.1.2.2.1, h.1.2.2.2⟩
  | tc vs f args => simp only [WF] at h; exact ⟨h.1.2.2.1, h.1.2.2.2⟩
  | _ => exact ⟨by simp [ovars], by simp [ovars]⟩
def spDoubled : Sp := fun vs H Q _ => ∃ e : Int, vs = [.int e] ∧ 0 ≤ e ∧ e < 2 ^ 62 ∧ Q (.int (dbl e)) H
theorem dn_doubled (T : Top K mg "doubled" s_doubled) (G : Gs K mg) : Dn w K mg base "doubled" 1 spDoubled := by
  refine T.dn sc_doubled (fun vs H Q E h => ?_) (fun _ _ _ _ _ _ us hl => match us, hl with | [_], _ => rfl) (fun f cd A outer s H vs Q E hr h => ?_)
  · obtain ⟨e, rfl, _⟩ := h; rfl
  · obtain ⟨e, rfl, h0, h1, q⟩ := h
    obtain ⟨tc, hCAP⟩ := G.c_CAP
    refine ss_cons (s_set 1 ?_ sc_doubled.nd)
    walk_at "go"
    refine s_forT PassesOwn.never rfl (ii_range G.z_range ?_)
    walk_at "go"
    refine cc_min rfl ?_
    walk_at "go"
    refine ⟨by split <;> omega, by split <;> omega, ?_⟩
    generalize hk : (if (30 : Int) < e then 30 else e) = k
    have hk30 : k.toNat ≤ 30 := by rw [← hk]; split <;> omega
    refine turns_range k.toNat (fun i σ H' => ∃ y, σ = [some (.int e), some (.int (2 ^ i)), y] ∧ i ≤ k.toNat ∧ H' = H) ⟨_, by rw [Int.pow_zero]; rfl, Nat.zero_le _, rfl⟩ ?_ ?_
    · rintro i σ H' hi ⟨y, rfl, _, rfl⟩
      refine gg_name 2 ?_ sc_doubled.nd
      refine ss_cons (s_aug 1 rfl ?_ sc_doubled.nd)
      walk_at "go"
      refine io_mul (.inr ⟨by omega, by omega⟩) ?_
      walk_at "go"
      exact ⟨_, by rw [Int.pow_succ]; rfl, hi, rfl⟩
    · rintro σ H' ⟨y, rfl, _, rfl⟩
      walk_at "go"
      refine cc_min rfl ?_
      have : dbl e = (if 1000000000 < (2 : Int) ^ k.toNat then 1000000000 else 2 ^ k.toNat) := by unfold dbl capm CAPc; rw [hk]
      rw [this] at q; exact q
/-- the program's own words of the weight -/
theorem pw_words {n : Int} {φ : F} : pw n φ = (if wordOf φ = "lfp" then n ^ (ovars φ).length * n ^ (ovars φ).length else if wordOf φ = "pfp" then dbl (n ^ (ovars φ).length) * n ^ (ovars φ).length else if wordOf φ = "guess" then pw n φ else n ^ (ovars φ).length) := by
  cases φ with
  | fix l nm vs f args =>
    cases l
    · rw [if_neg (by simp only [wordOf, fW]; decide +kernel), if_pos (by simp only [wordOf, fW]; decide +kernel)]; rfl
    · rw [if_pos (by simp only [wordOf, fW]; decide +kernel)]; rfl
  | guess nm k f => rw [if_neg (by simp only [wordOf]; decide +kernel), if_neg (by simp only [wordOf]; decide +kernel), if_pos (by simp only [wordOf])]
  | join s fs => cases s <;> (rw [if_neg (by simp only [wordOf, jW]; decide +kernel), if_neg (by simp only [wordOf, jW]; decide +kernel), if_neg (by simp only [wordOf, jW]; decide +kernel)]; simp [pw, ovars])
  | quant s vs f => cases s <;> (rw [if_neg (by simp only [wordOf, qW]; decide +kernel), if_neg (by simp only [wordOf, qW]; decide +kernel), if_neg (by simp only [wordOf, qW]; decide +kernel)]; rfl)
  | tc vs f args => rw [if_neg (by simp only [wordOf]; decide +kernel), if_neg (by simp only [wordOf]; decide +kernel), if_neg (by simp only [wordOf]; decide +kernel)]; rfl
  | _ => rw [if_neg (by simp only [wordOf]; decide +kernel), if_neg (by simp only [wordOf]; decide +kernel), if_neg (by simp only [wordOf]; decide +kernel)]; simp [pw, ovars]
theorem word_guess {φ : F} (h : wordOf φ = "guess") : ∃ nm k f, φ = .guess nm k f := by
  cases φ with
  | guess nm k f => exact ⟨nm, k, f, rfl⟩
  | join s fs => cases s <;> exact absurd h (by simp only [wordOf, jW]; decide +kernel)
  | quant s vs f => cases s <;> exact absurd h (by simp only [wordOf, qW]; decide +kernel)
  | fix l nm vs f args => cases l <;> exact absurd h (by simp only [wordOf, fW]; decide +kernel)
  | _ => exact absurd h (by simp only [wordOf]; decide +kernel)
theorem pow_le_256 {n : Int} (h1 : 1 ≤ n) (h2 : n ≤ 4) {k : Nat} (hk : k ≤ 3) : 1 ≤ n ^ k ∧ n ^ k ≤ 64 := by
  have p := pow_pos' h1
  refine ⟨p k, ?_⟩
  have m : ∀ {a b c d : Int}, 1 ≤ a → 1 ≤ c → a ≤ b → c ≤ d → a * c ≤ b * d := fun ha hc hb hd => Int.mul_le_mul hb hd (by omega) (by omega)
  have p2 : n ^ 2 ≤ 16 := by have := m h1 h1 h2 h2; rw [Int.pow_succ, Int.pow_succ, Int.pow_zero, Int.one_mul]; omega
  have p3 : n ^ 3 ≤ 64 := by have := m (p 2) h1 p2 h2; rw [Int.pow_succ]; omega
  have : k = 0 ∨ k = 1 ∨ k = 2 ∨ k = 3 := by omega
  rcases this with e | e | e | e <;> subst e
  · rw [Int.pow_zero]; omega
  · rw [Int.pow_succ, Int.pow_zero, Int.one_mul]; omega
  · omega
  · exact p3
def spCost (K : PySem.W.Frag) (d : Nat) : Sp := fun vs H Q _ => ∃ v φ, ∃ n : Int, vs = [v, .int n] ∧ FmAt K H φ v ∧ depth φ ≤ d ∧ Wf φ ∧ 1 ≤ n ∧ n ≤ 4 ∧ ∀ H', Ex K H H' → Q (.int (pcost n φ)) H'
theorem ints_of {n : Int} {φ : F} {ys us : List V} {H : Hp} (hus : FmsAt K H (kids φ) us) (hl : ys.length = us.length) (h : ∀ (j : Nat) (y : V), ys[j]? = some y → ∃ g, (kids φ)[j]? = some g ∧ y = V.int (pcost n g)) : ys = ((kids φ).map (pcost n)).map V.int := by
  have hk := (fmsAt_get hus).1
  refine List.ext_getElem? fun j => ?_
  by_cases hj : j < ys.length
  · obtain ⟨g, hg, e⟩ := h j _ (List.getElem?_eq_getElem hj)
    rw [List.getElem?_map, List.getElem?_map, hg, List.getElem?_eq_getElem hj, e]; rfl
  · rw [List.getElem?_eq_none (by omega), List.getElem?_eq_none (by simp; omega)]
theorem dn_cost_of (T : Top K mg "cost_of" s_cost_of) (G : Gs K mg) (DI : Dn w K mg base "inner" 1 (spInner K)) (DV : Dn w K mg base "own_variables" 1 (spOVars K)) (DP : Dn w K mg base "power" 1 spPower) (DD : Dn w K mg base "doubled" 1 spDoubled) :
    ∀ d, Dn w K mg base "cost_of" (d + 2) (spCost K d) := by
  intro d
  induction d with
  | zero =>
    refine T.dn sc_cost_of (fun vs H Q E h => ?_) (fun _ _ _ _ _ _ us hl => match us, hl with | [_, _], _ => rfl) (fun f cd A outer s H vs Q E hr h => ?_)
    · obtain ⟨v, φ, n, rfl, _⟩ := h; rfl
    · obtain ⟨v, φ, n, rfl, _, hd, _⟩ := h
      have := depth_pos φ; omega
  | succ d ih =>
    refine T.dn sc_cost_of (fun vs H Q E h => ?_) (fun _ _ _ _ _ _ us hl => match us, hl with | [_, _], _ => rfl) (fun f cd A outer s H vs Q E hr h => ?_)
    · obtain ⟨v, φ, n, rfl, _⟩ := h; rfl
    · obtain ⟨v, φ, n, rfl, hF, hd, hw, n1, n4, q⟩ := h
      obtain ⟨tc, hCAP⟩ := G.c_CAP
      refine ss_cons (s_set 2 ?_ sc_cost_of.nd)
      refine ee_callB (x := "sum") G.z_sum bt_sum ?_
      refine aa_cons ?_
      refine ee_lc [("part", 5)] N_cost_of (defScope s_cost_of) rfl sc_cost_of.nd (ii_tup ?_)
      refine ee_call DI rfl (hr.mono (by omega)) ?_
      walk_at "ge"
      refine ⟨_, φ, rfl, hF, fun H1 b us e1 hb hus => ?_⟩
      refine rq ⟨⟨_, hb⟩, fun L hL => ?_⟩
      have hk := (fmsAt_get hus).1
      have hk3 : (kids φ).length ≤ 3 := by obtain ⟨Γ, _, h2⟩ := hw; exact h2.few
      refine lt_mapT (K := K) us (fun j y _ => ∃ g, (kids φ)[j]? = some g ∧ y = .int (pcost n g)) (fun _ _ _ _ _ h => h) hL hb (by omega) (fun ys H h => nd_noref fun x hx a e => ?_) ?_ ?_
      · obtain ⟨j, hj⟩ := List.mem_iff_getElem?.mp hx
        obtain ⟨g, _, z⟩ := h j x hj
        rw [e] at z; cases z
      · intro i x H2 hx e2 s0 H0 C cl fp
        obtain ⟨g, hg, hgx⟩ := (fmsAt_get hus).2 i x hx
        have hgk := List.mem_of_getElem? hg
        refine gg_name 5 ?_ sc_cost_of.nd
        refine ⟨rfl, Ex.refl, ?_⟩
        intro s1 H01 C1 cl1 fp1
        refine ee_call ih rfl hr ?_
        walk_at "ge"
        exact ⟨x, g, n, rfl, fmAt_mono e2.tex _ _ hgx, by have := depth_kid hgk; omega, hw.kid hgk, n1, n4, fun H3 e3 => ⟨e3, g, hg, rfl⟩⟩
      · intro ys H2 e2 hL2 hlen hys
        refine aa_nil ?_
        have ey := ints_of hus hlen hys
        rw [ey] at hL2
        refine cc_sum rfl (SqL.of hL2) ?_
        have e12 := e1.trans e2
        have hsum : ((kids φ).map (pcost n)).sum = costGs (pw n) (kids φ) := (costGs_sum _ _).symm
        rw [hsum]
        generalize hS : costGs (pw n) (kids φ) = S
        obtain ⟨a, xs, rfl, ha⟩ := fmAt_tup hF
        have ha2 := e12.t ha
        refine ss_cons (s_set 3 ?_ sc_cost_of.nd)
        walk_at "ge"
        refine ss_cons (s_set 4 ?_ sc_cost_of.nd)
        refine ee_call DP rfl (hr.mono (by omega)) ?_
        walk_at "ge"
        refine ee_call DV rfl (hr.mono (by omega)) ?_
        walk_at "ge"
        refine ⟨_, φ, rfl, fmAt_mono e12.tex _ _ hF, fun H3 bv e3 hbv => ?_⟩
        walk_at "ge"
        have hv3 := hw.vars.1
        rw [List.length_map]
        have hp := pow_le_256 n1 n4 hv3
        refine ⟨n, _, rfl, by omega, by omega, by omega, ?_⟩
        have ha3 := e3.t ha2
        have hdc := dbl_cap (n ^ (ovars φ).length)
        have hdp := dbl_pos (n ^ (ovars φ).length)
        have fin : ∀ H4, Ex K H3 H4 → ∀ t : Int, t = pw n φ * S → ∀ σ4 : L2.St, σ4[2]? = some (some (.int t)) → SS (Cxd w K mg base N_cost_of "cost_of" s_cost_of f cd A outer s H E) ((defBody s_cost_of).drop 4) { nx := fun _ H' => Q .non H', rt := Q } σ4 H4 := fun H4 e4 t et σ4 hσ => by
          refine ss_cons (s_ret ?_)
          refine ee_callB (x := "min") G.z_min bt_min ?_
          refine aa_cons (ee_bin (ee_int (ee_var 2 hσ ?_)))
          walk_at "ge"
          refine cc_min rfl ?_
          have e5 : pcost n φ = (if (1000000000 : Int) < 1 + t then 1000000000 else 1 + t) := by
            show costG (pw n) φ = _
            rw [costG_eq, hS, et]; rfl
          have := q H4 ((e12.trans e3).trans e4)
          rw [e5] at this; exact this
        refine ss_cons (s_if ?_)
        walk_at "ge"
        have hpw := pw_words (n := n) (φ := φ)
        refine if_d (fun e => ?_) (fun e => ?_)
        · rw [if_pos e] at hpw
          refine ss_cons (s_set 2 ?_ sc_cost_of.nd)
          walk_at "ge"
          refine oo_mul (.inl ⟨by omega, by omega⟩) ?_
          walk_at "ge"
          have m := Int.mul_le_mul hp.2 hp.2 (by omega) (by omega)
          have m2 := mm1 hp.1 hp.1
          refine oo_mul (.inl ⟨by omega, by omega⟩) ?_
          refine ss_nil ?_
          exact fin _ Ex.refl _ (by rw [hpw]) _ rfl
        · rw [if_neg e] at hpw
          refine ss_cons (s_if ?_)
          walk_at "ge"
          refine if_d (fun e => ?_) (fun e => ?_)
          · rw [if_pos e] at hpw
            refine ss_cons (s_set 2 ?_ sc_cost_of.nd)
            refine ee_bin (ee_bin ?_)
            refine ee_call DD rfl (hr.mono (by omega)) ?_
            walk_at "ge"
            refine ⟨by omega, by omega, ?_⟩
            walk_at "ge"
            unfold CAPc at hdc
            refine oo_mul (.inl ⟨by omega, by omega⟩) ?_
            walk_at "ge"
            have m := Int.mul_le_mul hdc hp.2 (by omega) (by omega)
            have m2 := mm1 hdp hp.1
            refine oo_mul (.inl ⟨by omega, by omega⟩) ?_
            walk_at "ge"
            refine ss_nil (ss_nil ?_)
            exact fin _ Ex.refl _ (by rw [hpw]) _ rfl
          · rw [if_neg e] at hpw
            refine ss_cons (s_if ?_)
            walk_at "ge"
            refine if_d (fun e => ?_) (fun e => ?_)
            · obtain ⟨nm, k, g, rfl⟩ := word_guess e
              obtain ⟨a', u, ea, g1, g2⟩ := hF
              cases ea
              have g1' := (e12.trans e3).t g1
              have hk1 : k ≤ 1 := by obtain ⟨Γ, _, h2⟩ := hw; simp only [WF] at h2; exact h2.2.1
              have hp' := pow_le_256 n1 n4 (k := k) (by omega)
              refine ss_cons (s_set 2 ?_ sc_cost_of.nd)
              refine ee_bin ?_
              refine ee_call DD rfl (hr.mono (by omega)) ?_
              refine aa_cons ?_
              refine ee_call DP rfl (hr.mono (by omega)) ?_
              walk_at "ge"
              refine ⟨n, k, rfl, by omega, by omega, by omega, ?_⟩
              walk_at "ge"
              refine ⟨by omega, by omega, ?_⟩
              walk_at "ge"
              have hdc' := dbl_cap (n ^ k)
              have hdp' := dbl_pos (n ^ k)
              unfold CAPc at hdc'
              refine oo_mul (.inl ⟨by omega, by omega⟩) ?_
              refine ss_nil (ss_nil (ss_nil ?_))
              exact fin _ Ex.refl _ rfl _ rfl
            · rw [if_neg e] at hpw
              refine ss_cons (s_set 2 ?_ sc_cost_of.nd)
              walk_at "ge"
              refine oo_mul (.inl ⟨by omega, by omega⟩) ?_
              refine ss_nil (ss_nil (ss_nil ?_))
              exact fin _ Ex.refl _ (by rw [hpw]) _ rfl
end
end Sy
namespace Sy
section
variable {w : World} {K : PySem.W.Frag} {mg : Str → Option Value} {base : Heap}
theorem word_tc {φ : F} (h : ∀ vs f args, φ ≠ .tc vs f args) : ¬ wordOf φ = "tc" := by
  cases φ with
  | tc vs f args => exact absurd rfl (h vs f args)
  | join s fs => cases s <;> (simp only [wordOf, jW]; decide +kernel)
  | quant s vs f => cases s <;> (simp only [wordOf, qW]; decide +kernel)
  | fix l nm vs f args => cases l <;> (simp only [wordOf, fW]; decide +kernel)
  | _ => simp only [wordOf]; decide +kernel
def spWide (K : PySem.W.Frag) (d : Nat) : Sp := fun vs H Q _ => ∃ v φ, ∃ n : Int, vs = [v, .int n] ∧ FmAt K H φ v ∧ depth φ ≤ d ∧ Wf φ ∧ 1 ≤ n ∧ n ≤ 4 ∧ lcost n φ ≤ 20000 ∧ ∀ H', Ex K H H' → Q (.bl false) H'
theorem dn_is_wide (T : Top K mg "is_wide" s_is_wide) (G : Gs K mg) (DI : Dn w K mg base "inner" 1 (spInner K)) (DP : Dn w K mg base "power" 1 spPower) : ∀ d, Dn w K mg base "is_wide" (d + 2) (spWide K d) := by
  intro d
  induction d with
  | zero =>
    refine T.dn sc_is_wide (fun vs H Q E h => ?_) (fun _ _ _ _ _ _ us hl => match us, hl with | [_, _], _ => rfl) (fun f cd A outer s H vs Q E hr h => ?_)
    · obtain ⟨v, φ, n, rfl, _⟩ := h; rfl
    · obtain ⟨v, φ, n, rfl, _, hd, _⟩ := h
      have := depth_pos φ; omega
  | succ d ih =>
    refine T.dn sc_is_wide (fun vs H Q E h => ?_) (fun _ _ _ _ _ _ us hl => match us, hl with | [_, _], _ => rfl) (fun f cd A outer s H vs Q E hr h => ?_)
    · obtain ⟨v, φ, n, rfl, _⟩ := h; rfl
    · obtain ⟨v, φ, n, rfl, hF, hd, hw, n1, n4, hc, q⟩ := h
      obtain ⟨tt, hTUP⟩ := G.c_TUPLES
      obtain ⟨tf, hFEW⟩ := G.c_FEW
      obtain ⟨a, xs, rfl, ha⟩ := fmAt_tup hF
      have hN : Narrow n φ := narrow_of n1 n4 hc fun nm k g e => by
        subst e; obtain ⟨Γ, _, h2⟩ := hw; simp only [WF] at h2; exact h2.2.1
      have hkids := (lcost_small n1 hc).1
      have hv3 := hw.vars.1
      have fin : SS (Cxd w K mg base N_is_wide "is_wide" s_is_wide f cd A outer s H E) ((defBody s_is_wide).drop 5) { nx := fun _ H' => Q .non H', rt := Q } [some (.ref a), some (.int n), some (.str (wordOf φ)), none] H := by
        refine ss_cons (s_forT PassesOwn.never rfl (ii_tup ?_))
        refine ee_call DI rfl (hr.mono (by omega)) ?_
        walk_at "ge"
        refine ⟨_, φ, rfl, hF, fun H2 b us e2 hb hus => ?_⟩
        refine rq ⟨⟨_, hb⟩, ?_⟩
        refine turns_tup us (fun i σ H' => ∃ y, σ = [some (.ref a), some (.int n), some (.str (wordOf φ)), y] ∧ Ex K H2 H') ⟨_, rfl, Ex.refl⟩ (fun i σ H' _ ⟨_, _, e⟩ => e.t hb) ?_ ?_
        · rintro i x σ H' hx ⟨y, rfl, e3⟩
          obtain ⟨g, hg, hgx⟩ := kids_get hus hx
          refine gg_name 3 ?_ sc_is_wide.nd
          refine ss_cons (s_if (bb_val ?_))
          refine ee_call ih rfl hr ?_
          walk_at "ge"
          refine ⟨x, g, n, rfl, fmAt_mono e3.tex _ _ hgx, by have := depth_kid hg; omega, hw.kid hg, n1, n4, hkids g hg, fun H3 e4 => ?_⟩
          walk_at "go"
          exact ⟨_, rfl, e3.trans e4⟩
        · rintro σ H' ⟨y, rfl, e3⟩
          walk_at "go"
          exact q _ (e2.trans e3)
      refine ss_cons (s_set 2 ?_ sc_is_wide.nd)
      walk_at "ge"
      have step1 : (∀ nm vs f args, φ ≠ .fix true nm vs f args) → ¬ wordOf φ = "lfp" := word_lfp
      by_cases hoth : (∀ l nm vs g args, φ ≠ .fix l nm vs g args) ∧ (∀ vs g args, φ ≠ .tc vs g args) ∧ (∀ nm k g, φ ≠ .guess nm k g)
      · obtain ⟨o1, o2, o3⟩ := hoth
        have w1 := word_lfp (φ := φ) (fun nm vs f args => o1 true nm vs f args)
        have w2 := word_tc (φ := φ) o2
        have w3 := word_pfp (φ := φ) (fun nm vs f args => o1 false nm vs f args)
        have hgu : ¬ ∃ nm k f, φ = .guess nm k f := fun ⟨nm, k, f, z⟩ => o3 nm k f z
        refine ss_cons (s_if ?_)
        walk_at "ge"
        refine if_f (decide_eq_false w1) ?_
        refine if_ff (ss_nil (ss_cons (s_if ?_)))
        walk_at "ge"
        refine if_f (decide_eq_false w2) ?_
        refine if_ff (ss_nil (ss_cons (s_if ?_)))
        walk_at "ge"
        refine if_f (decide_eq_false w3) ?_
        refine if_ff (ss_nil (ss_cons (s_if ?_)))
        walk_at "ge"
        refine if_f (decide_eq_false fun z => by obtain ⟨nm, k, f', z⟩ := word_guess z; exact hgu ⟨nm, k, f', z⟩) ?_
        refine if_ff (ss_nil ?_)
        exact fin
      cases φ with
      | fix l nm vs g args =>
        obtain ⟨a', b, c, u, ea, g1, g2, g3, g4⟩ := hF
        cases ea
        simp only [ovars] at hv3
        have hp := pow_le_256 n1 n4 hv3
        cases l
        · simp only [Narrow] at hN
          have w1 : ¬ wordOf (Fm.fix false nm vs g args : F) = "lfp" := by simp only [wordOf, fW]; decide +kernel
          have w2 : ¬ wordOf (Fm.fix false nm vs g args : F) = "tc" := by simp only [wordOf, fW]; decide +kernel
          have w3 : ¬ wordOf (Fm.fix false nm vs g args : F) = "guess" := by simp only [wordOf, fW]; decide +kernel
          have w4 : ¬ wordOf (Fm.fix false nm vs g args : F) = "guess" := by simp only [wordOf, fW]; decide +kernel
          refine ss_cons (s_if ?_)
          walk_at "ge"
          refine if_f (decide_eq_false (by first | exact w1 | exact w2 | exact w3 | exact w4)) ?_
          refine if_ff (ss_nil (ss_cons (s_if ?_)))
          walk_at "ge"
          refine if_f (decide_eq_false (by first | exact w1 | exact w2 | exact w3 | exact w4)) ?_
          refine if_ff (ss_nil (ss_cons (s_if ?_)))
          walk_at "ge"
          try refine if_t (by exact decide_eq_true rfl) ?_
          walk_at "ge"
          refine ee_call DP rfl (hr.mono (by omega)) ?_
          walk_at "ge"
          rw [List.length_map]
          refine ⟨n, _, rfl, by omega, by omega, by omega, ?_⟩
          walk_at "ge"
          refine if_f (decide_eq_false (by omega)) ?_
          refine ss_nil (ss_cons (s_if ?_))
          walk_at "ge"
          refine if_f (decide_eq_false (by first | exact w1 | exact w2 | exact w3 | exact w4)) ?_
          refine if_ff (ss_nil ?_)
          exact fin
        · simp only [Narrow] at hN
          have w1 : ¬ wordOf (Fm.fix true nm vs g args : F) = "pfp" := by simp only [wordOf, fW]; decide +kernel
          have w2 : ¬ wordOf (Fm.fix true nm vs g args : F) = "tc" := by simp only [wordOf, fW]; decide +kernel
          have w3 : ¬ wordOf (Fm.fix true nm vs g args : F) = "guess" := by simp only [wordOf, fW]; decide +kernel
          have w4 : ¬ wordOf (Fm.fix true nm vs g args : F) = "guess" := by simp only [wordOf, fW]; decide +kernel
          refine ss_cons (s_if ?_)
          walk_at "ge"
          try refine if_t (by exact decide_eq_true rfl) ?_
          walk_at "ge"
          refine ee_call DP rfl (hr.mono (by omega)) ?_
          walk_at "ge"
          rw [List.length_map]
          refine ⟨n, _, rfl, by omega, by omega, by omega, ?_⟩
          walk_at "ge"
          refine if_f (decide_eq_false (by omega)) ?_
          refine ss_nil (ss_cons (s_if ?_))
          walk_at "ge"
          refine if_f (decide_eq_false (by first | exact w1 | exact w2 | exact w3 | exact w4)) ?_
          refine if_ff (ss_nil (ss_cons (s_if ?_)))
          walk_at "ge"
          refine if_f (decide_eq_false (by first | exact w1 | exact w2 | exact w3 | exact w4)) ?_
          refine if_ff (ss_nil (ss_cons (s_if ?_)))
          walk_at "ge"
          refine if_f (decide_eq_false (by first | exact w1 | exact w2 | exact w3 | exact w4)) ?_
          refine if_ff (ss_nil ?_)
          exact fin
      | tc vs g args =>
        obtain ⟨a', b, c, u, ea, g1, g2, g3, g4⟩ := hF
        cases ea
        simp only [ovars] at hv3
        have hp := pow_le_256 n1 n4 (k := vs.length / 2) (by omega)
        have w1 : ¬ wordOf (Fm.tc vs g args : F) = "lfp" := by simp only [wordOf, fW]; decide +kernel
        have w2 : ¬ wordOf (Fm.tc vs g args : F) = "pfp" := by simp only [wordOf, fW]; decide +kernel
        have w3 : ¬ wordOf (Fm.tc vs g args : F) = "guess" := by simp only [wordOf, fW]; decide +kernel
        have w4 : ¬ wordOf (Fm.tc vs g args : F) = "guess" := by simp only [wordOf, fW]; decide +kernel
        refine ss_cons (s_if ?_)
        walk_at "ge"
        refine if_f (decide_eq_false (by first | exact w1 | exact w2 | exact w3 | exact w4)) ?_
        refine if_ff (ss_nil (ss_cons (s_if ?_)))
        walk_at "ge"
        try refine if_t (by exact decide_eq_true rfl) ?_
        walk_at "ge"
        refine ee_call DP rfl (hr.mono (by omega)) ?_
        walk_at "ge"
        refine oo_fdiv (by omega) (by omega) ?_
        walk_at "ge"
        rw [List.length_map]
        have e2 : ((vs.length : Int) / 2) = ((vs.length / 2 : Nat) : Int) := by omega
        rw [e2]
        refine ⟨n, _, rfl, by omega, by omega, by omega, ?_⟩
        walk_at "ge"
        refine if_f (decide_eq_false (by omega)) ?_
        refine ss_nil (ss_cons (s_if ?_))
        walk_at "ge"
        refine if_f (decide_eq_false (by first | exact w1 | exact w2 | exact w3 | exact w4)) ?_
        refine if_ff (ss_nil (ss_cons (s_if ?_)))
        walk_at "ge"
        refine if_f (decide_eq_false (by first | exact w1 | exact w2 | exact w3 | exact w4)) ?_
        refine if_ff (ss_nil ?_)
        exact fin
      | guess nm k g =>
        obtain ⟨a', u, ea, g1, g2⟩ := hF
        cases ea
        have hk1 : k ≤ 1 := by obtain ⟨Γ, _, h2⟩ := hw; simp only [WF] at h2; exact h2.2.1
        simp only [Narrow] at hN
        have w1 : ¬ wordOf (Fm.guess nm k g : F) = "lfp" := by simp only [wordOf, fW]; decide +kernel
        have w2 : ¬ wordOf (Fm.guess nm k g : F) = "pfp" := by simp only [wordOf, fW]; decide +kernel
        have w3 : ¬ wordOf (Fm.guess nm k g : F) = "tc" := by simp only [wordOf, fW]; decide +kernel
        have w4 : ¬ wordOf (Fm.guess nm k g : F) = "tc" := by simp only [wordOf, fW]; decide +kernel
        refine ss_cons (s_if ?_)
        walk_at "ge"
        refine if_f (decide_eq_false (by first | exact w1 | exact w2 | exact w3 | exact w4)) ?_
        refine if_ff (ss_nil (ss_cons (s_if ?_)))
        walk_at "ge"
        refine if_f (decide_eq_false (by first | exact w1 | exact w2 | exact w3 | exact w4)) ?_
        refine if_ff (ss_nil (ss_cons (s_if ?_)))
        walk_at "ge"
        refine if_f (decide_eq_false (by first | exact w1 | exact w2 | exact w3 | exact w4)) ?_
        refine if_ff (ss_nil (ss_cons (s_if ?_)))
        walk_at "ge"
        try refine if_t (by exact decide_eq_true rfl) ?_
        walk_at "ge"
        refine ee_call DP rfl (hr.mono (by omega)) ?_
        walk_at "ge"
        refine ⟨n, _, rfl, by omega, by omega, by omega, ?_⟩
        walk_at "ge"
        refine if_f (decide_eq_false (by omega)) ?_
        refine ss_nil ?_
        exact fin
      | _ => exact (hoth ⟨(fun _ _ _ _ _ z => nomatch z), (fun _ _ _ z => nomatch z), (fun _ _ _ z => nomatch z)⟩).elim
end
end Sy
namespace Sy
section
variable {w : World} {K : PySem.W.Frag} {mg : Str → Option Value} {base : Heap}
/-- x in [..] of texts, the list just made -/
theorem in_new {X : Cx} {es : List Expr} {pos : Pos} {σ : L2.St} {H : Hp} {z : Str} {ss : List Str} {Q : VK} (h : ∀ p, H p = none → Q (.bl (decide (z ∈ ss))) (upd H p (.lst (ss.map V.str)))) (hl : ss.length ≤ 1000)
    (ha : AA X es σ H fun xs H1 => xs = ss.map V.str ∧ H1 = H) : EE X (.List es pos) σ H fun y H2 => CO X .In (.str z) y H2 Q := by
  refine ee_lst ?_
  refine ⟨fun pos pins s I => thn (ha.run pos pins s I) fun us s' ⟨vs, H', I', r, e1, e2⟩ => ⟨vs, H', I', r, ?_⟩⟩
  subst e1; subst e2
  refine ⟨by rw [List.length_map]; exact szk hl, fun p hp => ?_⟩
  exact oo_inL (SqL.of upd_same) (h p hp)
theorem word_q {φ : F} (h : wordOf φ ∈ (["some", "all", "tc"] : List Str)) : (∃ s vs f, φ = .quant s vs f) ∨ ∃ vs f args, φ = .tc vs f args := by
  cases φ with
  | quant s vs f => exact .inl ⟨s, vs, f, rfl⟩
  | tc vs f args => exact .inr ⟨vs, f, args, rfl⟩
  | join s fs => cases s <;> exact absurd h (by simp only [wordOf, jW]; decide +kernel)
  | fix l nm vs f args => cases l <;> exact absurd h (by simp only [wordOf, fW]; decide +kernel)
  | _ => exact absurd h (by simp only [wordOf]; decide +kernel)
theorem word_f {φ : F} (h : wordOf φ ∈ (["lfp", "pfp", "guess"] : List Str)) : (∃ l nm vs f args, φ = .fix l nm vs f args) ∨ ∃ nm k f, φ = .guess nm k f := by
  cases φ with
  | fix l nm vs f args => exact .inl ⟨l, nm, vs, f, args, rfl⟩
  | guess nm k f => exact .inr ⟨nm, k, f, rfl⟩
  | join s fs => cases s <;> exact absurd h (by simp only [wordOf, jW]; decide +kernel)
  | quant s vs f => cases s <;> exact absurd h (by simp only [wordOf, qW]; decide +kernel)
  | _ => exact absurd h (by simp only [wordOf]; decide +kernel)
theorem word_fx {φ : F} (h : wordOf φ ∈ (["lfp", "pfp"] : List Str)) : ∃ l nm vs f args, φ = .fix l nm vs f args := by
  cases φ with
  | fix l nm vs f args => exact ⟨l, nm, vs, f, args, rfl⟩
  | join s fs => cases s <;> exact absurd h (by simp only [wordOf, jW]; decide +kernel)
  | quant s vs f => cases s <;> exact absurd h (by simp only [wordOf, qW]; decide +kernel)
  | _ => exact absurd h (by simp only [wordOf]; decide +kernel)
theorem word_n {φ : F} (h : wordOf φ = "not") : ∃ f, φ = .not f := Classical.byContradiction fun z => word_not (fun f e => z ⟨f, e⟩) h
theorem word_j {φ : F} (h : wordOf φ = "and" ∨ wordOf φ = "or") : ∃ s fs, φ = .join s fs := by
  cases φ with
  | join s fs => exact ⟨s, fs, rfl⟩
  | quant s vs f => cases s <;> exact absurd h (by simp only [wordOf, qW]; decide +kernel)
  | fix l nm vs f args => cases l <;> exact absurd h (by simp only [wordOf, fW]; decide +kernel)
  | _ => exact absurd h (by simp only [wordOf]; decide +kernel)
theorem kids_nil {φ : F} (h1 : ¬ wordOf φ = "not") (h2 : ¬ wordOf φ = "and") (h3 : ¬ wordOf φ = "or") (h4 : wordOf φ ∉ (["some", "all", "tc"] : List Str)) (h5 : wordOf φ ∉ (["lfp", "pfp", "guess"] : List Str)) : kids φ = [] := by
  cases φ with
  | not f => exact absurd rfl h1
  | join s fs => cases s <;> first | exact absurd rfl h2 | exact absurd rfl h3
  | quant s vs f => cases s <;> exact absurd (by simp only [wordOf, qW]; decide +kernel) h4
  | fix l nm vs f args => cases l <;> exact absurd (by simp only [wordOf, fW]; decide +kernel) h5
  | tc vs f args => exact absurd (by simp only [wordOf]; decide +kernel) h4
  | guess nm k f => exact absurd (by simp only [wordOf]; decide +kernel) h5
  | _ => rfl
def spLParts (K : PySem.W.Frag) : Sp := fun vs H Q _ => ∃ v φ, vs = [v] ∧ FmAt K H φ v ∧ ∀ H' b us, Ex K H H' → H' b = some (.lst us) → NotDraw (.lst us) → FmsAt K H' (kids φ) us → Q (.ref b) H'
theorem fm_ref {H : Hp} {f : F} {v : V} (h : FmAt K H f v) : ∃ a, v = .ref a := let ⟨a, _, e, _⟩ := fmAt_tup h; ⟨a, e⟩
theorem fms_nd {H : Hp} {fs : List F} {us : List V} (h : FmsAt K H fs us) : NotDraw (.lst us) := nd_allref fun x hx => by
  obtain ⟨i, hi⟩ := List.mem_iff_getElem?.mp hx
  obtain ⟨f, _, q⟩ := (fmsAt_get h).2 i x hi
  exact fm_ref q
theorem dn_law_parts (T : Top K mg "_law_parts" s_L_parts) (G : Gs K mg) : Dn w K mg base "_law_parts" 1 (spLParts K) := by
  refine T.dn sc_L_parts (fun vs H Q E h => ?_) (fun _ _ _ _ _ _ us hl => match us, hl with | [_], _ => rfl) (fun f cd A outer s H vs Q E hr h => ?_)
  · obtain ⟨v, φ, rfl, _⟩ := h; rfl
  · obtain ⟨v, φ, rfl, hF, q⟩ := h
    obtain ⟨a, xs, rfl, ha⟩ := fmAt_tup hF
    have one : ∀ (f : F) (u : V) (H1 : Hp), Ex K H H1 → FmAt K H1 f u → kids φ = [f] → ∀ p, H1 p = none → Q (.ref p) (upd H1 p (.lst [u])) := fun f u H1 e hu ek p hp => by
      have hf : FmsAt K (upd H1 p (.lst [u])) (kids φ) [u] := by rw [ek]; exact ⟨u, [], rfl, fmAt_mono (TEx.new hp) _ _ hu, rfl⟩
      exact q _ p [u] (e.trans (Ex.new hp)) upd_same (fms_nd hf) hf
    refine ss_cons (s_if ?_)
    walk_at "ge"
    refine if_d (fun e => ?_) (fun e1 => ?_)
    · obtain ⟨f, rfl⟩ := word_n e
      obtain ⟨a', u, ea, h1, h2⟩ := hF
      cases ea
      walk_at "go"
      exact ⟨szk (by simp), one f u H Ex.refl h2 rfl⟩
    refine ss_nil (ss_cons (s_if ?_))
    have lst : (wordOf φ = "and" ∨ wordOf φ = "or") → SS (Cxd w K mg base N_L_parts "_law_parts" s_L_parts f cd A outer s H E) [((defBody s_L_parts).getD 1 default)] { nx := fun _ H' => Q .non H', rt := Q } (start N_L_parts [.ref a]) H → True := fun _ _ => trivial
    walk_at "ge"
    have jn : (wordOf φ = "and" ∨ wordOf φ = "or") → ∃ b us, SqT K H a [.str (wordOf φ), .ref b] ∧ SqT K H b us ∧ FmsAt K H (kids φ) us := fun h => by
      obtain ⟨s, fs, rfl⟩ := word_j h
      obtain ⟨a', b, us, ea, h1, h2, h3⟩ := hF
      cases ea
      exact ⟨b, us, h1, h2, h3⟩
    have jfin : ∀ b us, SqT K H b us → FmsAt K H (kids φ) us → ∀ l, H l = none → Q (.ref l) (upd H l (.lst us)) := fun b us h2 h3 l hl =>
      q _ l us (Ex.new hl) upd_same (fms_nd h3) (fmsAt_mono (TEx.new hl) h3)
    refine if_d (fun e => ?_) (fun e2 => ?_)
    · obtain ⟨b, us, h1, h2, h3⟩ := jn (.inl e)
      walk_at "go"
      exact cc_listT h2 (jfin b us h2 h3)
    walk_at "ge"
    refine if_d (fun e => ?_) (fun e3 => ?_)
    · obtain ⟨b, us, h1, h2, h3⟩ := jn (.inr e)
      walk_at "go"
      exact cc_listT h2 (jfin b us h2 h3)
    refine ss_nil (ss_cons (s_if ?_))
    refine bb_cmp (ee_ix (ee_var 0 rfl (ee_int (ix_t 0 ha rfl ?_))))
    refine in_new (ss := ["some", "all", "tc"]) (fun p1 hp1 => ?_) (by simp) (by walk_at "ge"; exact ⟨rfl, rfl⟩)
    refine bq ?_
    have x1 : Ex K H (upd H p1 (.lst (List.map V.str ["some", "all", "tc"]))) := Ex.new hp1
    refine if_d (fun e => ?_) (fun e4 => ?_)
    · rcases word_q e with ⟨s, vs, g, rfl⟩ | ⟨vs, g, args, rfl⟩
      · obtain ⟨a', b, u, ea, h1, h2, h3⟩ := hF
        cases ea
        have h1' := x1.t h1
        walk_at "go"
        exact ⟨szk (by simp), one g u _ x1 (fmAt_mono x1.tex _ _ h3) rfl⟩
      · obtain ⟨a', b, c, u, ea, h1, h2, h3, h4⟩ := hF
        cases ea
        have h1' := x1.t h1
        walk_at "go"
        exact ⟨szk (by simp), one g u _ x1 (fmAt_mono x1.tex _ _ h3) rfl⟩
    refine ss_nil (ss_cons (s_if ?_))
    refine bb_cmp (ee_ix (ee_var 0 rfl (ee_int (ix_t 0 (x1.t ha) rfl ?_))))
    refine in_new (ss := ["lfp", "pfp", "guess"]) (fun p2 hp2 => ?_) (by simp) (by walk_at "ge"; exact ⟨rfl, rfl⟩)
    refine bq ?_
    have x2 := x1.trans (Ex.new (K := K) (o := .lst (List.map V.str ["lfp", "pfp", "guess"])) hp2)
    refine if_d (fun e => ?_) (fun e5 => ?_)
    · rcases word_f e with ⟨l, nm, vs, g, args, rfl⟩ | ⟨nm, k, g, rfl⟩
      · obtain ⟨a', b, c, u, ea, h1, h2, h3, h4⟩ := hF
        cases ea
        have h1' := x2.t h1
        walk_at "go"
        exact ⟨szk (by simp), one g u _ x2 (fmAt_mono x2.tex _ _ h3) rfl⟩
      · obtain ⟨a', u, ea, h1, h2⟩ := hF
        cases ea
        have h1' := x2.t h1
        walk_at "go"
        exact ⟨szk (by simp), one g u _ x2 (fmAt_mono x2.tex _ _ h2) rfl⟩
    walk_at "go"
    refine ⟨szk (by simp), fun p hp => ?_⟩
    have ek := kids_nil e1 e2 e3 e4 e5
    exact q _ p [] (x2.trans (Ex.new hp)) upd_same (nd_len (by simp)) (by rw [ek]; rfl)
def spLBound (K : PySem.W.Frag) : Sp := fun vs H Q _ => ∃ v φ, vs = [v] ∧ FmAt K H φ v ∧ ∀ H' b, Ex K H H' → SqS K H' b (ovars φ) → Q (.ref b) H'
theorem ovars_nil {φ : F} (h4 : wordOf φ ∉ (["some", "all", "tc"] : List Str)) (h5 : wordOf φ ∉ (["lfp", "pfp"] : List Str)) : ovars φ = [] := by
  cases φ with
  | quant s vs f => cases s <;> exact absurd (by simp only [wordOf, qW]; decide +kernel) h4
  | fix l nm vs f args => cases l <;> exact absurd (by simp only [wordOf, fW]; decide +kernel) h5
  | tc vs f args => exact absurd (by simp only [wordOf]; decide +kernel) h4
  | _ => rfl
theorem dn_law_bound_here (T : Top K mg "_law_bound_here" s_L_bound_here) (G : Gs K mg) : Dn w K mg base "_law_bound_here" 1 (spLBound K) := by
  refine T.dn sc_L_bound_here (fun vs H Q E h => ?_) (fun _ _ _ _ _ _ us hl => match us, hl with | [_], _ => rfl) (fun f cd A outer s H vs Q E hr h => ?_)
  · obtain ⟨v, φ, rfl, _⟩ := h; rfl
  · obtain ⟨v, φ, rfl, hF, q⟩ := h
    obtain ⟨a, xs, rfl, ha⟩ := fmAt_tup hF
    refine ss_cons (s_if ?_)
    refine bb_cmp (ee_ix (ee_var 0 rfl (ee_int (ix_t 0 ha rfl ?_))))
    refine in_new (ss := ["some", "all", "tc"]) (fun p1 hp1 => ?_) (by simp) (by walk_at "ge"; exact ⟨rfl, rfl⟩)
    refine bq ?_
    have x1 : Ex K H (upd H p1 (.lst (List.map V.str ["some", "all", "tc"]))) := Ex.new hp1
    refine if_d (fun e => ?_) (fun e4 => ?_)
    · rcases word_q e with ⟨s, vs, g, rfl⟩ | ⟨vs, g, args, rfl⟩
      · obtain ⟨a', b, u, ea, h1, h2, h3⟩ := hF
        cases ea
        have h1' := x1.t h1
        walk_at "go"
        exact q _ b x1 (x1.t h2)
      · obtain ⟨a', b, c, u, ea, h1, h2, h3, h4⟩ := hF
        cases ea
        have h1' := x1.t h1
        walk_at "go"
        exact q _ b x1 (x1.t h2)
    refine ss_nil (ss_cons (s_if ?_))
    refine bb_cmp (ee_ix (ee_var 0 rfl (ee_int (ix_t 0 (x1.t ha) rfl ?_))))
    refine in_new (ss := ["lfp", "pfp"]) (fun p2 hp2 => ?_) (by simp) (by walk_at "ge"; exact ⟨rfl, rfl⟩)
    refine bq ?_
    have x2 := x1.trans (Ex.new (K := K) (o := .lst (List.map V.str ["lfp", "pfp"])) hp2)
    refine if_d (fun e => ?_) (fun e5 => ?_)
    · obtain ⟨l, nm, vs, g, args, rfl⟩ := word_fx e
      obtain ⟨a', b, c, u, ea, h1, h2, h3, h4⟩ := hF
      cases ea
      have h1' := x2.t h1
      walk_at "go"
      exact q _ b x2 (x2.t h2)
    walk_at "go"
    refine ⟨szk (by simp), fun p hp => ?_⟩
    refine q _ p (x2.trans (Ex.new hp)) ?_
    rw [ovars_nil e4 e5]; exact SqT.up
end
end Sy
namespace Sy
section
variable {w : World} {K : PySem.W.Frag} {mg : Str → Option Value} {base : Heap}
theorem ints_ofL {n : Int} {φ : F} {ys us : List V} {H : Hp} (hus : FmsAt K H (kids φ) us) (hl : ys.length = us.length) (h : ∀ (j : Nat) (y : V), ys[j]? = some y → ∃ g, (kids φ)[j]? = some g ∧ y = V.int (lcost n g)) : ys = ((kids φ).map (lcost n)).map V.int := by
  have hk := (fmsAt_get hus).1
  refine List.ext_getElem? fun j => ?_
  by_cases hj : j < ys.length
  · obtain ⟨g, hg, e⟩ := h j _ (List.getElem?_eq_getElem hj)
    rw [List.getElem?_map, List.getElem?_map, hg, List.getElem?_eq_getElem hj, e]; rfl
  · rw [List.getElem?_eq_none (by omega), List.getElem?_eq_none (by simp; omega)]
theorem min9 {t : Int} : (if t < 10 ^ (9 : Int).toNat then t else 10 ^ (9 : Int).toNat) = capm t := by
  have e : (10 : Int) ^ (9 : Int).toNat = 1000000000 := by decide
  rw [e]; unfold capm CAPc; split <;> split <;> omega
theorem lw_q {n : Int} {φ : F} (h : wordOf φ ∈ (["some", "all", "tc"] : List Str)) : lw n φ = n ^ (ovars φ).length := by
  rcases word_q h with ⟨s, vs, f, rfl⟩ | ⟨vs, f, args, rfl⟩ <;> rfl
theorem lw_l {n : Int} {φ : F} (h : wordOf φ = "lfp") : lw n φ = n ^ (ovars φ).length * n ^ (ovars φ).length := by
  obtain ⟨nm, vs, f, args, rfl⟩ : ∃ nm vs f args, φ = .fix true nm vs f args := Classical.byContradiction fun z => word_lfp (fun nm vs f args e => z ⟨nm, vs, f, args, e⟩) h
  rfl
theorem lw_p {n : Int} {φ : F} (h : wordOf φ = "pfp") : lw n φ = sh40 (n ^ (ovars φ).length) * n ^ (ovars φ).length := by
  obtain ⟨nm, vs, f, args, rfl⟩ : ∃ nm vs f args, φ = .fix false nm vs f args := Classical.byContradiction fun z => word_pfp (fun nm vs f args e => z ⟨nm, vs, f, args, e⟩) h
  rfl
theorem lw_else {n : Int} {φ : F} (h1 : wordOf φ ∉ (["some", "all", "tc"] : List Str)) (h2 : ¬ wordOf φ = "lfp") (h3 : ¬ wordOf φ = "pfp") (h4 : ¬ wordOf φ = "guess") : lw n φ = 1 := by
  cases φ with
  | quant s vs f => cases s <;> exact absurd (by simp only [wordOf, qW]; decide +kernel) h1
  | fix l nm vs f args => cases l <;> first | exact absurd rfl h2 | exact absurd rfl h3
  | tc vs f args => exact absurd (by simp only [wordOf]; decide +kernel) h1
  | guess nm k f => exact absurd rfl h4
  | _ => rfl
def spLCost (K : PySem.W.Frag) (d : Nat) : Sp := fun vs H Q _ => ∃ v φ, ∃ n : Int, vs = [v, .int n] ∧ FmAt K H φ v ∧ depth φ ≤ d ∧ Wf φ ∧ 1 ≤ n ∧ n ≤ 4 ∧ ∀ H', Ex K H H' → Q (.int (lcost n φ)) H'
theorem dn_law_cost (T : Top K mg "_law_cost" s_L_cost) (G : Gs K mg) (DI : Dn w K mg base "_law_parts" 1 (spLParts K)) (DV : Dn w K mg base "_law_bound_here" 1 (spLBound K)) : ∀ d, Dn w K mg base "_law_cost" (d + 2) (spLCost K d) := by
  intro d
  induction d with
  | zero =>
    refine T.dn sc_L_cost (fun vs H Q E h => ?_) (fun _ _ _ _ _ _ us hl => match us, hl with | [_, _], _ => rfl) (fun f cd A outer s H vs Q E hr h => ?_)
    · obtain ⟨v, φ, n, rfl, _⟩ := h; rfl
    · obtain ⟨v, φ, n, rfl, _, hd, _⟩ := h
      have := depth_pos φ; omega
  | succ d ih =>
    refine T.dn sc_L_cost (fun vs H Q E h => ?_) (fun _ _ _ _ _ _ us hl => match us, hl with | [_, _], _ => rfl) (fun f cd A outer s H vs Q E hr h => ?_)
    · obtain ⟨v, φ, n, rfl, _⟩ := h; rfl
    · obtain ⟨v, φ, n, rfl, hF, hd, hw, n1, n4, q⟩ := h
      obtain ⟨a, xs, rfl, ha⟩ := fmAt_tup hF
      refine ss_cons (s_set 2 ?_ sc_L_cost.nd)
      refine ee_callB (x := "sum") G.z_sum bt_sum ?_
      refine aa_cons ?_
      refine ee_lc [("_law_part", 6)] N_L_cost (defScope s_L_cost) rfl sc_L_cost.nd (ii_list ?_)
      refine ee_call DI rfl (hr.mono (by omega)) ?_
      walk_at "ge"
      refine ⟨_, φ, rfl, hF, fun H1 b us e1 hb ndu hus => ?_⟩
      refine rq ⟨⟨_, SqL.of hb⟩, fun L hL => ?_⟩
      have hk3 : (kids φ).length ≤ 3 := by obtain ⟨Γ, _, h2⟩ := hw; exact h2.few
      have hk := (fmsAt_get hus).1
      refine lt_mapL (K := K) us (fun j y _ => ∃ g, (kids φ)[j]? = some g ∧ y = .int (lcost n g)) (fun _ _ _ _ _ h => h) hL (SqL.of hb) ndu (by omega) (fun ys H h => nd_noref fun x hx a e => ?_) ?_ ?_
      · obtain ⟨j, hj⟩ := List.mem_iff_getElem?.mp hx
        obtain ⟨g, _, z⟩ := h j x hj
        rw [e] at z; cases z
      · intro i x H2 hx e2 s0 H0 C cl fp
        obtain ⟨g, hg, hgx⟩ := (fmsAt_get hus).2 i x hx
        have hgk := List.mem_of_getElem? hg
        refine gg_name 6 ?_ sc_L_cost.nd
        refine ⟨rfl, Ex.refl, ?_⟩
        intro s1 H01 C1 cl1 fp1
        refine ee_call ih rfl hr ?_
        walk_at "ge"
        exact ⟨x, g, n, rfl, fmAt_mono e2.tex _ _ hgx, by have := depth_kid hgk; omega, hw.kid hgk, n1, n4, fun H3 e3 => ⟨e3, g, hg, rfl⟩⟩
      · intro ys H2 e2 hL2 hlen hys
        refine aa_nil ?_
        have ey := ints_ofL hus hlen hys
        rw [ey] at hL2
        refine cc_sum rfl (SqL.of hL2) ?_
        have e12 := e1.trans e2
        have hsum : ((kids φ).map (lcost n)).sum = costGs (lw n) (kids φ) := (costGs_sum _ _).symm
        rw [hsum]
        generalize hS : costGs (lw n) (kids φ) = S
        have hq : ∀ H', Ex K H H' → Q (.int (capm (1 + lw n φ * S))) H' := fun H' e => by
          have := q H' e
          rw [show lcost n φ = capm (1 + lw n φ * S) from by show costG (lw n) φ = _; rw [costG_eq, hS]] at this
          exact this
        refine ss_cons (s_set 3 ?_ sc_L_cost.nd)
        walk_at "ge"
        refine ss_cons (s_forT PassesOwn.never rfl (ii_tup ?_))
        refine ee_call DV rfl (hr.mono (by omega)) ?_
        walk_at "ge"
        refine ⟨_, φ, rfl, fmAt_mono e12.tex _ _ hF, fun H3 bv e3 hbv => ?_⟩
        refine rq ⟨⟨_, hbv⟩, ?_⟩
        have hv3 := hw.vars.1
        refine turns_tup _ (fun i σ H' => ∃ y, σ = [some (.ref a), some (.int n), some (.int S), some (.int (n ^ i)), y, none, none] ∧ H' = H3) ⟨_, by rw [Int.pow_zero]; rfl, rfl⟩ (fun i σ H' _ ⟨_, _, e⟩ => by rw [e]; exact hbv) ?_ ?_
        · rintro i x σ H' hx ⟨y, rfl, rfl⟩
          have hi := (List.getElem?_eq_some_iff.mp hx).1
          rw [List.length_map] at hi
          refine gg_name 4 ?_ sc_L_cost.nd
          refine ss_cons (s_set 3 ?_ sc_L_cost.nd)
          walk_at "ge"
          refine oo_mul (.inr ⟨by omega, by omega⟩) ?_
          walk_at "go"
          exact ⟨_, by rw [Int.pow_succ]; rfl, rfl⟩
        · rintro σ H' ⟨y, rfl, rfl⟩
          rw [List.length_map]
          have x3 := e12.trans e3
          have ha3 := x3.t ha
          have hp := pow_le_256 n1 n4 hv3
          generalize hP : n ^ (ovars φ).length = P at hp
          refine ss_cons (s_if ?_)
          refine bb_cmp (ee_ix (ee_var 0 rfl (ee_int (ix_t 0 ha3 rfl ?_))))
          refine in_new (ss := ["some", "all", "tc"]) (fun p1 hp1 => ?_) (by simp) (by walk_at "ge"; exact ⟨rfl, rfl⟩)
          refine bq ?_
          have x4 := x3.trans (Ex.new (K := K) (o := .lst (List.map V.str ["some", "all", "tc"])) hp1)
          have ha4 := x4.t ha
          have p9 : CPow 10 9 := ⟨by decide, by decide, by decide⟩
          refine if_d (fun e => ?_) (fun w1 => ?_)
          · walk_at "go"
            refine oo_pow p9 ?_
            walk_at "ge"
            refine oo_mul (.inl ⟨by omega, by omega⟩) ?_
            walk_at "ge"
            refine cc_min rfl ?_
            rw [min9]
            have := hq _ x4
            rw [lw_q e, hP] at this; exact this
          refine ss_nil (ss_cons (s_if ?_))
          walk_at "ge"
          refine if_d (fun e => ?_) (fun w2 => ?_)
          · walk_at "go"
            refine oo_pow p9 ?_
            walk_at "ge"
            refine oo_mul (.inl ⟨by omega, by omega⟩) ?_
            walk_at "ge"
            have m := Int.mul_le_mul hp.2 hp.2 (by omega) (by omega)
            have m2 := mm1 hp.1 hp.1
            refine oo_mul (.inl ⟨by omega, by omega⟩) ?_
            walk_at "ge"
            refine cc_min rfl ?_
            rw [min9]
            have := hq _ x4
            rw [lw_l e, hP] at this; exact this
          have sh : ∀ e : Int, 1 * 2 ^ (if (40 : Int) < e then 40 else e).toNat = sh40 e := fun e => by unfold sh40; rw [Int.one_mul]
          have shp : ∀ e : Int, 0 ≤ e → CPow 1 (if (40 : Int) < e then 40 else e) := fun e h => ⟨by split <;> omega, by split <;> omega, by decide⟩
          refine ss_nil (ss_cons (s_if ?_))
          walk_at "ge"
          refine if_d (fun e => ?_) (fun w3 => ?_)
          · walk_at "go"
            refine oo_pow p9 ?_
            walk_at "ge"
            refine cc_min rfl ?_
            refine oo_shl (shp _ (by omega)) ?_
            rw [sh]
            walk_at "ge"
            have s1 := sh_pos P
            have s2 := sh_cap P
            refine oo_mul (.inl ⟨by omega, by omega⟩) ?_
            walk_at "ge"
            have m := Int.mul_le_mul s2 hp.2 (by omega) (by omega)
            have m2 := mm1 s1 hp.1
            refine oo_mul (.inl ⟨by omega, by omega⟩) ?_
            walk_at "ge"
            refine cc_min rfl ?_
            rw [min9]
            have := hq _ x4
            rw [lw_p e, hP] at this; exact this
          refine ss_nil (ss_cons (s_if ?_))
          walk_at "ge"
          refine if_d (fun e => ?_) (fun w4 => ?_)
          · obtain ⟨nm, k, g, rfl⟩ := word_guess e
            obtain ⟨a', u, ea, g1, g2⟩ := hF
            cases ea
            have g1' := x4.t g1
            have hk1 : k ≤ 1 := by obtain ⟨Γ, _, h2⟩ := hw; simp only [WF] at h2; exact h2.2.1
            have hP1 : P = 1 := by rw [← hP]; simp [ovars]
            subst hP1
            refine ss_cons (s_forT PassesOwn.never rfl (ii_range G.z_range ?_))
            walk_at "ge"
            refine ⟨by omega, by omega, ?_⟩
            rw [Int.toNat_natCast]
            refine turns_range k (fun i σ Hn => ∃ y z, σ = [some (.ref a), some (.int n), some (.int S), some (.int (n ^ i)), y, z, none] ∧ Hn = upd H' p1 (.lst (List.map V.str ["some", "all", "tc"]))) ⟨_, _, by rw [Int.pow_zero], rfl⟩ ?_ ?_
            · rintro i σ H' hi ⟨y, z, rfl, rfl⟩
              refine gg_name 5 ?_ sc_L_cost.nd
              refine ss_cons (s_set 3 ?_ sc_L_cost.nd)
              walk_at "ge"
              refine oo_mul (.inr ⟨by omega, by omega⟩) ?_
              walk_at "go"
              exact ⟨_, _, by rw [Int.pow_succ]; rfl, rfl⟩
            · rintro σ H' ⟨y, z, rfl, rfl⟩
              have hp' := pow_le_256 n1 n4 (k := k) (by omega)
              walk_at "go"
              refine oo_pow p9 ?_
              walk_at "ge"
              refine cc_min rfl ?_
              refine oo_shl (shp _ (by omega)) ?_
              rw [sh]
              walk_at "ge"
              have s1 := sh_pos (n ^ k)
              have s2 := sh_cap (n ^ k)
              refine oo_mul (.inl ⟨by omega, by omega⟩) ?_
              walk_at "ge"
              refine cc_min rfl ?_
              rw [min9]
              exact hq _ x4
          walk_at "go"
          refine oo_pow p9 ?_
          walk_at "ge"
          refine cc_min rfl ?_
          rw [min9]
          have := hq _ x4
          rw [lw_else w1 w2 w3 w4, Int.one_mul] at this; exact this
end
end Sy
namespace Sy
section
variable {X : Cx} {σ : L2.St} {H : Hp} {Q : VK} {o e : Expr} {pos apos : Pos} {a l : Addr} {xs : List V} {v : V}
theorem ee_append (h : EE X o σ H fun x H1 => ∃ l, x = .ref l ∧ (∃ xs, SqL X.K H1 l xs) ∧ EE X e σ H1 fun y H2 => ∃ xs, H2 l = some (.lst xs) ∧ xs.length < sizeLine ∧ Q .non (upd H2 l (.lst (xs ++ [y]))))
    (hbase : attributeBase o "append" X.env (eval o X.env) = eval o X.env := by rfl)
    (hfew : ((backTo pos (starEach [e] X.env)).all (fun x => !x.1) && (backToKw pos (keywordEach [] X.env)).all (fun x => x.1.isSome)
      && decide (([e] : List Expr).length + ([] : List Keyword).length + (if ([] : List Keyword).isEmpty then 0 else 1) < 30)) = true := by rfl)
    (hline : (apos.endLine == pos.line) = true := by rfl) (hs : starEach [e] X.env = (false, eval e X.env) :: starEach [] X.env := by rfl) (hplain : (backTo pos (starEach [] X.env)).any (·.1) = false := by rfl) :
    EE X (.Call (.Attribute o "append" apos) [e] [] pos) σ H Q := by
  refine ee_bm PySem.F.plainAttrs_list PySem.F.slot_list_append PySem.F.type_list_append ⟨fun pins s I => thn (h.run pins s I) fun u s' ⟨x, H1, I1, r, l, e1, hx, q⟩ => ⟨x, H1, I1, r, ?_, ?_⟩⟩ hbase hfew hline hs hplain
  · subst e1; exact .inl ⟨rfl, hx⟩
  · refine aa_cons ⟨fun pins s I => thn (q.run pins s I) fun u s' ⟨y, H2, I2, r2, ys, h1, h2, q2⟩ => ⟨y, H2, I2, r2, ?_⟩⟩ hs
    refine aa_nil ?_
    subst e1
    exact mm_of mt_append ⟨l, ys, y, rfl, rfl, h1, h2, q2⟩
theorem pst_list {i : Int} {y : V} {Q : Hp → Prop} {j : Nat} (h : H l = some (.lst xs)) (hj : i = (j : Int)) (hl : j < xs.length) (q : Q (upd H l (.lst (xs.set j y)))) : PSt X (.ref l) (.int i) y H Q := by
  refine pst_of set_list ⟨l, xs, i, j, rfl, rfl, h, ?_, q⟩
  subst hj
  unfold ixN
  rw [if_pos (by omega), if_pos (by omega)]
  simp
theorem cmul_r {i j : Int} (h1 : -(2 ^ 64) < j) (h2 : j < 2 ^ 64) : CMul i j := .inr ⟨h1, h2⟩
end
section
variable {w : World} {K : PySem.W.Frag} {mg : Str → Option Value} {base : Heap}
def spMixed : Sp := fun vs H Q _ => ∃ a k : Int, vs = [.int a, .int k] ∧ ∀ r, 0 ≤ r → r < 2147483647 → Q (.int r) H
theorem dn_mixed (T : Top K mg "_law_mixed" s_L_mixed) (G : Gs K mg) : Dn w K mg base "_law_mixed" 1 spMixed := by
  refine T.dn sc_L_mixed (fun vs H Q E h => ?_) (fun _ _ _ _ _ _ us hl => match us, hl with | [_, _], _ => rfl) (fun f cd A outer s H vs Q E hr h => ?_)
  · obtain ⟨a, k, rfl, _⟩ := h; rfl
  · obtain ⟨a, k, rfl, q⟩ := h
    refine ss_cons (s_set 2 ?_ sc_L_mixed.nd)
    walk_at "ge"
    refine oo_mul (cmul_r (by decide) (by decide)) ?_
    walk_at "ge"
    refine oo_mul (cmul_r (by decide) (by decide)) ?_
    walk_at "ge"
    refine oo_mod (by decide) ?_
    generalize hs : (a * 48271 + k * 69621 + 12345) % 2147483647 = st
    have b1 : 0 ≤ st := by rw [← hs]; exact Int.emod_nonneg _ (by decide)
    have b2 : st < 2147483647 := by rw [← hs]; exact Int.emod_lt_of_pos _ (by decide)
    walk_at "go"
    refine oo_fdiv (by decide) (by decide) ?_
    walk_at "ge"
    refine oo_mul (.inl ⟨by omega, by omega⟩) ?_
    walk_at "ge"
    refine oo_mod (by decide) ?_
    exact q _ (Int.emod_nonneg _ (by decide)) (Int.emod_lt_of_pos _ (by decide))
/-- numbers that may be drawn -/
def Dr (ms : List Int) : Prop := ∀ m ∈ ms, 0 ≤ m ∧ m < 1000000
theorem Dr.snoc {ms : List Int} {m : Int} (h : Dr ms) (h0 : 0 ≤ m) (h1 : m < 1000000) : Dr (ms ++ [m]) := fun x hx => by
  rcases List.mem_append.mp hx with hx | hx
  · exact h x hx
  · have : x = m := by simpa using hx
    rw [this]; exact ⟨h0, h1⟩
def spNumbers (K : PySem.W.Frag) : Sp := fun vs H Q _ => ∃ a, ∃ ns : List Int, vs = [.ref a] ∧ SqL K H a (ns.map V.int) ∧ ns.length ≤ 63 ∧
  ∀ H' L ms, Ex K H H' → H L = none → H' L = some (.lst (ms.map V.int)) → Dr ms → Q (.ref L) H'
theorem dn_numbers (T : Top K mg "_law_numbers" s_L_numbers) (G : Gs K mg) (DM : Dn w K mg base "_law_mixed" 1 spMixed) : Dn w K mg base "_law_numbers" 2 (spNumbers K) := by
  refine T.dn sc_L_numbers (fun vs H Q E h => ?_) (fun _ _ _ _ _ _ us hl => match us, hl with | [_], _ => rfl) (fun f cd A outer s H vs Q E hr h => ?_)
  · obtain ⟨a, ns, rfl, _⟩ := h; rfl
  · obtain ⟨a, ns, rfl, ha, hn, q⟩ := h
    refine ss_cons (s_set 1 ?_ sc_L_numbers.nd)
    walk_at "ge"
    refine ⟨szk (by simp), fun L hL => ?_⟩
    refine ss_cons (s_forT PassesOwn.never rfl (ii_list ?_))
    walk_at "ge"
    refine ⟨⟨_, (Ex.new hL).l nd_ints ha⟩, ?_⟩
    refine turns_list (ns.map V.int) (fun i σ H' => ∃ y z u, ∃ ms : List Int, σ = [some (.ref a), some (.ref L), y, z, u] ∧ Ex K H H' ∧ H' L = some (.lst (ms.map V.int)) ∧ Dr ms ∧ ms.length ≤ 60 * i) ⟨_, _, _, [], rfl, Ex.new hL, upd_same, (fun m hm => by cases hm), (by simp)⟩ (fun i σ H' _ ⟨_, _, _, _, _, e, _⟩ => e.l nd_ints ha) ?_ ?_
    · rintro i x σ H' hx ⟨y, z, u, ms, rfl, e1, hL1, hd, hlen⟩
      have hi := (List.getElem?_eq_some_iff.mp hx).1
      rw [List.length_map] at hi
      obtain ⟨c, _, rfl⟩ : ∃ c, c ∈ ns ∧ x = V.int c := by
        obtain ⟨c, hc, rfl⟩ := List.mem_map.mp (List.mem_of_getElem? hx)
        exact ⟨c, hc, rfl⟩
      refine gg_name 2 ?_ sc_L_numbers.nd
      refine ss_cons (s_if ?_)
      walk_at "ge"
      refine oo_pow ⟨by decide, by decide, by decide⟩ ?_
      walk_at "ge"
      refine if_d (fun e => ?_) (fun e => ?_)
      · refine ss_cons (s_set 3 ?_ sc_L_numbers.nd)
        walk_at "ge"
        refine ss_cons (s_forT PassesOwn.never rfl (ii_range G.z_range ?_))
        walk_at "ge"
        refine ⟨by decide, by decide, ?_⟩
        refine turns_range 60 (fun j σ H2 => ∃ u, ∃ r : Int, ∃ ms : List Int, σ = [some (.ref a), some (.ref L), some (.int c), some (.int r), u] ∧ Ex K H H2 ∧ H2 L = some (.lst (ms.map V.int)) ∧ Dr ms ∧ ms.length ≤ 60 * i + j) ⟨_, _, ms, rfl, e1, hL1, hd, by omega⟩ ?_ ?_
        · rintro j σ H2 hj ⟨u, r, ms, rfl, e2, hL2, hd, hlen⟩
          refine gg_name 4 ?_ sc_L_numbers.nd
          refine ss_cons (s_if ?_)
          walk_at "ge"
          refine if_d (fun e => ?_) (fun e => ?_)
          · refine ss_cons (s_expr (ee_append ?_))
            walk_at "ge"
            refine ⟨⟨_, SqL.of hL2⟩, ?_⟩
            walk_at "ge"
            refine oo_mod (by decide) ?_
            refine ⟨_, hL2, by rw [List.length_map, sizeLine_eq]; omega, ?_⟩
            refine ss_cons (s_set 3 ?_ sc_L_numbers.nd)
            walk_at "ge"
            refine oo_fdiv (by decide) (by decide) ?_
            walk_at "go"
            refine ⟨_, _, ms ++ [r % 1000000], rfl, e2.mut hL, ?_, hd.snoc (Int.emod_nonneg _ (by decide)) (Int.emod_lt_of_pos _ (by decide)), by simp; omega⟩
            rw [upd_same, List.map_append]; rfl
          · walk_at "go"
            exact ⟨_, _, ms, rfl, e2, hL2, hd, by omega⟩
        · rintro σ H2 ⟨u, r, ms, rfl, e2, hL2, hd, hlen⟩
          walk_at "go"
          exact ⟨_, _, _, ms, rfl, e2, hL2, hd, by omega⟩
      · refine ss_cons (s_expr (ee_append ?_))
        walk_at "ge"
        refine ⟨⟨_, SqL.of hL1⟩, ?_⟩
        walk_at "ge"
        refine oo_mod (by decide) ?_
        refine ⟨_, hL1, by rw [List.length_map, sizeLine_eq]; omega, ?_⟩
        have d1 : Dr (ms ++ [c % 1000000]) := hd.snoc (Int.emod_nonneg _ (by decide)) (Int.emod_lt_of_pos _ (by decide))
        have l1 : (upd H' L (.lst (ms.map V.int ++ [.int (c % 1000000)]))) L = some (.lst ((ms ++ [c % 1000000]).map V.int)) := by rw [upd_same, List.map_append]; rfl
        refine ss_cons (s_forT PassesOwn.never rfl (ii_range G.z_range ?_))
        walk_at "ge"
        refine ⟨by decide, by decide, ?_⟩
        refine turns_range 5 (fun j σ H2 => ∃ u z, ∃ ms : List Int, σ = [some (.ref a), some (.ref L), some (.int c), z, u] ∧ Ex K H H2 ∧ H2 L = some (.lst (ms.map V.int)) ∧ Dr ms ∧ ms.length ≤ 60 * i + 1 + j) ⟨_, _, _, rfl, e1.mut hL, l1, d1, by simp; omega⟩ ?_ ?_
        · rintro j σ H2 hj ⟨u, z, ms, rfl, e2, hL2, hd, hlen⟩
          refine gg_name 4 ?_ sc_L_numbers.nd
          refine ss_cons (s_expr (ee_append ?_))
          walk_at "ge"
          refine ⟨⟨_, SqL.of hL2⟩, ?_⟩
          refine ee_bin ?_
          refine ee_call DM rfl hr ?_
          refine aa_cons ?_
          refine ee_call DM rfl hr ?_
          walk_at "ge"
          refine oo_mod (by decide) ?_
          walk_at "ge"
          refine ⟨_, _, rfl, fun r h0 h1 => ?_⟩
          walk_at "ge"
          refine ⟨_, _, rfl, fun r2 h02 h12 => ?_⟩
          walk_at "ge"
          refine oo_mod (by decide) ?_
          refine ⟨_, hL2, by rw [List.length_map, sizeLine_eq]; omega, ?_⟩
          walk_at "go"
          refine ⟨_, _, ms ++ [r2 % 1000000], rfl, e2.mut hL, ?_, hd.snoc (Int.emod_nonneg _ (by decide)) (Int.emod_lt_of_pos _ (by decide)), by simp; omega⟩
          rw [upd_same, List.map_append]; rfl
        · rintro σ H2 ⟨u, z, ms, rfl, e2, hL2, hd, hlen⟩
          walk_at "go"
          exact ⟨_, _, _, ms, rfl, e2, hL2, hd, by omega⟩
    · rintro σ H' ⟨y, z, u, ms, rfl, e1, hL1, hd, hlen⟩
      walk_at "go"
      exact q H' L ms e1 hL hL1 hd
end
end Sy
namespace Sy
section
variable {X : Cx} {σ : L2.St} {H : Hp} {Q : VK} {o e : Expr} {pos apos : Pos} {a l : Addr} {xs : List V} {v : V}
theorem ee_popAt (h : EE X o σ H fun x H1 => ∃ l, x = .ref l ∧ (∃ xs, SqL X.K H1 l xs) ∧ EE X e σ H1 fun y H2 => ∃ i : Int, ∃ xs y', y = .int i ∧ H2 l = some (.lst xs) ∧ 0 ≤ i ∧ i < xs.length ∧ xs.length ≤ 1000 ∧ xs[i.toNat]? = some y' ∧ Q y' (upd H2 l (.lst (xs.eraseIdx i.toNat))))
    (hbase : attributeBase o "pop" X.env (eval o X.env) = eval o X.env := by rfl)
    (hfew : ((backTo pos (starEach [e] X.env)).all (fun x => !x.1) && (backToKw pos (keywordEach [] X.env)).all (fun x => x.1.isSome)
      && decide (([e] : List Expr).length + ([] : List Keyword).length + (if ([] : List Keyword).isEmpty then 0 else 1) < 30)) = true := by rfl)
    (hline : (apos.endLine == pos.line) = true := by rfl) (hs : starEach [e] X.env = (false, eval e X.env) :: starEach [] X.env := by rfl) (hplain : (backTo pos (starEach [] X.env)).any (·.1) = false := by rfl) :
    EE X (.Call (.Attribute o "pop" apos) [e] [] pos) σ H Q := by
  refine ee_bm PySem.F.plainAttrs_list PySem.F.slot_list_pop PySem.F.type_list_pop ⟨fun pins s I => thn (h.run pins s I) fun u s' ⟨x, H1, I1, r, l, e1, hx, q⟩ => ⟨x, H1, I1, r, ?_, ?_⟩⟩ hbase hfew hline hs hplain
  · subst e1; exact .inl ⟨rfl, hx⟩
  · refine aa_cons ⟨fun pins s I => thn (q.run pins s I) fun u s' ⟨y, H2, I2, r2, i, ys, y', ey, h1, h2, h3, h4, h5, q2⟩ => ⟨y, H2, I2, r2, ?_⟩⟩ hs
    refine aa_nil ?_
    subst e1; subst ey
    exact mm_of mt_popAt ⟨l, ys, i, i.toNat, y', rfl, rfl, h1, by omega, by omega, seqIndex_of h2 h3, h5, q2⟩
end
section
variable {w : World} {K : PySem.W.Frag} {mg : Str → Option Value} {base : Heap}
theorem Ex.draw {H : Hp} {D N : Addr} {i : Int} (hD : H D = some (.lst [.ref N, .int i])) (hi : 0 ≤ i) : Ex K H (upd H D (.lst [.ref N, .int (i + 1)])) := by
  have ne : ∀ b o, NotDraw o → H b = some o → b ≠ D := fun b o n h z => by subst z; rw [h] at hD; exact n N i (Option.some.inj hD)
  refine ⟨fun b o n h => ?_, fun D' N' ns ⟨j, h1, h2, h3, h4⟩ => ?_, fun b h => ?_⟩
  · rw [upd_ne (ne b o n h)]; exact h
  · have hl : SqL K (upd H D (.lst [.ref N, .int (i + 1)])) N' (ns.map V.int) := by
      rcases h2 with (h2 | ⟨o, h2⟩) | h2
      · exact .inl (.inl (by rw [upd_ne (ne _ _ nd_ints h2)]; exact h2))
      · exact .inl (.inr ⟨o, by rw [upd_ne (ne _ _ nd_frz h2)]; exact h2⟩)
      · exact .inr h2
    by_cases e : D' = D
    · subst e
      rw [hD] at h1
      injection h1 with h1; injection h1 with h1; injection h1 with e1 e2; injection e1 with e1
      subst e1
      exact ⟨i + 1, upd_same, hl, h3, by omega⟩
    · exact ⟨j, by rw [upd_ne e]; exact h1, hl, h3, h4⟩
  · by_cases e : b = D
    · subst e; rw [upd_same] at h; cases h
    · rw [upd_ne e] at h; exact h
def spDraw (K : PySem.W.Frag) : Sp := fun vs H Q _ => ∃ D N ns, vs = [.ref D] ∧ Draws K D N ns H ∧ ∀ (r : Int) H', Ex K H H' → 0 ≤ r → r < 1000000 → Q (.int r) H'
theorem dn_draw (T : Top K mg "_law_draw" s_L_draw) (G : Gs K mg) (DM : Dn w K mg base "_law_mixed" 1 spMixed) : Dn w K mg base "_law_draw" 2 (spDraw K) := by
  refine T.dn sc_L_draw (fun vs H Q E h => ?_) (fun _ _ _ _ _ _ us hl => match us, hl with | [_], _ => rfl) (fun f cd A outer s H vs Q E hr h => ?_)
  · obtain ⟨D, N, ns, rfl, _⟩ := h; rfl
  · obtain ⟨D, N, ns, rfl, ⟨i, hD, hN, hd, hi⟩, q⟩ := h
    refine ss_cons (s_set 1 ?_ sc_L_draw.nd)
    walk_at "ge"
    refine ix_l 1 (SqL.of hD) rfl ?_
    refine ss_cons (s_asg ?_)
    walk_at "ge"
    refine gg_sub ?_
    walk_at "ge"
    refine pst_list (j := 1) hD rfl (by simp) ?_
    have x1 : Ex K H (upd H D (.lst [.ref N, .int (i + 1)])) := Ex.draw hD hi
    have hD1 : (upd H D (.lst ([V.ref N, .int i].set 1 (.int (i + 1))))) D = some (.lst [.ref N, .int (i + 1)]) := upd_same
    have hN1 := x1.l nd_ints hN
    refine ss_cons (s_if ?_)
    walk_at "ge"
    refine ix_l 0 (SqL.of hD1) rfl ?_
    walk_at "ge"
    refine if_d (fun e => ?_) (fun e => ?_)
    · rw [List.length_map] at e
      have hlt : i.toNat < ns.length := by omega
      have hg : (ns.map V.int)[i.toNat]? = some (.int ns[i.toNat]) := by rw [List.getElem?_map, List.getElem?_eq_getElem hlt]; rfl
      walk_at "go"
      refine ix_l 0 (SqL.of hD1) rfl ?_
      walk_at "ge"
      refine ix_li hN1 hi hg ?_
      have hr := hd _ (List.getElem_mem hlt)
      exact q _ _ x1 hr.1 hr.2
    · refine ss_nil (ss_cons (s_set 2 ?_ sc_L_draw.nd))
      walk_at "ge"
      have fin : ∀ fz : Int, SS (Cxd w K mg base N_L_draw "_law_draw" s_L_draw f cd A outer s H E) ((defBody s_L_draw).drop 5) { nx := fun _ H' => Q .non H', rt := Q } [some (.ref D), some (.int i), some (.int fz)] (upd H D (.lst [.ref N, .int (i + 1)])) := fun fz => by
        refine ss_cons (s_ret (ee_bin ?_))
        refine ee_call DM rfl (hr.mono (by decide)) ?_
        refine aa_cons ?_
        refine ee_call DM rfl (hr.mono (by decide)) ?_
        walk_at "ge"
        refine ⟨_, _, rfl, fun r h0 h1 => ?_⟩
        walk_at "ge"
        refine ⟨_, _, rfl, fun r2 h02 h12 => ?_⟩
        walk_at "ge"
        refine oo_mod (by decide) ?_
        exact q _ _ x1 (Int.emod_nonneg _ (by decide)) (Int.emod_lt_of_pos _ (by decide))
      refine ss_cons (s_if ?_)
      walk_at "ge"
      refine ix_l 0 (SqL.of hD1) rfl ?_
      walk_at "ge"
      refine if_d (fun e => ?_) (fun e => ?_)
      · rw [List.length_map] at e
        have hlt : 0 < ns.length := by omega
        have hg : (ns.map V.int)[0]? = some (.int ns[0]) := by rw [List.getElem?_map, List.getElem?_eq_getElem hlt]; rfl
        refine ss_cons (s_set 2 ?_ sc_L_draw.nd)
        walk_at "ge"
        refine ix_l 0 (SqL.of hD1) rfl ?_
        walk_at "ge"
        refine ix_l 0 hN1 hg ?_
        refine oo_mul (.inl ⟨by decide, by decide⟩) ?_
        walk_at "ge"
        refine ss_nil ?_
        exact fin _
      · refine ss_nil ?_
        exact fin _
/-- left and taken -/
def spSomeOf (K : PySem.W.Frag) : Sp := fun vs H Q _ => ∃ D N ns P, ∃ xs : List V, ∃ k : Nat, vs = [.ref D, .ref P, .int k] ∧ Draws K D N ns H ∧ SqL K H P xs ∧ (∀ x ∈ xs, ∀ a, x ≠ .ref a) ∧ k ≤ xs.length ∧ xs.length ≤ 100 ∧
  ∀ L ys H', Ex K H H' → H L = none → H' L = some (.lst ys) → ys.length = k → (∃ rest, (ys ++ rest).Perm xs) → Q (.ref L) H'
theorem dn_some_of (T : Top K mg "_law_some_of" s_L_some_of) (G : Gs K mg) (DD : Dn w K mg base "_law_draw" 2 (spDraw K)) : Dn w K mg base "_law_some_of" 3 (spSomeOf K) := by
  refine T.dn sc_L_some_of (fun vs H Q E h => ?_) (fun _ _ _ _ _ _ us hl => match us, hl with | [_, _, _], _ => rfl) (fun f cd A outer s H vs Q E hr h => ?_)
  · obtain ⟨D, N, ns, P, xs, k, rfl, _⟩ := h; rfl
  · obtain ⟨D, N, ns, P, xs, k, rfl, hD, hP, hx, hk, hz, q⟩ := h
    refine ss_cons (s_set 3 ?_ sc_L_some_of.nd)
    walk_at "ge"
    refine cc_listL hP (fun l hl => ?_)
    refine ss_cons (s_set 4 ?_ sc_L_some_of.nd)
    walk_at "ge"
    refine ⟨szk (by simp), fun c hc => ?_⟩
    have x0 : Ex K H (upd (upd H l (.lst xs)) c (.lst [])) := (Ex.new hl).trans (Ex.new hc)
    have hcl : c ≠ l := fun e => by rw [e, upd_same] at hc; cases hc
    have hc0 : H c = none := by rw [upd_ne hcl] at hc; exact hc
    refine ss_cons (s_forT PassesOwn.never rfl (ii_range G.z_range ?_))
    walk_at "ge"
    refine ⟨by omega, by omega, ?_⟩
    rw [Int.toNat_natCast]
    refine turns_range k (fun i σ H' => ∃ y, ∃ ls cs : List V, σ = [some (.ref D), some (.ref P), some (.int k), some (.ref l), some (.ref c), y] ∧ Ex K H H' ∧ H' l = some (.lst ls) ∧ H' c = some (.lst cs) ∧ (cs ++ ls).Perm xs ∧ cs.length = i) ⟨_, xs, [], rfl, x0, by rw [upd_ne (Ne.symm hcl)]; exact upd_same, upd_same, List.Perm.refl _, rfl⟩ ?_ ?_
    · rintro i σ H' hi ⟨y, ls, cs, rfl, e1, hL, hC, hp, hlen⟩
      have hll : ls.length + cs.length = xs.length := by have := hp.length_eq; simp at this; omega
      have ndl : NotDraw (.lst ls) := nd_noref fun x h a => hx x (hp.mem_iff.mp (List.mem_append_right _ h)) a
      have ndc : NotDraw (.lst cs) := nd_noref fun x h a => hx x (hp.mem_iff.mp (List.mem_append_left _ h)) a
      refine gg_name 5 ?_ sc_L_some_of.nd
      refine ss_cons (s_expr (ee_append ?_))
      walk_at "ge"
      refine ⟨⟨_, SqL.of hC⟩, ?_⟩
      refine ee_popAt ?_
      walk_at "ge"
      refine ⟨⟨_, SqL.of hL⟩, ?_⟩
      refine ee_bin ?_
      refine ee_call DD rfl (hr.mono (by decide)) ?_
      walk_at "ge"
      refine ⟨D, N, ns, rfl, e1.dr _ _ _ hD, fun r H2 e2 h0 h1 => ?_⟩
      have hL2 := e2.keep _ _ ndl hL
      have hC2 := e2.keep _ _ ndc hC
      walk_at "ge"
      refine cc_lenL (SqL.of hL2) ?_
      refine oo_mod (by omega) ?_
      have m1 := Int.emod_nonneg r (show (ls.length : Int) ≠ 0 by omega)
      have m2 := Int.emod_lt_of_pos r (show (0 : Int) < ls.length by omega)
      have hj : (r % (ls.length : Int)).toNat < ls.length := by omega
      refine ⟨_, ls, _, rfl, hL2, m1, m2, by omega, List.getElem?_eq_getElem hj, ?_⟩
      refine ⟨cs, by rw [upd_ne hcl]; exact hC2, by rw [sizeLine_eq]; omega, ?_⟩
      walk_at "go"
      refine ⟨_, ls.eraseIdx (r % (ls.length : Int)).toNat, cs ++ [ls[(r % (ls.length : Int)).toNat]], rfl, ?_, ?_, upd_same, ?_, by simp [hlen]⟩
      · exact ((e1.trans e2).mut hl).mut hc0
      · rw [upd_ne (Ne.symm hcl)]; exact upd_same
      · refine List.Perm.trans ?_ hp
        rw [List.append_assoc]
        refine List.Perm.append_left cs ?_
        exact L2.erase_perm ls _ _ (List.getElem?_eq_getElem hj)
    · rintro σ H' ⟨y, ls, cs, rfl, e1, hL, hC, hp, hlen⟩
      walk_at "go"
      exact q c cs H' e1 hc0 hC hlen ⟨ls, hp⟩
end
end Sy
namespace Sy
section
variable {X : Cx} {σ : L2.St} {H : Hp} {Q : VK} {a l : Addr} {xs : List V} {D N : Addr} {ns : List Int}
/-- _law_draw(_law_draws) -/
theorem ee_dr {p0 p1 p2 : Pos} (i : Nat) (DD : Dn X.w X.K X.mg X.base "_law_draw" 2 (spDraw X.K)) (hr : Room 2 X.A) (hσ : σ[i]? = some (some (.ref D))) (hD : Draws X.K D N ns H) (h : ∀ (r : Int) H1, Ex X.K H H1 → 0 ≤ r → r < 1000000 → Q (.int r) H1)
    (hP : X.prog = P := by rfl) (hN : X.N[i]? = some "_law_draws" := by rfl) (hs : Vis X.env.scope "_law_draws" := by first | exact Or.inl rfl | exact Or.inr (Or.inl rfl) | exact Or.inr (Or.inr rfl)) (hg : Gl X "_law_draw" := by rfl)
    (he : starEach [(.Name "_law_draws" p1 : Expr)] X.env = (false, eval (.Name "_law_draws" p1) X.env) :: starEach [] X.env := by rfl) (hpl : (backTo p2 (starEach [] X.env)).any (·.1) = false := by rfl) :
    EE X (.Call (.Name "_law_draw" p0) [.Name "_law_draws" p1] [] p2) σ H Q := by
  refine ee_call DD hP hr ?_ hg (by decide) he hpl
  refine aa_cons (ee_var i hσ ?_ hN hs (by decide) (by decide)) he
  refine aa_nil ?_
  exact ⟨D, N, ns, rfl, hD, h⟩
/-- _law_draw(_law_draws) % n -/
theorem ee_dm {p0 p1 p2 p3 p4 : Pos} {j} {n : Int} (i : Nat) (DD : Dn X.w X.K X.mg X.base "_law_draw" 2 (spDraw X.K)) (hr : Room 2 X.A) (hσ : σ[i]? = some (some (.ref D))) (hD : Draws X.K D N ns H) (hn : 0 < n) (h : ∀ (r : Int) H1, Ex X.K H H1 → 0 ≤ r → r < n → Q (.int r) H1)
    (hP : X.prog = P := by rfl) (hN : X.N[i]? = some "_law_draws" := by rfl) (hs : Vis X.env.scope "_law_draws" := by first | exact Or.inl rfl | exact Or.inr (Or.inl rfl) | exact Or.inr (Or.inr rfl)) (hg : Gl X "_law_draw" := by rfl)
    (he : starEach [(.Name "_law_draws" p1 : Expr)] X.env = (false, eval (.Name "_law_draws" p1) X.env) :: starEach [] X.env := by rfl) (hpl : (backTo p2 (starEach [] X.env)).any (·.1) = false := by rfl) :
    EE X (.BinOp (.Call (.Name "_law_draw" p0) [.Name "_law_draws" p1] [] p2) .Mod (.Constant (.int n) j p3) p4) σ H Q := by
  refine ee_bin (ee_dr i DD hr hσ hD (fun r H1 e h0 h1 => ?_) hP hN hs hg he hpl)
  refine ee_int ?_
  exact oo_mod hn (h _ _ e (Int.emod_nonneg _ (by omega)) (Int.emod_lt_of_pos _ hn))
/-- x[_law_draw(_law_draws) % len(x)] -/
theorem ee_pick {p0 p1 p2 p3 p4 p5 p6 p7 p8 : Pos} {x : Str} (i k : Nat) (DD : Dn X.w X.K X.mg X.base "_law_draw" 2 (spDraw X.K)) (hr : Room 2 X.A) (hσ : σ[i]? = some (some (.ref D))) (hD : Draws X.K D N ns H) (hk : σ[k]? = some (some (.ref a))) (hx : SqL X.K H a xs) (nd : NotDraw (.lst xs)) (h0 : xs ≠ [])
    (hlen : X.mg "len" = none) (h : ∀ (r : Nat) v H1, Ex X.K H H1 → xs[r]? = some v → Q v H1)
    (hP : X.prog = P := by rfl) (hN : X.N[i]? = some "_law_draws" := by rfl) (hs : Vis X.env.scope "_law_draws" := by first | exact Or.inl rfl | exact Or.inr (Or.inl rfl) | exact Or.inr (Or.inr rfl)) (hg : Gl X "_law_draw" := by rfl)
    (he : starEach [(.Name "_law_draws" p1 : Expr)] X.env = (false, eval (.Name "_law_draws" p1) X.env) :: starEach [] X.env := by rfl) (hpl : (backTo p2 (starEach [] X.env)).any (·.1) = false := by rfl)
    (hN2 : X.N[k]? = some x := by rfl) (hs2 : Vis X.env.scope x := by first | exact Or.inl rfl | exact Or.inr (Or.inl rfl) | exact Or.inr (Or.inr rfl)) (hd1 : (x == ("__debug__" : Str)) = false := by decide) (hd2 : (x == ("__classdict__" : Str)) = false := by decide) (hg2 : Gl X "len" := by rfl)
    (he2 : starEach [(.Name x p5 : Expr)] X.env = (false, eval (.Name x p5) X.env) :: starEach [] X.env := by rfl) (hpl2 : (backTo p6 (starEach [] X.env)).any (·.1) = false := by rfl) :
    EE X (.Subscript (.Name x p3) (.BinOp (.Call (.Name "_law_draw" p0) [.Name "_law_draws" p1] [] p2) .Mod (.Call (.Name "len" p4) [.Name x p5] [] p6) p7) p8) σ H Q := by
  refine ee_ix (ee_var k hk ?_ hN2 hs2 hd1 hd2)
  refine ee_bin (ee_dr i DD hr hσ hD (fun r H1 e h0' h1' => ?_) hP hN hs hg he hpl)
  refine ee_callB (x := "len") hlen bt_len ?_ hg2 (by decide) (by decide) he2 hpl2
  refine aa_cons (ee_var k hk ?_ hN2 hs2 hd1 hd2) he2
  refine aa_nil ?_
  have hx1 := e.l nd hx
  have hl : 0 < xs.length := List.length_pos_iff.mpr h0
  refine cc_lenL hx1 (oo_mod (by omega) ?_)
  have m1 := Int.emod_nonneg r (show (xs.length : Int) ≠ 0 by omega)
  have m2 := Int.emod_lt_of_pos r (show (0 : Int) < xs.length by omega)
  have hj : (r % (xs.length : Int)).toNat < xs.length := by omega
  exact ix_li hx1 m1 (List.getElem?_eq_getElem hj) (h _ _ _ e (List.getElem?_eq_getElem hj))
/-! ### lists by their items -/
def LAt {α : Type} (R : α → V → Prop) (as : List α) (us : List V) : Prop := us.length = as.length ∧ ∀ (i : Nat) u, us[i]? = some u → ∃ t, as[i]? = some t ∧ R t u
theorem LAt.nil {α : Type} {R : α → V → Prop} : LAt R [] [] := ⟨rfl, fun i v h => by simp at h⟩
theorem LAt.imp {α : Type} {R R' : α → V → Prop} {as : List α} {us : List V} (h : LAt R as us) (k : ∀ t u, R t u → R' t u) : LAt R' as us := ⟨h.1, fun i u hu => let ⟨t, h1, h2⟩ := h.2 i u hu; ⟨t, h1, k t u h2⟩⟩
theorem LAt.snoc {α : Type} {R : α → V → Prop} {as : List α} {us : List V} {r : α} {v : V} (h : LAt R as us) (q : R r v) : LAt R (as ++ [r]) (us ++ [v]) := by
  refine ⟨by simp [h.1], fun i u hu => ?_⟩
  by_cases hi : i < us.length
  · rw [List.getElem?_append_left hi] at hu
    obtain ⟨r', h1, h2⟩ := h.2 i u hu
    exact ⟨r', by rw [List.getElem?_append_left (by rw [← h.1]; exact hi)]; exact h1, h2⟩
  · rw [List.getElem?_append_right (by omega)] at hu
    have hz : i - us.length = 0 := by have := (List.getElem?_eq_some_iff.mp hu).1; simp at this; omega
    rw [hz] at hu
    have e : v = u := by simpa using hu
    subst e
    exact ⟨r, by rw [List.getElem?_append_right (by rw [← h.1]; omega), ← h.1, hz]; rfl, q⟩
theorem LAt.mem {α : Type} {R : α → V → Prop} {as : List α} {us : List V} (h : LAt R as us) {u : V} (hu : u ∈ us) : ∃ t, t ∈ as ∧ R t u := by
  obtain ⟨i, hi⟩ := List.mem_iff_getElem?.mp hu
  obtain ⟨t, h1, h2⟩ := h.2 i u hi
  exact ⟨t, List.mem_of_getElem? h1, h2⟩
theorem LAt.of_map {α : Type} {R : α → V → Prop} {as : List α} {us : List V} (hl : us.length = as.length) (h : ∀ (i : Nat) u, us[i]? = some u → ∃ t, as[i]? = some t ∧ R t u) : LAt R as us := ⟨hl, h⟩
/-- a name with its arity and its mode -/
def TrAt (K : PySem.W.Frag) (H : Hp) (t : Str × Nat × Nat) (v : V) : Prop := ∃ a, v = .ref a ∧ SqT K H a [.str t.1, .int t.2.1, .int t.2.2]
theorem TrAt.mono {K : PySem.W.Frag} {H H' : Hp} {t : Str × Nat × Nat} {v : V} (e : TEx H H') (h : TrAt K H t v) : TrAt K H' t v := let ⟨a, h1, h2⟩ := h; ⟨a, h1, e.t h2⟩
abbrev Gm := Gam Str
def GamAt (K : PySem.W.Frag) (H : Hp) (L : Addr) (Γ : Gm) : Prop := ∃ us, H L = some (.lst us) ∧ LAt (TrAt K H) Γ us
theorem trs_nd {K : PySem.W.Frag} {H : Hp} {Γ : Gm} {us : List V} (h : LAt (TrAt K H) Γ us) : NotDraw (.lst us) := nd_allref fun x hx => by
  obtain ⟨t, _, a, e, _⟩ := h.mem hx
  exact ⟨a, e⟩
theorem GamAt.mono {K : PySem.W.Frag} {H H' : Hp} {L : Addr} {Γ : Gm} (e : Ex K H H') (h : GamAt K H L Γ) : GamAt K H' L Γ := by
  obtain ⟨us, h1, h2⟩ := h
  exact ⟨us, e.keep _ _ (trs_nd h2) h1, h2.imp fun t u q => q.mono e.tex⟩
end
section
variable {w : World} {K : PySem.W.Frag} {mg : Str → Option Value} {base : Heap}
theorem tex_l {H : Hp} {p : Addr} {o : HO} (h : H p = none) : TEx H (upd H p o) := TEx.new h
def spWithin (K : PySem.W.Frag) : Sp := fun vs H Q _ => ∃ L Γ nm, ∃ k m : Nat, vs = [.ref L, .str nm, .int k, .int m] ∧ GamAt K H L Γ ∧ Γ.length ≤ 100 ∧ ∀ L' H', Ex K H H' → GamAt K H' L' (within Γ nm k m) → Q (.ref L') H'
theorem dn_within (T : Top K mg "_law_within" s_L_within) (G : Gs K mg) : Dn w K mg base "_law_within" 1 (spWithin K) := by
  refine T.dn sc_L_within (fun vs H Q E h => ?_) (fun _ _ _ _ _ _ us hl => match us, hl with | [_, _, _, _], _ => rfl) (fun f cd A outer s H vs Q E hr h => ?_)
  · obtain ⟨L, Γ, nm, k, m, rfl, _⟩ := h; rfl
  · obtain ⟨L, Γ, nm, k, m, rfl, ⟨us, hL, hU⟩, hz, q⟩ := h
    refine ss_cons (s_ret (ee_bin ?_))
    refine ee_lcIf [("_law_one", 4)] N_L_within (defScope s_L_within) rfl sc_L_within.nd (ii_list ?_)
    walk_at "ge"
    refine ⟨⟨us, SqL.of hL⟩, fun R hR => ?_⟩
    have hlen := hU.1
    refine lt_ifL (K := K) us (fun i ys H2 => i ≤ us.length ∧ LAt (TrAt K H2) ((Γ.take i).filter fun t => decide (t.1 ≠ nm)) ys) hR (SqL.of hL) (trs_nd hU) (by omega) (fun H' _ => ⟨Nat.zero_le _, LAt.nil⟩) ?_ (fun i ys H H' e ⟨h0, h⟩ => ⟨h0, h.imp fun t u q => q.mono e⟩) ?_ ?_
    · rintro i ys H2 ⟨h0, h⟩
      refine ⟨?_, trs_nd h⟩
      rw [h.1]
      refine Nat.le_trans (List.length_filter_le _ _) ?_
      rw [List.length_take]; omega
    · rintro i x ys H2 hx e ⟨h0, h⟩ s0 H0 C cl fp
      obtain ⟨t, ht, a, rfl, ha⟩ := hU.2 i x hx
      have ha2 := e.t ha
      have hi := (List.getElem?_eq_some_iff.mp hx).1
      refine gg_name 4 ?_ sc_L_within.nd
      refine ⟨rfl, Ex.refl, ?_⟩
      intro s1 H01 C1 cl1 fp1
      walk_at "ge"
      refine ⟨Ex.refl, ?_⟩
      have htake : (Γ.take (i + 1)).filter (fun t => decide (t.1 ≠ nm)) = (Γ.take i).filter (fun t => decide (t.1 ≠ nm)) ++ (if t.1 = nm then [] else [t]) := by
        rw [List.take_add_one, ht, List.filter_append]
        by_cases e : t.1 = nm <;> simp [List.filter_cons, e]
      refine if_nd (fun e2 => ?_) (fun e2 => ?_)
      · intro s1 H01 C1 cl1 fp1
        walk_at "ge"
        refine ⟨Ex.refl, hi, ?_⟩
        rw [htake, if_neg e2]
        exact h.snoc ⟨a, rfl, ha2⟩
      · refine ⟨hi, ?_⟩
        rw [htake, if_pos e2, List.append_nil]; exact h
    · rintro ys H2 e hL2 ⟨_, h⟩
      rw [hlen, List.take_length] at h
      walk_at "ge"
      refine ⟨szk (by simp), fun t ht => ?_⟩
      walk_at "ge"
      refine ⟨szk (by simp), fun L2 hL2' => ?_⟩
      have e2 : Ex K H2 (upd H2 t (.tup [.str nm, .int k, .int m])) := Ex.new ht
      have e3 : Ex K (upd H2 t (.tup [.str nm, .int k, .int m])) (upd (upd H2 t (.tup [.str nm, .int k, .int m])) L2 (.lst [.ref t])) := Ex.new hL2'
      have hyl : ys.length ≤ 100 := by rw [h.1]; exact Nat.le_trans (List.length_filter_le _ _) hz
      refine bo_of op_cat ⟨R, L2, ys, [.ref t], rfl, rfl, (e2.trans e3).keep _ _ (trs_nd h) hL2, upd_same, by rw [sizeLine_eq]; simp; omega, fun p hp => ?_⟩
      have e4 := (e2.trans e3).trans (Ex.new (K := K) (o := .lst (ys ++ [V.ref t])) hp)
      refine q p _ (e.trans e4) ⟨_, upd_same, ?_⟩
      refine (h.imp fun t u q => q.mono e4.tex).snoc ⟨t, rfl, ?_⟩
      exact ((e3.trans (Ex.new hp)).t (.inl (.inl upd_same)))
def spTurned (K : PySem.W.Frag) (f : Gm → Gm) : Sp := fun vs H Q _ => ∃ L Γ, vs = [.ref L] ∧ GamAt K H L Γ ∧ (∀ t ∈ Γ, t.2.2 ≤ 3) ∧ Γ.length ≤ 100 ∧ ∀ L' H', Ex K H H' → GamAt K H' L' (f Γ) → Q (.ref L') H'
theorem dn_turned (T : Top K mg "_law_turned" s_L_turned) (G : Gs K mg) : Dn w K mg base "_law_turned" 1 (spTurned K turned) := by
  refine T.dn sc_L_turned (fun vs H Q E h => ?_) (fun _ _ _ _ _ _ us hl => match us, hl with | [_], _ => rfl) (fun f cd A outer s H vs Q E hr h => ?_)
  · obtain ⟨L, Γ, rfl, _⟩ := h; rfl
  · obtain ⟨L, Γ, rfl, ⟨us, hL, hU⟩, h3, hz, q⟩ := h
    refine ss_cons (s_ret ?_)
    refine ee_lc [("_law_one", 1)] N_L_turned (defScope s_L_turned) rfl sc_L_turned.nd (ii_list ?_)
    walk_at "ge"
    refine ⟨⟨us, SqL.of hL⟩, fun R hR => ?_⟩
    have hlen := hU.1
    refine lt_mapL (K := K) us (fun i y H2 => ∃ t, (turned Γ)[i]? = some t ∧ TrAt K H2 t y) (fun i y H H' e ⟨t, h1, h2⟩ => ⟨t, h1, h2.mono e⟩) hR (SqL.of hL) (trs_nd hU) (by omega) (fun ys H h => nd_allref fun x hx => by
      obtain ⟨j, hj⟩ := List.mem_iff_getElem?.mp hx
      obtain ⟨t, _, a, e, _⟩ := h j x hj
      exact ⟨a, e⟩) ?_ ?_
    · intro i x H2 hx e s0 H0 C cl fp
      obtain ⟨t, ht, a, rfl, ha⟩ := hU.2 i x hx
      have ha2 := e.t ha
      have ht3 := h3 t (List.mem_of_getElem? ht)
      refine gg_name 1 ?_ sc_L_turned.nd
      refine ⟨rfl, Ex.refl, ?_⟩
      intro s1 H01 C1 cl1 fp1
      walk_at "ge"
      refine ⟨szk (by simp), fun p hp => ?_⟩
      have e2 : Ex K H2 (upd H2 p (.lst [.int 0, .int 2, .int 1, .int 3])) := Ex.new hp
      have ha3 := e2.t ha2
      walk_at "ge"
      have hm : ([V.int 0, .int 2, .int 1, .int 3] : List V)[t.2.2]? = some (.int (tm t.2.2 : Nat)) := by
        have : t.2.2 = 0 ∨ t.2.2 = 1 ∨ t.2.2 = 2 ∨ t.2.2 = 3 := by omega
        rcases this with z | z | z | z <;> rw [z] <;> rfl
      refine ix_l t.2.2 (SqL.of upd_same) hm ?_
      walk_at "ge"
      refine ⟨szk (by simp), fun p2 hp2 => ?_⟩
      refine ⟨e2.trans (Ex.new hp2), (t.1, t.2.1, tm t.2.2), ?_, p2, rfl, .inl (.inl upd_same)⟩
      unfold turned; rw [List.getElem?_map, ht]; rfl
    · intro ys H2 e hL2 hl hys
      exact q R H2 e ⟨ys, hL2, by rw [hl, hlen]; unfold turned; rw [List.length_map], hys⟩
theorem dn_barred (T : Top K mg "_law_barred" s_L_barred) (G : Gs K mg) : Dn w K mg base "_law_barred" 1 (spTurned K barred) := by
  refine T.dn sc_L_barred (fun vs H Q E h => ?_) (fun _ _ _ _ _ _ us hl => match us, hl with | [_], _ => rfl) (fun f cd A outer s H vs Q E hr h => ?_)
  · obtain ⟨L, Γ, rfl, _⟩ := h; rfl
  · obtain ⟨L, Γ, rfl, ⟨us, hL, hU⟩, h3, hz, q⟩ := h
    refine ss_cons (s_ret ?_)
    refine ee_lc [("_law_one", 1)] N_L_barred (defScope s_L_barred) rfl sc_L_barred.nd (ii_list ?_)
    walk_at "ge"
    refine ⟨⟨us, SqL.of hL⟩, fun R hR => ?_⟩
    have hlen := hU.1
    refine lt_mapL (K := K) us (fun i y H2 => ∃ t, (barred Γ)[i]? = some t ∧ TrAt K H2 t y) (fun i y H H' e ⟨t, h1, h2⟩ => ⟨t, h1, h2.mono e⟩) hR (SqL.of hL) (trs_nd hU) (by omega) (fun ys H h => nd_allref fun x hx => by
      obtain ⟨j, hj⟩ := List.mem_iff_getElem?.mp hx
      obtain ⟨t, _, a, e, _⟩ := h j x hj
      exact ⟨a, e⟩) ?_ ?_
    · intro i x H2 hx e s0 H0 C cl fp
      obtain ⟨t, ht, a, rfl, ha⟩ := hU.2 i x hx
      have ha2 := e.t ha
      have ht3 := h3 t (List.mem_of_getElem? ht)
      refine gg_name 1 ?_ sc_L_barred.nd
      refine ⟨rfl, Ex.refl, ?_⟩
      intro s1 H01 C1 cl1 fp1
      walk_at "ge"
      refine ⟨szk (by simp), fun p hp => ?_⟩
      have e2 : Ex K H2 (upd H2 p (.lst [.int 0, .int 3, .int 3, .int 3])) := Ex.new hp
      have ha3 := e2.t ha2
      walk_at "ge"
      have hm : ([V.int 0, .int 3, .int 3, .int 3] : List V)[t.2.2]? = some (.int (bm t.2.2 : Nat)) := by
        have : t.2.2 = 0 ∨ t.2.2 = 1 ∨ t.2.2 = 2 ∨ t.2.2 = 3 := by omega
        rcases this with z | z | z | z <;> rw [z] <;> rfl
      refine ix_l t.2.2 (SqL.of upd_same) hm ?_
      walk_at "ge"
      refine ⟨szk (by simp), fun p2 hp2 => ?_⟩
      refine ⟨e2.trans (Ex.new hp2), (t.1, t.2.1, bm t.2.2), ?_, p2, rfl, .inl (.inl upd_same)⟩
      unfold barred; rw [List.getElem?_map, ht]; rfl
    · intro ys H2 e hL2 hl hys
      exact q R H2 e ⟨ys, hL2, by rw [hl, hlen]; unfold barred; rw [List.length_map], hys⟩
end
end Sy
namespace Sy
section
variable {X : Cx} {σ : L2.St} {H : Hp} {Q : VK} {a l : Addr} {xs : List V} {D N : Addr} {ns : List Int}
theorem sl_l {lo hi : Option Int} (h : SqL X.K H a xs) (q : ∀ p, H p = none → Q (.ref p) (upd H p (.lst (cutV xs lo hi)))) : SL X (.ref a) lo hi H Q := sl_of sl_list ⟨a, xs, rfl, h, q⟩
theorem sl_t {lo hi : Option Int} (h : SqT X.K H a xs) (q : ∀ p H', Ex X.K H H' → SqT X.K H' p (cutV xs lo hi) → Q (.ref p) H') : SL X (.ref a) lo hi H Q := by
  refine sl_of sl_tupA ⟨a, xs, rfl, h, fun hw => q _ _ Ex.refl ?_, fun _ p hp => q _ _ (Ex.new hp) (.inl (.inl upd_same))⟩
  unfold cutV
  rw [hw.1, hw.2, List.drop_zero, Nat.sub_zero, List.take_length]; exact h
theorem oo_tcat {b : Addr} {ys : List V} (h : SqT X.K H a xs) (h' : SqT X.K H b ys) (hz : xs.length + ys.length ≤ 1000) (q : ∀ p H', Ex X.K H H' → SqT X.K H' p (xs ++ ys) → Q (.ref p) H') : BO X .Add (.ref a) (.ref b) H Q := by
  refine bo_of op_catA ⟨a, b, xs, ys, rfl, rfl, h, h', szk hz, fun e => q _ _ Ex.refl (by rw [e, List.nil_append]; exact h'), fun _ e => q _ _ Ex.refl (by rw [e, List.append_nil]; exact h), fun _ _ p hp => q _ _ (Ex.new hp) (.inl (.inl upd_same))⟩
def VRv : List V := VR.map V.str
theorem vrv_nd : NotDraw (.lst VRv) := nd_strs
theorem vrv_get {r : Nat} {v : V} (h : VRv[r]? = some v) : ∃ s, v = .str s ∧ s ∈ VR := by
  have := List.mem_of_getElem? h
  unfold VRv at this
  obtain ⟨s, hs, e⟩ := List.mem_map.mp this
  exact ⟨s, e.symm, hs⟩
/-- pool[draw % len(pool)] -/
theorem ee_pool {p0 p1 p2 p3 p4 p5 p6 p7 p8 : Pos} {x : Str} (i k : Nat) (DD : Dn X.w X.K X.mg X.base "_law_draw" 2 (spDraw X.K)) (hr : Room 2 X.A) (hσ : σ[i]? = some (some (.ref D))) (hD : Draws X.K D N ns H) (hk : σ[k]? = some (some (.ref a))) (hx : H a = some (.lst VRv))
    (hlen : X.mg "len" = none) (h : ∀ s H1, Ex X.K H H1 → s ∈ VR → Q (.str s) H1)
    (hP : X.prog = P := by rfl) (hN : X.N[i]? = some "_law_draws" := by rfl) (hs : Vis X.env.scope "_law_draws" := by first | exact Or.inl rfl | exact Or.inr (Or.inl rfl) | exact Or.inr (Or.inr rfl)) (hg : Gl X "_law_draw" := by rfl)
    (he : starEach [(.Name "_law_draws" p1 : Expr)] X.env = (false, eval (.Name "_law_draws" p1) X.env) :: starEach [] X.env := by rfl) (hpl : (backTo p2 (starEach [] X.env)).any (·.1) = false := by rfl)
    (hN2 : X.N[k]? = some x := by rfl) (hs2 : Vis X.env.scope x := by first | exact Or.inl rfl | exact Or.inr (Or.inl rfl) | exact Or.inr (Or.inr rfl)) (hd1 : (x == ("__debug__" : Str)) = false := by decide) (hd2 : (x == ("__classdict__" : Str)) = false := by decide) (hg2 : Gl X "len" := by rfl)
    (he2 : starEach [(.Name x p5 : Expr)] X.env = (false, eval (.Name x p5) X.env) :: starEach [] X.env := by rfl) (hpl2 : (backTo p6 (starEach [] X.env)).any (·.1) = false := by rfl) :
    EE X (.Subscript (.Name x p3) (.BinOp (.Call (.Name "_law_draw" p0) [.Name "_law_draws" p1] [] p2) .Mod (.Call (.Name "len" p4) [.Name x p5] [] p6) p7) p8) σ H Q :=
  ee_pick i k DD hr hσ hD hk (SqL.of hx) vrv_nd (by decide) hlen (fun r v H1 e hv => by
    obtain ⟨s, rfl, hs⟩ := vrv_get hv
    exact h s H1 e hs) hP hN hs hg he hpl hN2 hs2 hd1 hd2 hg2 he2 hpl2
end
section
variable {w : World} {K : PySem.W.Frag} {mg : Str → Option Value} {base : Heap}
def G0 : Gm := [("e", 2, 0), ("p", 1, 0), ("q", 0, 0)]
def spLawNames (K : PySem.W.Frag) : Sp := fun vs H Q _ => ∃ D N ns, vs = [.ref D] ∧ Draws K D N ns H ∧ ∀ L m H', Ex K H H' → 1 ≤ m → GamAt K H' L (G0.take m) → Q (.ref L) H'
theorem dn_law_names (T : Top K mg "_law_names" s_L_names) (G : Gs K mg) (DD : Dn w K mg base "_law_draw" 2 (spDraw K)) : Dn w K mg base "_law_names" 3 (spLawNames K) := by
  refine T.dn sc_L_names (fun vs H Q E h => ?_) (fun _ _ _ _ _ _ us hl => match us, hl with | [_], _ => rfl) (fun f cd A outer s H vs Q E hr h => ?_)
  · obtain ⟨D, N, ns, rfl, _⟩ := h; rfl
  · obtain ⟨D, N, ns, rfl, hD, q⟩ := h
    refine ss_cons (s_ret ?_)
    walk_at "ge"
    refine ⟨szk (by simp), fun t1 h1 => ?_⟩
    walk_at "ge"
    refine ⟨szk (by simp), fun t2 h2 => ?_⟩
    walk_at "ge"
    refine ⟨szk (by simp), fun t3 h3 => ?_⟩
    walk_at "ge"
    refine ⟨szk (by simp), fun L hL => ?_⟩
    have x1 : Ex K H (upd H t1 (.tup [.str "e", .int 2, .int 0])) := Ex.new h1
    have x2 : Ex K (upd H t1 (.tup [.str "e", .int 2, .int 0])) (upd (upd H t1 (.tup [.str "e", .int 2, .int 0])) t2 (.tup [.str "p", .int 1, .int 0])) := Ex.new h2
    have x3 : Ex K (upd (upd H t1 (.tup [.str "e", .int 2, .int 0])) t2 (.tup [.str "p", .int 1, .int 0])) (upd (upd (upd H t1 (.tup [.str "e", .int 2, .int 0])) t2 (.tup [.str "p", .int 1, .int 0])) t3 (.tup [.str "q", .int 0, .int 0])) := Ex.new h3
    have x4 := Ex.new (K := K) (o := .lst [.ref t1, .ref t2, .ref t3]) hL
    have a1 := x4.t (x3.t (x2.t (SqT.of (K := K) (upd_same (H := H) (a := t1) (o := .tup [.str "e", .int 2, .int 0])))))
    have a2 := x4.t (x3.t (SqT.of (K := K) (upd_same (H := upd H t1 (.tup [.str "e", .int 2, .int 0])) (a := t2) (o := .tup [.str "p", .int 1, .int 0]))))
    have a3 := x4.t (SqT.of (K := K) (upd_same (H := upd (upd H t1 (.tup [.str "e", .int 2, .int 0])) t2 (.tup [.str "p", .int 1, .int 0])) (a := t3) (o := .tup [.str "q", .int 0, .int 0])))
    have xx := ((x1.trans x2).trans x3).trans x4
    have hLL : (upd (upd (upd (upd H t1 (.tup [.str "e", .int 2, .int 0])) t2 (.tup [.str "p", .int 1, .int 0])) t3 (.tup [.str "q", .int 0, .int 0])) L (.lst [.ref t1, .ref t2, .ref t3])) L = some (.lst [.ref t1, .ref t2, .ref t3]) := upd_same
    generalize (upd (upd (upd (upd H t1 (.tup [.str "e", .int 2, .int 0])) t2 (.tup [.str "p", .int 1, .int 0])) t3 (.tup [.str "q", .int 0, .int 0])) L (.lst [.ref t1, .ref t2, .ref t3])) = H4 at *
    refine op_none (op_some (ee_bin (ee_int ?_)))
    refine ee_dm 0 DD (hr.mono (by decide)) rfl (xx.dr _ _ _ hD) (by decide) (fun r H5 e5 h0 h3 => ?_)
    walk_at "ge"
    have e : ∃ m : Nat, (1 : Int) + r = (m : Int) ∧ 1 ≤ m ∧ m ≤ 3 := ⟨(1 + r).toNat, by omega, by omega, by omega⟩
    obtain ⟨m, hm, m1, m3⟩ := e
    rw [hm]
    have hL5 := e5.keep _ _ (nd_allref (by simp)) hLL
    refine sl_l (SqL.of hL5) (fun p hp => ?_)
    refine q p m _ ((xx.trans e5).trans (Ex.new hp)) m1 ?_
    have e6 := e5.trans (Ex.new (K := K) (o := .lst (cutV [.ref t1, .ref t2, .ref t3] none (some (m : Int)))) hp)
    have a1 := e6.t a1
    have a2 := e6.t a2
    have a3 := e6.t a3
    refine ⟨_, upd_same, ?_⟩
    have hz : LAt (TrAt K (upd H5 p (.lst (cutV [.ref t1, .ref t2, .ref t3] none (some (m : Int)))))) G0 [.ref t1, .ref t2, .ref t3] := by
      refine ⟨rfl, fun i u hu => ?_⟩
      match i, hu with
      | 0, hu => exact ⟨("e", 2, 0), rfl, t1, by simpa using hu.symm, a1⟩
      | 1, hu => exact ⟨("p", 1, 0), rfl, t2, by simpa using hu.symm, a2⟩
      | 2, hu => exact ⟨("q", 0, 0), rfl, t3, by simpa using hu.symm, a3⟩
      | i + 3, hu => simp at hu
    have hc : cutV [V.ref t1, V.ref t2, V.ref t3] none (some (m : Int)) = ([V.ref t1, V.ref t2, V.ref t3] : List V).take m := by
      unfold cutV
      rw [HT.sIx_none, HT.sIx_nat]
      simp only [List.drop_zero, Nat.sub_zero, List.length_cons, List.length_nil]
      rw [Nat.min_eq_left (by omega)]
    rw [hc] at hz ⊢
    refine ⟨by rw [List.length_take, List.length_take]; rfl, fun i u hu => ?_⟩
    rw [List.getElem?_take] at hu
    by_cases him : i < m
    · rw [if_pos him] at hu
      obtain ⟨t, h1, h2⟩ := hz.2 i u hu
      exact ⟨t, by rw [List.getElem?_take, if_pos him]; exact h1, h2⟩
    · rw [if_neg him] at hu; cases hu
/-- the answer is a formula that is typed -/
def FmOut (K : PySem.W.Frag) (Γ : Gm) (d : Nat) (H : Hp) (Q : VK) : Prop := ∀ φ v H', Ex K H H' → WF (· ∈ VR) (· ∈ NR) Γ φ → depth φ ≤ d → FmAt K H' φ v → Q v H'
def spAtom (K : PySem.W.Frag) : Sp := fun vs H Q _ => ∃ D N ns Pl L Γ, vs = [.ref D, .ref Pl, .ref L] ∧ Draws K D N ns H ∧ H Pl = some (.lst VRv) ∧ GamAt K H L Γ ∧ Γ.length ≤ 100 ∧ (∀ t ∈ Γ, t.2.1 ≤ 3) ∧ FmOut K Γ 1 H Q
theorem dn_atom (T : Top K mg "_law_atom" s_L_atom) (G : Gs K mg) (DD : Dn w K mg base "_law_draw" 2 (spDraw K)) : Dn w K mg base "_law_atom" 3 (spAtom K) := by
  refine T.dn sc_L_atom (fun vs H Q E h => ?_) (fun _ _ _ _ _ _ us hl => match us, hl with | [_, _, _], _ => rfl) (fun f cd A outer s H vs Q E hr h => ?_)
  · obtain ⟨D, N, ns, Pl, L, Γ, rfl, _⟩ := h; rfl
  · obtain ⟨D, N, ns, Pl, L, Γ, rfl, hD, hPl, ⟨us, hL, hU⟩, hz, h3, q⟩ := h
    have hlen := hU.1
    refine ss_cons (s_lcIf [("_law_one", 6)] N_L_atom (defScope s_L_atom) 3 rfl sc_L_atom.nd (ii_list ?_))
    walk_at "ge"
    refine ⟨⟨us, SqL.of hL⟩, fun R hR => ?_⟩
    refine lt_ifL (K := K) us (fun i ys H2 => i ≤ us.length ∧ LAt (TrAt K H2) ((Γ.take i).filter fun t => decide (t.2.2 < 2)) ys) hR (SqL.of hL) (trs_nd hU) (by omega) (fun H' _ => ⟨Nat.zero_le _, LAt.nil⟩) ?_ (fun i ys H H' e ⟨h0, h⟩ => ⟨h0, h.imp fun t u q => q.mono e⟩) ?_ ?_
    · rintro i ys H2 ⟨h0, h⟩
      refine ⟨?_, trs_nd h⟩
      rw [h.1]
      refine Nat.le_trans (List.length_filter_le _ _) ?_
      rw [List.length_take]; omega
    · rintro i x ys H2 hx e ⟨h0, h⟩ s0 H0 C cl fp
      obtain ⟨t, ht, a, rfl, ha⟩ := hU.2 i x hx
      have ha2 := e.t ha
      have hi := (List.getElem?_eq_some_iff.mp hx).1
      refine gg_name 6 ?_ sc_L_atom.nd
      refine ⟨rfl, Ex.refl, ?_⟩
      intro s1 H01 C1 cl1 fp1
      walk_at "ge"
      refine ⟨Ex.refl, ?_⟩
      have htake : (Γ.take (i + 1)).filter (fun t => decide (t.2.2 < 2)) = (Γ.take i).filter (fun t => decide (t.2.2 < 2)) ++ (if t.2.2 < 2 then [t] else []) := by
        rw [List.take_add_one, ht, List.filter_append]
        by_cases e : t.2.2 < 2 <;> simp [List.filter_cons, e]
      refine if_d (fun e2 => ?_) (fun e2 => ?_)
      · intro s1 H01 C1 cl1 fp1
        walk_at "ge"
        refine ⟨Ex.refl, hi, ?_⟩
        rw [htake, if_pos (by omega)]
        exact h.snoc ⟨a, rfl, ha2⟩
      · refine ⟨hi, ?_⟩
        rw [htake, if_neg (by omega), List.append_nil]; exact h
    · rintro ys H2 e hL2 ⟨_, h⟩
      rw [hlen, List.take_length] at h
      have hPl2 := e.keep _ _ vrv_nd hPl
      refine ss_cons (s_set 4 ?_ sc_L_atom.nd)
      refine ee_dm 0 DD (hr.mono (by decide)) rfl (e.dr _ _ _ hD) (by decide) (fun r H3 e3 r0 r5 => ?_)
      have hY3 := e3.keep _ _ (trs_nd h) hL2
      have hPl3 := e3.keep _ _ vrv_nd hPl2
      have fin : ∀ y, SS (Cxd w K mg base N_L_atom "_law_atom" s_L_atom f cd A outer s H E) ((defBody s_L_atom).drop 3) { nx := fun _ H' => Q .non H', rt := Q } [some (.ref D), some (.ref Pl), some (.ref L), some (.ref R), some (.int r), none, y, none] H3 := fun y => by
        refine ss_cons (s_set 5 ?_ sc_L_atom.nd)
        walk_at "ge"
        refine ⟨szk (by simp), fun wl hwl => ?_⟩
        have e4 : Ex K H3 (upd H3 wl (.lst [.str "eq", .str "less"])) := Ex.new hwl
        have hW : (upd H3 wl (.lst [.str "eq", .str "less"])) wl = some (.lst [.str "eq", .str "less"]) := upd_same
        generalize (upd H3 wl (.lst [.str "eq", .str "less"])) = H4 at *
        refine ee_dm 0 DD (hr.mono (by decide)) rfl ((e.trans (e3.trans e4)).dr _ _ _ hD) (by decide) (fun k H5 e5 k0 k2 => ?_)
        have hW5 := e5.keep _ _ (nd_strs (ns := ["eq", "less"])) hW
        have hk : ∃ s : Str, ([V.str "eq", V.str "less"] : List V)[k.toNat]? = some (.str s) ∧ (s = "eq" ∨ s = "less") := by
          have : k.toNat = 0 ∨ k.toNat = 1 := by omega
          rcases this with z | z <;> rw [z]
          · exact ⟨_, rfl, .inl rfl⟩
          · exact ⟨_, rfl, .inr rfl⟩
        obtain ⟨sw, hsw, hor⟩ := hk
        refine ix_li (SqL.of hW5) k0 hsw ?_
        refine ss_cons (s_ret (ee_tup (aa_cons ?_)))
        walk_at "syv"
        have e35 := e4.trans e5
        refine aa_cons (ee_pool 0 1 DD (hr.mono (by decide)) rfl ((e.trans (e3.trans e35)).dr _ _ _ hD) rfl (e35.keep _ _ vrv_nd hPl3) G.z_len (fun s1 H6 e6 hs1 => ?_))
        have e36 := e35.trans e6
        refine aa_cons (ee_pool 0 1 DD (hr.mono (by decide)) rfl ((e.trans (e3.trans e36)).dr _ _ _ hD) rfl (e36.keep _ _ vrv_nd hPl3) G.z_len (fun s2 H7 e7 hs2 => ?_))
        walk_at "ge"
        refine ⟨szk (by simp), fun t ht => ?_⟩
        have e8 := ((e.trans e3).trans (e36.trans e7)).trans (Ex.new (K := K) (o := .tup [.str sw, .str s1, .str s2]) ht)
        rcases hor with rfl | rfl
        · exact q (.eq s1 s2) _ _ e8 (by simp only [WF]; exact ⟨hs1, hs2⟩) (by simp [depth]) (by simp only [FmAt]; exact ⟨t, rfl, .inl (.inl upd_same)⟩)
        · exact q (.less s1 s2) _ _ e8 (by simp only [WF]; exact ⟨hs1, hs2⟩) (by simp [depth]) (by simp only [FmAt]; exact ⟨t, rfl, .inl (.inl upd_same)⟩)
      refine ss_cons (s_if ?_)
      walk_at "ge"
      refine if_d (fun h1 => ?_) (fun h1 => ?_)
      · walk_at "ge"
        refine cc_lenL (SqL.of hY3) ?_
        walk_at "ge"
        refine if_d (fun h2 => ?_) (fun h2 => ?_)
        · refine ss_cons (s_set 6 ?_ sc_L_atom.nd)
          have hne : ys ≠ [] := fun z => by rw [z] at h2; simp at h2
          refine ee_pick 0 3 DD (hr.mono (by decide)) rfl ((e.trans e3).dr _ _ _ hD) rfl (SqL.of hY3) (trs_nd h) hne G.z_len (fun j v H4 e4 hj => ?_)
          obtain ⟨t, ht, a, rfl, ha⟩ := h.2 j v hj
          have htm := List.mem_filter.mp (List.mem_of_getElem? ht)
          have ha4 := (e3.trans e4).t ha
          have e24 := e3.trans e4
          refine ss_cons (s_ret ?_)
          walk_at "ge"
          refine ee_lc [("_law_k", 7)] N_L_atom (defScope s_L_atom) rfl sc_L_atom.nd (ii_range G.z_range ?_)
          have h3t := h3 t htm.1
          walk_at "ge"
          refine ⟨by omega, by omega, ?_⟩
          rw [Int.toNat_natCast]
          intro B hB
          refine lt_mapR (K := K) t.2.1 (fun i y H2 => ∃ s, y = .str s ∧ s ∈ VR) (fun i y H H' e h => h) hB (by omega) (fun ys H h => nd_noref fun x hx a => by
            obtain ⟨j, hj⟩ := List.mem_iff_getElem?.mp hx
            obtain ⟨s, rfl, _⟩ := h j x hj
            intro z; cases z) ?_ ?_
          · intro i H5 hi e5 s0 H0 C cl fp
            refine gg_name 7 ?_ sc_L_atom.nd
            refine ⟨rfl, Ex.refl, ?_⟩
            intro s1 H01 C1 cl1 fp1
            refine ee_pool 0 1 DD (hr.mono (by decide)) rfl ((e.trans (e24.trans e5)).dr _ _ _ hD) rfl ((e24.trans e5).keep _ _ vrv_nd hPl2) G.z_len (fun s2 H6 e6 hs2 => ?_)
            exact ⟨e6, s2, rfl, hs2⟩
          · intro zs H5 e5 hB5 hzl hzs
            walk_at "ge"
            have hz1 : ∃ as : List Str, zs = as.map V.str ∧ ∀ x ∈ as, x ∈ VR := by
              refine ⟨zs.map (fun v => match v with | .str s => s | _ => ""), ?_, ?_⟩
              · rw [List.map_map]
                refine (List.map_congr_left (f := id) (fun x hx => ?_)).symm.trans ?_ |>.symm
                · obtain ⟨j, hj⟩ := List.mem_iff_getElem?.mp hx
                  obtain ⟨s, rfl, _⟩ := hzs j x hj
                  rfl
                · simp
              · intro x hx
                obtain ⟨v, hv, rfl⟩ := List.mem_map.mp hx
                obtain ⟨j, hj⟩ := List.mem_iff_getElem?.mp hv
                obtain ⟨s, rfl, hs⟩ := hzs j v hj
                exact hs
            obtain ⟨as, rfl, has⟩ := hz1
            refine cc_tupL (SqL.of hB5) (fun tp htp => ?_)
            walk_at "ge"
            refine ⟨szk (by simp), fun tq htq => ?_⟩
            have e6 := (e24.trans e5).trans (Ex.new (K := K) (o := .tup (as.map V.str)) htp)
            refine q (.rel t.1 as) _ _ ((e.trans e6).trans (Ex.new htq)) ?_ (by simp [depth]) ?_
            · simp only [WF]
              refine ⟨⟨t.2.2, of_decide_eq_true htm.2, ?_⟩, has⟩
              rw [List.length_map] at hzl
              rw [hzl]; exact htm.1
            · simp only [FmAt]
              exact ⟨tq, tp, rfl, .inl (.inl upd_same), (Ex.new htq).t (.inl (.inl upd_same))⟩
        · exact ss_nil (fin _)
      · walk_at "ge"
        exact ss_nil (fin _)
end
end Sy
namespace Sy
theorem strs_of {zs : List V} {P : Str → Prop} (h : ∀ x ∈ zs, ∃ s, x = .str s ∧ P s) : ∃ as : List Str, zs = as.map V.str ∧ ∀ x ∈ as, P x := by
  refine ⟨zs.map (fun v => match v with | .str s => s | _ => ""), ?_, ?_⟩
  · rw [List.map_map]
    refine (List.map_congr_left (f := id) (fun x hx => ?_)).symm.trans ?_ |>.symm
    · obtain ⟨s, rfl, _⟩ := h x hx
      rfl
    · simp
  · intro x hx
    obtain ⟨v, hv, rfl⟩ := List.mem_map.mp hx
    obtain ⟨s, rfl, hs⟩ := h v hv
    exact hs
def KIv : List V := (["some", "all", "lfp", "pfp", "tc", "guess"] : List Str).map V.str
theorem kiv_nd : NotDraw (.lst KIv) := nd_strs
theorem within_len {N : Type} [DecidableEq N] (Γ : Gam N) (nm : N) (k m : Nat) : (within Γ nm k m).length ≤ Γ.length + 1 := by
  unfold within; rw [List.length_append]; exact Nat.add_le_add_right (List.length_filter_le (fun t => decide (t.1 ≠ nm)) Γ) 1
theorem barred_len {N : Type} (Γ : Gam N) : (barred Γ).length = Γ.length := by unfold barred; rw [List.length_map]
theorem turned_len {N : Type} (Γ : Gam N) : (turned Γ).length = Γ.length := by unfold turned; rw [List.length_map]
/-- arities and modes are small -/
def Sm (Γ : Gm) : Prop := ∀ t ∈ Γ, t.2.1 ≤ 3 ∧ t.2.2 ≤ 3
theorem Sm.within {Γ : Gm} (h : Sm Γ) {nm : Str} {k m : Nat} (hk : k ≤ 3) (hm : m ≤ 3) : Sm (within Γ nm k m) := fun t ht => by
  rcases mem_within.mp ht with ⟨h1, _⟩ | rfl
  · exact h t h1
  · exact ⟨hk, hm⟩
theorem tm3 {m : Nat} (h : m ≤ 3) : tm m ≤ 3 := by
  have : m = 0 ∨ m = 1 ∨ m = 2 ∨ m = 3 := by omega
  rcases this with rfl | rfl | rfl | rfl <;> decide
theorem bm3 {m : Nat} (h : m ≤ 3) : bm m ≤ 3 := by
  have : m = 0 ∨ m = 1 ∨ m = 2 ∨ m = 3 := by omega
  rcases this with rfl | rfl | rfl | rfl <;> decide
theorem Sm.turned {Γ : Gm} (h : Sm Γ) : Sm (turned Γ) := fun t ht => by
  obtain ⟨m, h1, h2⟩ := mem_turned.mp ht
  exact ⟨(h _ h1).1, by rw [h2]; exact tm3 (h _ h1).2⟩
theorem Sm.barred {Γ : Gm} (h : Sm Γ) : Sm (barred Γ) := fun t ht => by
  obtain ⟨m, h1, h2⟩ := mem_barred.mp ht
  exact ⟨(h _ h1).1, by rw [h2]; exact bm3 (h _ h1).2⟩
section
variable {w : World} {K : PySem.W.Frag} {mg : Str → Option Value} {base : Heap}
theorem FmOut.ex {Γ : Gm} {d : Nat} {H H1 : Hp} {Q : VK} (h : FmOut K Γ d H Q) (e : Ex K H H1) : FmOut K Γ d H1 Q := fun φ v H' e' => h φ v H' (e.trans e')
def spFm (K : PySem.W.Frag) (lo d : Nat) : Sp := fun vs H Q _ => ∃ D N ns Pl L Γ Ki, ∃ dp : Int, vs = [.ref D, .int dp, .ref Pl, .ref L, .ref Ki] ∧ dp = (d : Int) ∧ Draws K D N ns H ∧ H Pl = some (.lst VRv) ∧ GamAt K H L Γ ∧ Γ.length + d ≤ 50 ∧ Sm Γ ∧ H Ki = some (.lst KIv) ∧ FmOut K Γ d H Q
theorem dn_formula1 (T : Top K mg "_law_formula" s_L_formula) (G : Gs K mg) (DD : Dn w K mg base "_law_draw" 2 (spDraw K)) (DA : Dn w K mg base "_law_atom" 3 (spAtom K)) : Dn w K mg base "_law_formula" 5 (spFm K 1 1) := by
  refine T.dn sc_L_formula (fun vs H Q E h => ?_) (fun _ _ _ _ _ _ us hl => match us, hl with | [_, _, _, _, _], _ => rfl) (fun f cd A outer s H vs Q E hr h => ?_)
  · obtain ⟨D, N, ns, Pl, L, Γ, Ki, dp, rfl, _⟩ := h; rfl
  · obtain ⟨D, N, ns, Pl, L, Γ, Ki, dp, rfl, rfl, hD, hPl, hL, hz, h3, hKi, q⟩ := h
    refine ss_cons (s_set 5 ?_ sc_L_formula.nd)
    refine ee_dm 0 DD (hr.mono (by decide)) rfl hD (by decide) (fun r H3 e3 r0 r5 => ?_)
    refine ss_cons (s_if ?_)
    walk_at "ge"
    refine if_t (by decide) ?_
    refine ss_cons (s_ret ?_)
    refine ee_call DA rfl (hr.mono (by decide)) ?_
    walk_at "ge"
    exact ⟨D, N, ns, Pl, L, Γ, rfl, e3.dr _ _ _ hD, e3.keep _ _ vrv_nd hPl, hL.mono e3, by omega, fun t ht => (h3 t ht).1, q.ex e3⟩
theorem dn_formulaS (T : Top K mg "_law_formula" s_L_formula) (G : Gs K mg) (DD : Dn w K mg base "_law_draw" 2 (spDraw K)) (DA : Dn w K mg base "_law_atom" 3 (spAtom K)) (DT : Dn w K mg base "_law_turned" 1 (spTurned K turned)) (d k : Nat) (hk : 4 ≤ k)
    (DF : Dn w K mg base "_law_formula" k (spFm K 1 (d + 1))) (DB : Dn w K mg base "_law_bound" k (spFm K 2 (d + 2))) : Dn w K mg base "_law_formula" (k + 1) (spFm K 1 (d + 2)) := by
  refine T.dn sc_L_formula (fun vs H Q E h => ?_) (fun _ _ _ _ _ _ us hl => match us, hl with | [_, _, _, _, _], _ => rfl) (fun f cd A outer s H vs Q E hr h => ?_)
  · obtain ⟨D, N, ns, Pl, L, Γ, Ki, dp, rfl, _⟩ := h; rfl
  · obtain ⟨D, N, ns, Pl, L, Γ, Ki, dp, rfl, rfl, hD, hPl, hL, hz, h3, hKi, q⟩ := h
    refine ss_cons (s_set 5 ?_ sc_L_formula.nd)
    refine ee_dm 0 DD (hr.mono (by omega)) rfl hD (by decide) (fun r H3 e3 r0 r5 => ?_)
    have hD3 := e3.dr _ _ _ hD
    have hPl3 := e3.keep _ _ vrv_nd hPl
    have hKi3 := e3.keep _ _ kiv_nd hKi
    have hL3 := hL.mono e3
    have q3 := q.ex e3
    refine ss_cons (s_if ?_)
    walk_at "ge"
    refine if_d (fun h1 => ?_) (fun h1 => ?_)
    · refine ss_cons (s_ret ?_)
      refine ee_call DA rfl (hr.mono (by omega)) ?_
      walk_at "ge"
      exact ⟨D, N, ns, Pl, L, Γ, rfl, hD3, hPl3, hL3, by omega, fun t ht => (h3 t ht).1, fun φ v H' e hw hd hF => q3 φ v H' e hw (by omega) hF⟩
    · refine ss_nil (ss_cons (s_if ?_))
      walk_at "ge"
      refine if_d (fun h2 => ?_) (fun h2 => ?_)
      · refine ss_cons (s_ret ?_)
        walk_at "ge"
        refine ee_call DF rfl hr ?_
        walk_at "ge"
        refine ee_call DT rfl (hr.mono (by omega)) ?_
        walk_at "ge"
        refine ⟨L, Γ, rfl, hL3, fun t ht => (h3 t ht).2, by omega, fun L4 H4 e4 hL4 => ?_⟩
        walk_at "ge"
        refine ⟨D, N, ns, Pl, L4, turned Γ, Ki, _, rfl, by omega, e4.dr _ _ _ hD3, e4.keep _ _ vrv_nd hPl3, hL4, by rw [turned_len]; omega, h3.turned, e4.keep _ _ kiv_nd hKi3, fun φ v H5 e5 hw hd hF => ?_⟩
        walk_at "ge"
        refine ⟨szk (by simp), fun t ht => ?_⟩
        refine q3 (.not φ) _ _ ((e4.trans e5).trans (Ex.new ht)) (by simp only [WF]; exact hw) (by simp only [depth]; omega) ?_
        simp only [FmAt]
        exact ⟨t, v, rfl, .inl (.inl upd_same), fmAt_mono (Ex.new (K := K) ht).tex _ _ hF⟩
      · refine ss_nil (ss_cons (s_if ?_))
        walk_at "ge"
        refine if_d (fun h4 => ?_) (fun h4 => ?_)
        · refine ss_cons (s_set 6 ?_ sc_L_formula.nd)
          walk_at "ge"
          refine ⟨szk (by simp), fun wl hwl => ?_⟩
          have e4 : Ex K H3 (upd H3 wl (.lst [.str "and", .str "or"])) := Ex.new hwl
          have hW : (upd H3 wl (.lst [.str "and", .str "or"])) wl = some (.lst [.str "and", .str "or"]) := upd_same
          generalize (upd H3 wl (.lst [.str "and", .str "or"])) = H4 at *
          refine ee_dm 0 DD (hr.mono (by omega)) rfl (e4.dr _ _ _ hD3) (by decide) (fun k2 H5 e5 k0 k2' => ?_)
          have hW5 := e5.keep _ _ (nd_strs (ns := ["and", "or"])) hW
          have hk' : ∃ s : Bool, ([V.str "and", V.str "or"] : List V)[k2.toNat]? = some (.str (jW s)) := by
            have : k2.toNat = 0 ∨ k2.toNat = 1 := by omega
            rcases this with z | z <;> rw [z]
            · exact ⟨false, rfl⟩
            · exact ⟨true, rfl⟩
          obtain ⟨sw, hsw⟩ := hk'
          refine ix_li (SqL.of hW5) k0 hsw ?_
          refine ss_cons (s_set 7 ?_ sc_L_formula.nd)
          walk_at "ge"
          refine ⟨szk (by simp), fun wm hwm => ?_⟩
          have e6 : Ex K H5 (upd H5 wm (.lst [.int 0, .int 1, .int 2, .int 2, .int 2, .int 3])) := Ex.new hwm
          have hM : (upd H5 wm (.lst [.int 0, .int 1, .int 2, .int 2, .int 2, .int 3])) wm = some (.lst [.int 0, .int 1, .int 2, .int 2, .int 2, .int 3]) := upd_same
          generalize (upd H5 wm (.lst [.int 0, .int 1, .int 2, .int 2, .int 2, .int 3])) = H6 at *
          have e36 := (e4.trans e5).trans e6
          refine ee_dm 0 DD (hr.mono (by omega)) rfl (e36.dr _ _ _ hD3) (by decide) (fun k3 H7 e7 k30 k36 => ?_)
          have hM7 := e7.keep _ _ (nd_len (by simp)) hM
          have hk3 : ∃ m : Nat, ([V.int 0, V.int 1, .int 2, .int 2, .int 2, .int 3] : List V)[k3.toNat]? = some (.int (m : Int)) ∧ m ≤ 3 := by
            have : k3.toNat = 0 ∨ k3.toNat = 1 ∨ k3.toNat = 2 ∨ k3.toNat = 3 ∨ k3.toNat = 4 ∨ k3.toNat = 5 := by omega
            rcases this with z | z | z | z | z | z <;> rw [z]
            · exact ⟨0, rfl, by omega⟩
            · exact ⟨1, rfl, by omega⟩
            · exact ⟨2, rfl, by omega⟩
            · exact ⟨2, rfl, by omega⟩
            · exact ⟨2, rfl, by omega⟩
            · exact ⟨3, rfl, by omega⟩
          obtain ⟨m, hm, hm3⟩ := hk3
          refine ix_li (SqL.of hM7) k30 hm ?_
          have e37 := e36.trans e7
          refine ss_cons (s_ret ?_)
          walk_at "ge"
          refine ee_lc [("_law_k", 8)] N_L_formula (defScope s_L_formula) rfl sc_L_formula.nd (ii_range G.z_range ?_)
          walk_at "ge"
          refine ⟨by omega, by omega, ?_⟩
          rw [Int.toNat_natCast]
          intro B hB
          refine lt_mapR (K := K) m (fun i y H2 => ∃ φ, FmAt K H2 φ y ∧ WF (· ∈ VR) (· ∈ NR) Γ φ ∧ depth φ ≤ d + 1) (fun i y H H' e ⟨φ, h1, h2⟩ => ⟨φ, fmAt_mono e _ _ h1, h2⟩) hB (by omega) (fun ys H h => nd_allref fun x hx => by
            obtain ⟨j, hj⟩ := List.mem_iff_getElem?.mp hx
            obtain ⟨φ, h1, _⟩ := h j x hj
            obtain ⟨a, _, e, _⟩ := fmAt_tup h1
            exact ⟨a, e⟩) ?_ ?_
          · intro i H8 hi e8 s0 H0 C cl fp
            refine gg_name 8 ?_ sc_L_formula.nd
            refine ⟨rfl, Ex.refl, ?_⟩
            intro s1 H01 C1 cl1 fp1
            refine ee_call DF rfl hr ?_
            walk_at "ge"
            have e38 := e37.trans e8
            exact ⟨D, N, ns, Pl, L, Γ, Ki, _, rfl, by omega, e38.dr _ _ _ hD3, e38.keep _ _ vrv_nd hPl3, hL3.mono e38, by omega, h3, e38.keep _ _ kiv_nd hKi3, fun φ v H5 e5 hw hd hF => ⟨e5, φ, hF, hw, hd⟩⟩
          · intro ys H8 e8 hB8 hyl hys
            walk_at "ge"
            refine cc_tupL (SqL.of hB8) (fun tp htp => ?_)
            walk_at "ge"
            refine ⟨szk (by simp), fun tq htq => ?_⟩
            have hfs : ∃ fs : List F, FmsAt K H8 fs ys ∧ fs.length ≤ 3 ∧ (∀ φ ∈ fs, WF (· ∈ VR) (· ∈ NR) Γ φ ∧ depth φ ≤ d + 1) := by
              have : ∀ ys : List V, (∀ y ∈ ys, ∃ φ, FmAt K H8 φ y ∧ WF (· ∈ VR) (· ∈ NR) Γ φ ∧ depth φ ≤ d + 1) → ∃ fs : List F, FmsAt K H8 fs ys ∧ fs.length = ys.length ∧ (∀ φ ∈ fs, WF (· ∈ VR) (· ∈ NR) Γ φ ∧ depth φ ≤ d + 1) := by
                intro ys
                induction ys with
                | nil => exact fun _ => ⟨[], by simp [FmsAt], rfl, by simp⟩
                | cons y ys ih =>
                  intro h
                  obtain ⟨φ, g1, g2⟩ := h y (by simp)
                  obtain ⟨fs, g3, g4, g5⟩ := ih (fun z hz => h z (by simp [hz]))
                  refine ⟨φ :: fs, by simp only [FmsAt]; exact ⟨y, ys, rfl, g1, g3⟩, by simp [g4], ?_⟩
                  intro ψ hψ
                  rcases List.mem_cons.mp hψ with rfl | hψ
                  · exact g2
                  · exact g5 ψ hψ
              obtain ⟨fs, g1, g2, g3⟩ := this ys (fun y hy => by
                obtain ⟨j, hj⟩ := List.mem_iff_getElem?.mp hy
                exact hys j y hj)
              exact ⟨fs, g1, by omega, g3⟩
            obtain ⟨fs, g1, g2, g3⟩ := hfs
            have e9 : Ex K H8 (upd H8 tp (.tup ys)) := Ex.new htp
            have e10 : Ex K (upd H8 tp (.tup ys)) (upd (upd H8 tp (.tup ys)) tq (.tup [.str (jW sw), .ref tp])) := Ex.new htq
            refine q3 (.join sw fs) _ _ (((e37.trans e8).trans e9).trans e10) (by simp only [WF]; exact ⟨g2, wfs_iff.mpr fun φ hφ => (g3 φ hφ).1⟩) ?_ ?_
            · have : ∀ fs : List F, (∀ φ ∈ fs, depth φ ≤ d + 1) → depths fs ≤ d + 1 := by
                intro fs
                induction fs with
                | nil => intro _; simp [depths]
                | cons φ fs ih => intro h; simp only [depths]; have := h φ (by simp); have := ih (fun z hz => h z (by simp [hz])); omega
              simp only [depth]
              have := this fs (fun φ hφ => (g3 φ hφ).2)
              omega
            · simp only [FmAt]
              exact ⟨tq, tp, ys, rfl, .inl (.inl upd_same), e10.t (.inl (.inl upd_same)), fmsAt_mono (e9.trans e10).tex g1⟩
        · refine ss_nil (ss_cons (s_ret ?_))
          refine ee_call DB rfl hr ?_
          walk_at "ge"
          exact ⟨D, N, ns, Pl, L, Γ, Ki, _, rfl, rfl, hD3, hPl3, hL3, hz, h3, hKi3, q3⟩
end
end Sy
namespace Sy
theorem str_nodup {as : List Str} : (as.map V.str).Nodup ↔ as.Nodup := by
  unfold List.Nodup
  rw [List.pairwise_map]
  exact ⟨fun h => h.imp fun h e => h (by rw [e]), fun h => h.imp fun h e => h (by injection e)⟩
theorem some_strs {ys rest : List V} {ss : List Str} (hs : ss.Nodup) (h : (ys ++ rest).Perm (ss.map V.str)) : ∃ as : List Str, ys = as.map V.str ∧ as.Nodup ∧ ∀ x ∈ as, x ∈ ss := by
  obtain ⟨as, rfl, h1⟩ := strs_of (zs := ys) (P := (· ∈ ss)) (fun x hx => by
    have := h.mem_iff.mp (List.mem_append_left rest hx)
    obtain ⟨s, hs, e⟩ := List.mem_map.mp this
    exact ⟨s, e.symm, hs⟩)
  refine ⟨as, rfl, ?_, h1⟩
  have := (h.nodup_iff).mpr (str_nodup.mpr hs)
  exact str_nodup.mp (List.nodup_append.mp this).1
theorem kiv_get {r : Nat} {v : V} (h : KIv[r]? = some v) : v = .str "some" ∨ v = .str "all" ∨ v = .str "lfp" ∨ v = .str "pfp" ∨ v = .str "tc" ∨ v = .str "guess" := by
  have := List.mem_of_getElem? h
  simpa [KIv] using this
section
variable {w : World} {K : PySem.W.Frag} {mg : Str → Option Value} {base : Heap}
theorem dn_bound (T : Top K mg "_law_bound" s_L_bound) (G : Gs K mg) (DD : Dn w K mg base "_law_draw" 2 (spDraw K)) (DS : Dn w K mg base "_law_some_of" 3 (spSomeOf K)) (DW : Dn w K mg base "_law_within" 1 (spWithin K)) (DR : Dn w K mg base "_law_barred" 1 (spTurned K barred)) (d k : Nat) (hk : 4 ≤ k)
    (DF : Dn w K mg base "_law_formula" k (spFm K 1 (d + 1))) : Dn w K mg base "_law_bound" (k + 1) (spFm K 2 (d + 2)) := by
  refine T.dn sc_L_bound (fun vs H Q E h => ?_) (fun _ _ _ _ _ _ us hl => match us, hl with | [_, _, _, _, _], _ => rfl) (fun f cd A outer s H vs Q E hr h => ?_)
  · obtain ⟨D, N, ns, Pl, L, Γ, Ki, dp, rfl, _⟩ := h; rfl
  · obtain ⟨D, N, ns, Pl, L, Γ, Ki, dp, rfl, rfl, hD, hPl, hL, hz, h3, hKi, q⟩ := h
    refine ss_cons (s_set 5 ?_ sc_L_bound.nd)
    refine ee_pick 0 4 DD (hr.mono (by omega)) rfl hD rfl (SqL.of hKi) kiv_nd (by decide) G.z_len (fun rk v H1 e1 hv => ?_)
    have hv' := kiv_get hv
    have hw : ∃ pk : Str, v = .str pk ∧ (pk = "some" ∨ pk = "all" ∨ pk = "lfp" ∨ pk = "pfp" ∨ pk = "tc" ∨ pk = "guess") := by
      rcases hv' with z | z | z | z | z | z <;> exact ⟨_, z, by decide +kernel⟩
    obtain ⟨pk, rfl, hpk⟩ := hw
    have hPl1 := e1.keep _ _ vrv_nd hPl
    have sPl1 : SqL K H1 Pl VRv := SqL.of hPl1
    refine ss_cons (s_if ?_)
    walk_at "go"
    refine s_set 6 ?_ sc_L_bound.nd
    refine ee_call DS rfl (hr.mono (by omega)) ?_
    refine aa_cons (ee_var 0 rfl ?_)
    refine aa_cons (ee_var 2 rfl ?_)
    refine aa_cons ?_
    refine ee_callB (x := "min") G.z_min bt_min ?_
    refine aa_cons ?_
    walk_at "ge"
    refine ⟨szk (by simp), fun wm hwm => ?_⟩
    have e2 : Ex K H1 (upd H1 wm (.lst [.int 1, .int 1, .int 1, .int 2, .int 2, .int 3])) := Ex.new hwm
    have hM : (upd H1 wm (.lst [.int 1, .int 1, .int 1, .int 2, .int 2, .int 3])) wm = some (.lst [.int 1, .int 1, .int 1, .int 2, .int 2, .int 3]) := upd_same
    generalize (upd H1 wm (.lst [.int 1, .int 1, .int 1, .int 2, .int 2, .int 3])) = H2 at *
    have e12 := e1.trans e2
    refine ee_dm 0 DD (hr.mono (by omega)) rfl (e12.dr _ _ _ hD) (by decide) (fun k3 H3 e3 k30 k36 => ?_)
    have hM3 := e3.keep _ _ (nd_len (by simp)) hM
    have hk3 : ∃ m : Nat, ([V.int 1, V.int 1, .int 1, .int 2, .int 2, .int 3] : List V)[k3.toNat]? = some (.int (m : Int)) ∧ 1 ≤ m ∧ m ≤ 3 := by
      have : k3.toNat = 0 ∨ k3.toNat = 1 ∨ k3.toNat = 2 ∨ k3.toNat = 3 ∨ k3.toNat = 4 ∨ k3.toNat = 5 := by omega
      rcases this with z | z | z | z | z | z <;> rw [z]
      · exact ⟨1, rfl, by omega, by omega⟩
      · exact ⟨1, rfl, by omega, by omega⟩
      · exact ⟨1, rfl, by omega, by omega⟩
      · exact ⟨2, rfl, by omega, by omega⟩
      · exact ⟨2, rfl, by omega, by omega⟩
      · exact ⟨3, rfl, by omega, by omega⟩
    obtain ⟨m, hm, hm1, hm3⟩ := hk3
    refine ix_li (SqL.of hM3) k30 hm ?_
    walk_at "ge"
    have e13 := e12.trans e3
    have hmin : (if (m : Int) < (VRv.length : Int) then (m : Int) else (VRv.length : Int)) = ((m : Nat) : Int) := by
      have : VRv.length = 3 := rfl
      rw [this]; split <;> omega
    refine cc_min rfl ?_
    refine aa_nil ?_
    rw [hmin]
    refine ⟨D, N, ns, Pl, VRv, m, rfl, e13.dr _ _ _ hD, SqL.of (e13.keep _ _ vrv_nd hPl), fun x hx a e => ?_, by show m ≤ 3; omega, by decide, fun Ag ys H4 e4 _ hAg hyl ⟨rest, hperm⟩ => ?_⟩
    · obtain ⟨j, hj⟩ := List.mem_iff_getElem?.mp hx
      obtain ⟨s, rfl, _⟩ := vrv_get hj
      cases e
    obtain ⟨as, rfl, hnd, has⟩ := some_strs (ss := VR) (by decide) hperm
    have hasl : as.length = m := by rw [List.length_map] at hyl; exact hyl
    have e14 := e13.trans e4
    refine ss_cons (s_set 7 ?_ sc_L_bound.nd)
    refine ee_callTy (x := "tuple") G.z_tuple bt_tuple ?_
    refine aa_cons ?_
    refine ee_lc [("_law_x", 11)] N_L_bound (defScope s_L_bound) rfl sc_L_bound.nd (ii_list ?_)
    walk_at "ge"
    refine ⟨⟨_, SqL.of hAg⟩, fun B hB => ?_⟩
    refine lt_mapL (K := K) (as.map V.str) (fun i y H2 => ∃ s, y = .str s ∧ s ∈ VR) (fun i y H H' e h => h) hB (SqL.of hAg) nd_strs (by rw [List.length_map]; omega) (fun ys H h => nd_noref fun x hx a => by
      obtain ⟨j, hj⟩ := List.mem_iff_getElem?.mp hx
      obtain ⟨s, rfl, _⟩ := h j x hj
      intro z; cases z) ?_ ?_
    · intro i x H5 hi e5 s0 H0 C cl fp
      refine gg_name 11 ?_ sc_L_bound.nd
      refine ⟨rfl, Ex.refl, ?_⟩
      intro s1 H01 C1 cl1 fp1
      refine ee_pool 0 2 DD (hr.mono (by omega)) rfl ((e14.trans e5).dr _ _ _ hD) rfl ((e14.trans e5).keep _ _ vrv_nd hPl) G.z_len (fun s2 H6 e6 hs2 => ?_)
      exact ⟨e6, s2, rfl, hs2⟩
    · intro zs H5 e5 hB5 hzl hzs
      refine aa_nil ?_
      obtain ⟨gs, rfl, hgs⟩ := strs_of (zs := zs) (P := (· ∈ VR)) (fun x hx => by
        obtain ⟨j, hj⟩ := List.mem_iff_getElem?.mp hx
        exact hzs j x hj)
      have hgl : gs.length = as.length := by rw [List.length_map, List.length_map] at hzl; exact hzl
      refine cc_tupL (SqL.of hB5) (fun gv hgv => ?_)
      have e6 : Ex K H5 (upd H5 gv (.tup (gs.map V.str))) := Ex.new hgv
      have hGv : SqS K (upd H5 gv (.tup (gs.map V.str))) gv gs := .inl (.inl upd_same)
      generalize (upd H5 gv (.tup (gs.map V.str))) = H6 at *
      have e16 := e14.trans (e5.trans e6)
      have hAg6 := (e5.trans e6).keep _ _ nd_strs hAg
      refine ss_cons (s_set 8 ?_ sc_L_bound.nd)
      walk_at "ge"
      refine ⟨szk (by simp), fun wn hwn => ?_⟩
      have e7 : Ex K H6 (upd H6 wn (.lst [.str "r", .str "s", .str "e"])) := Ex.new hwn
      have hNn : (upd H6 wn (.lst [.str "r", .str "s", .str "e"])) wn = some (.lst [.str "r", .str "s", .str "e"]) := upd_same
      have hGv7 := e7.t hGv
      have hAg7 := e7.keep _ _ nd_strs hAg6
      generalize (upd H6 wn (.lst [.str "r", .str "s", .str "e"])) = H7 at *
      refine ee_dm 0 DD (hr.mono (by omega)) rfl ((e16.trans e7).dr _ _ _ hD) (by decide) (fun kn H8 e8 kn0 kn3 => ?_)
      have hN8 := e8.keep _ _ (nd_strs (ns := ["r", "s", "e"])) hNn
      have hnm : ∃ nm : Str, ([V.str "r", V.str "s", V.str "e"] : List V)[kn.toNat]? = some (.str nm) ∧ nm ∈ NR := by
        have : kn.toNat = 0 ∨ kn.toNat = 1 ∨ kn.toNat = 2 := by omega
        rcases this with z | z | z <;> rw [z]
        · exact ⟨_, rfl, by decide⟩
        · exact ⟨_, rfl, by decide⟩
        · exact ⟨_, rfl, by decide⟩
      obtain ⟨nm, hnm1, hnm2⟩ := hnm
      refine ix_li (SqL.of hN8) kn0 hnm1 ?_
      have e18 := (e16.trans e7).trans e8
      have hGv8 := e8.t hGv7
      have hAg8 := e8.keep _ _ nd_strs hAg7
      have hD8 := e18.dr _ _ _ hD
      have hPl8 := e18.keep _ _ vrv_nd hPl
      have hKi8 := e18.keep _ _ kiv_nd hKi
      have hL8 := hL.mono e18
      have q8 := q.ex e18
      have hvs : VsOk (· ∈ VR) as := ⟨hnd, by omega, by omega, has⟩
      have sAg8 : SqL K H8 Ag (as.map V.str) := SqL.of hAg8
      -- some, all
      have fin1 : ∀ b, pk = qW b → SS (Cxd w K mg base N_L_bound "_law_bound" s_L_bound f cd A outer s H E) ((defBody s_L_bound).drop 5) { nx := fun _ H' => Q .non H', rt := Q } [some (.ref D), some (.int ((d + 2 : Nat) : Int)), some (.ref Pl), some (.ref L), some (.ref Ki), some (.str pk), some (.ref Ag), some (.ref gv), some (.str nm), none, none, none] H8 := fun b hb => by
        refine ss_cons (s_if ?_)
        have step : ∀ R : Bool → Hp → Prop, R true H8 → BB (Cxd w K mg base N_L_bound "_law_bound" s_L_bound f cd A outer s H E) (match (defBody s_L_bound).drop 5 with | (.If c _ _ _) :: _ => c | _ => .Constant .none 0 ⟨0, 0, 0, 0⟩) [some (.ref D), some (.int ((d + 2 : Nat) : Int)), some (.ref Pl), some (.ref L), some (.ref Ki), some (.str pk), some (.ref Ag), some (.ref gv), some (.str nm), none, none, none] H8 R := fun R hR => by
          rw [hb]
          cases b <;> (simp only [qW]; walk_at "ge"; exact hR)
        refine step _ (if_tt ?_)
        refine ss_cons (s_ret ?_)
        walk_at "ge"
        refine cc_tupL (by assumption) (fun ap hap => ?_)
        have e9 : Ex K H8 (upd H8 ap (.tup (as.map V.str))) := Ex.new hap
        have hAp : SqS K (upd H8 ap (.tup (as.map V.str))) ap as := .inl (.inl upd_same)
        generalize (upd H8 ap (.tup (as.map V.str))) = H9 at *
        refine aa_cons ?_
        refine ee_call DF rfl hr ?_
        walk_at "ge"
        refine ⟨D, N, ns, Pl, L, Γ, Ki, _, rfl, by omega, e9.dr _ _ _ hD8, e9.keep _ _ vrv_nd hPl8, hL8.mono e9, by omega, h3, e9.keep _ _ kiv_nd hKi8, fun φ v H10 e10 hw hd hF => ?_⟩
        walk_at "ge"
        refine ⟨szk (by simp), fun t ht => ?_⟩
        have e11 : Ex K H10 (upd H10 t (.tup [.str pk, .ref ap, v])) := Ex.new ht
        refine q8 (.quant b as φ) _ _ ((e9.trans e10).trans e11) (by simp only [WF]; exact ⟨hvs, hw⟩) (by simp only [depth]; omega) ?_
        simp only [FmAt]
        exact ⟨t, ap, v, rfl, by rw [← hb]; exact .inl (.inl upd_same), (e10.trans e11).t hAp, fmAt_mono e11.tex _ _ hF⟩
      rcases hpk with z | z | z | z | z | z
      · exact fin1 true z
      · exact fin1 false z
      · subst z
        refine ss_cons (s_if ?_)
        walk_at "go"
        refine s_set 10 ?_ sc_L_bound.nd
        refine ee_call DW rfl (hr.mono (by omega)) ?_
        walk_at "ge"
        refine ⟨L, Γ, nm, as.length, 1, by rw [List.length_map]; rfl, hL8, by omega, fun L9 H9 e9 hL9 => ?_⟩
        refine ss_cons (s_ret ?_)
        have sAg9 : SqL K H9 Ag (as.map V.str) := SqL.of (e9.keep _ _ nd_strs hAg8)
        walk_at "ge"
        refine cc_tupL (by assumption) (fun ap hap => ?_)
        have e10 : Ex K H9 (upd H9 ap (.tup (as.map V.str))) := Ex.new hap
        have hAp : SqS K (upd H9 ap (.tup (as.map V.str))) ap as := .inl (.inl upd_same)
        have hL10 := hL9.mono e10
        generalize (upd H9 ap (.tup (as.map V.str))) = H10 at *
        have e910 := e9.trans e10
        refine aa_cons ?_
        refine ee_call DF rfl hr ?_
        walk_at "ge"
        have := within_len Γ nm as.length 1
        refine ⟨D, N, ns, Pl, L9, _, Ki, _, rfl, by omega, e910.dr _ _ _ hD8, e910.keep _ _ vrv_nd hPl8, hL10, by omega, h3.within (by omega) (by omega), e910.keep _ _ kiv_nd hKi8, fun φ v H11 e11 hw hd hF => ?_⟩
        walk_at "ge"
        refine ⟨szk (by simp), fun t ht => ?_⟩
        have e12 : Ex K H11 (upd H11 t (.tup [.str "lfp", .str nm, .ref ap, v, .ref gv])) := Ex.new ht
        refine q8 (.fix true nm as φ gs) _ _ ((e910.trans e11).trans e12) (by simp only [WF]; exact ⟨hvs, hnm2, hgl, hgs, hw⟩) (by simp only [depth]; omega) ?_
        simp only [FmAt]
        exact ⟨t, ap, gv, v, rfl, .inl (.inl upd_same), (e11.trans e12).t hAp, fmAt_mono e12.tex _ _ hF, ((e910.trans e11).trans e12).t hGv8⟩
      · subst z
        refine ss_cons (s_if ?_)
        walk_at "go"
        refine s_set 10 ?_ sc_L_bound.nd
        refine ee_call DW rfl (hr.mono (by omega)) ?_
        walk_at "ge"
        refine ee_call DR rfl (hr.mono (by omega)) ?_
        walk_at "ge"
        refine ⟨L, Γ, rfl, hL8, fun t ht => (h3 t ht).2, by omega, fun Lb Hb eb hLb => ?_⟩
        have sAgb : SqL K Hb Ag (as.map V.str) := SqL.of (eb.keep _ _ nd_strs hAg8)
        walk_at "ge"
        refine ⟨Lb, barred Γ, nm, as.length, 0, by rw [List.length_map]; rfl, hLb, by rw [barred_len]; omega, fun L9 H9 e9' hL9 => ?_⟩
        have e9 := eb.trans e9'
        refine ss_cons (s_ret ?_)
        have sAg9 : SqL K H9 Ag (as.map V.str) := SqL.of (e9.keep _ _ nd_strs hAg8)
        walk_at "ge"
        refine cc_tupL (by assumption) (fun ap hap => ?_)
        have e10 : Ex K H9 (upd H9 ap (.tup (as.map V.str))) := Ex.new hap
        have hAp : SqS K (upd H9 ap (.tup (as.map V.str))) ap as := .inl (.inl upd_same)
        have hL10 := hL9.mono e10
        generalize (upd H9 ap (.tup (as.map V.str))) = H10 at *
        have e910 := e9.trans e10
        refine aa_cons ?_
        refine ee_call DF rfl hr ?_
        walk_at "ge"
        have := within_len (barred Γ) nm as.length 0
        rw [barred_len] at this
        refine ⟨D, N, ns, Pl, L9, _, Ki, _, rfl, by omega, e910.dr _ _ _ hD8, e910.keep _ _ vrv_nd hPl8, hL10, by omega, h3.barred.within (by omega) (by omega), e910.keep _ _ kiv_nd hKi8, fun φ v H11 e11 hw hd hF => ?_⟩
        walk_at "ge"
        refine ⟨szk (by simp), fun t ht => ?_⟩
        have e12 : Ex K H11 (upd H11 t (.tup [.str "pfp", .str nm, .ref ap, v, .ref gv])) := Ex.new ht
        refine q8 (.fix false nm as φ gs) _ _ ((e910.trans e11).trans e12) (by simp only [WF]; exact ⟨hvs, hnm2, hgl, hgs, hw⟩) (by simp only [depth]; omega) ?_
        simp only [FmAt]
        exact ⟨t, ap, gv, v, rfl, .inl (.inl upd_same), (e11.trans e12).t hAp, fmAt_mono e12.tex _ _ hF, ((e910.trans e11).trans e12).t hGv8⟩
      · subst z
        refine ss_cons (s_if ?_)
        walk_at "go"
        refine s_set 6 ?_ sc_L_bound.nd
        refine ee_call DS rfl (hr.mono (by omega)) ?_
        walk_at "ge"
        refine ⟨D, N, ns, Pl, VRv, 2, rfl, hD8, SqL.of hPl8, fun x hx a e => ?_, by decide, by decide, fun Ag2 ys2 H9 e9 _ hAg9 hyl2 ⟨rest2, hperm2⟩ => ?_⟩
        · obtain ⟨j, hj⟩ := List.mem_iff_getElem?.mp hx
          obtain ⟨s, rfl, _⟩ := vrv_get hj
          cases e
        obtain ⟨bs, rfl, hnd2, hbs⟩ := some_strs (ss := VR) (by decide) hperm2
        have hbl : bs.length = 2 := by rw [List.length_map] at hyl2; exact hyl2
        refine ss_cons (s_set 7 (ee_tup ?_) sc_L_bound.nd)
        refine aa_cons (ee_pool 0 2 DD (hr.mono (by omega)) rfl (e9.dr _ _ _ hD8) rfl (e9.keep _ _ vrv_nd hPl8) G.z_len (fun s1 H10 e10 hs1 => ?_))
        have e910 := e9.trans e10
        refine aa_cons (ee_pool 0 2 DD (hr.mono (by omega)) rfl (e910.dr _ _ _ hD8) rfl (e910.keep _ _ vrv_nd hPl8) G.z_len (fun s2 H11 e11 hs2 => ?_))
        refine aa_nil ⟨szk (by simp), fun gv2 hgv2 => ?_⟩
        have e12 : Ex K H11 (upd H11 gv2 (.tup [.str s1, .str s2])) := Ex.new hgv2
        have hG12 : SqS K (upd H11 gv2 (.tup [.str s1, .str s2])) gv2 [s1, s2] := .inl (.inl upd_same)
        have e912 := (e910.trans e11).trans e12
        have hAg12 := ((e10.trans e11).trans e12).keep _ _ nd_strs hAg9
        generalize (upd H11 gv2 (.tup [.str s1, .str s2])) = H12 at *
        have sAg12 : SqL K H12 Ag2 (bs.map V.str) := SqL.of hAg12
        refine ss_cons (s_ret ?_)
        walk_at "ge"
        refine cc_tupL (by assumption) (fun ap hap => ?_)
        have e13' : Ex K H12 (upd H12 ap (.tup (bs.map V.str))) := Ex.new hap
        have hAp : SqS K (upd H12 ap (.tup (bs.map V.str))) ap bs := .inl (.inl upd_same)
        generalize (upd H12 ap (.tup (bs.map V.str))) = H13 at *
        have e913 := e912.trans e13'
        refine aa_cons ?_
        refine ee_call DF rfl hr ?_
        walk_at "ge"
        refine ⟨D, N, ns, Pl, L, Γ, Ki, _, rfl, by omega, e913.dr _ _ _ hD8, e913.keep _ _ vrv_nd hPl8, hL8.mono e913, by omega, h3, e913.keep _ _ kiv_nd hKi8, fun φ v H14 e14' hw hd hF => ?_⟩
        walk_at "ge"
        refine ⟨szk (by simp), fun t ht => ?_⟩
        have e15 : Ex K H14 (upd H14 t (.tup [.str "tc", .ref ap, v, .ref gv2])) := Ex.new ht
        refine q8 (.tc bs φ [s1, s2]) _ _ ((e913.trans e14').trans e15) (by simp only [WF]; exact ⟨⟨hnd2, by omega, by omega, hbs⟩, hbl, rfl, by simp [hs1, hs2], hw⟩) (by simp only [depth]; omega) ?_
        simp only [FmAt]
        exact ⟨t, ap, gv2, v, rfl, .inl (.inl upd_same), (e14'.trans e15).t hAp, fmAt_mono e15.tex _ _ hF, ((e13'.trans e14').trans e15).t hG12⟩
      · subst z
        refine ss_cons (s_if ?_)
        walk_at "go"
        refine s_set 9 ?_ sc_L_bound.nd
        refine ee_dm 0 DD (hr.mono (by omega)) rfl hD8 (by decide) (fun ar H9 e9 ar0 ar2 => ?_)
        have har : ∃ an : Nat, ar = (an : Int) ∧ an ≤ 1 := ⟨ar.toNat, by omega, by omega⟩
        obtain ⟨an, rfl, han⟩ := har
        refine ss_cons (s_set 10 ?_ sc_L_bound.nd)
        refine ee_call DW rfl (hr.mono (by omega)) ?_
        walk_at "ge"
        refine ⟨L, Γ, nm, an, 0, rfl, hL8.mono e9, by omega, fun L10 H10 e10 hL10 => ?_⟩
        have e910 := e9.trans e10
        refine ss_cons (s_ret ?_)
        walk_at "ge"
        refine ee_call DF rfl hr ?_
        walk_at "ge"
        have := within_len Γ nm an 0
        refine ⟨D, N, ns, Pl, L10, _, Ki, _, rfl, by omega, e910.dr _ _ _ hD8, e910.keep _ _ vrv_nd hPl8, hL10, by omega, h3.within (by omega) (by omega), e910.keep _ _ kiv_nd hKi8, fun φ v H11 e11 hw hd hF => ?_⟩
        walk_at "ge"
        refine ⟨szk (by simp), fun t ht => ?_⟩
        have e12 : Ex K H11 (upd H11 t (.tup [.str "guess", .str nm, .int (an : Int), v])) := Ex.new ht
        refine q8 (.guess nm an φ) _ _ ((e910.trans e11).trans e12) (by simp only [WF]; exact ⟨hnm2, han, hw⟩) (by simp only [depth]; omega) ?_
        simp only [FmAt]
        exact ⟨t, v, rfl, .inl (.inl upd_same), fmAt_mono e12.tex _ _ hF⟩
theorem dn_formula (T : Top K mg "_law_formula" s_L_formula) (TB : Top K mg "_law_bound" s_L_bound) (G : Gs K mg) (DD : Dn w K mg base "_law_draw" 2 (spDraw K)) (DS : Dn w K mg base "_law_some_of" 3 (spSomeOf K)) (DA : Dn w K mg base "_law_atom" 3 (spAtom K)) (DW : Dn w K mg base "_law_within" 1 (spWithin K)) (DT : Dn w K mg base "_law_turned" 1 (spTurned K turned)) (DR : Dn w K mg base "_law_barred" 1 (spTurned K barred)) :
    ∀ d, Dn w K mg base "_law_formula" (2 * d + 5) (spFm K 1 (d + 1)) := by
  intro d
  induction d with
  | zero => exact dn_formula1 T G DD DA
  | succ d ih => exact dn_formulaS T G DD DA DT d (2 * d + 6) (by omega) (ih.mono (by omega)) (dn_bound TB G DD DS DW DR d (2 * d + 5) (by omega) ih)
end
end Sy
namespace Sy
section
variable {w : World} {K : PySem.W.Frag} {mg : Str → Option Value} {base : Heap}
theorem word_l {φ : F} (h : wordOf φ = "less") : ∃ x y, φ = .less x y := by
  cases φ with
  | less x y => exact ⟨x, y, rfl⟩
  | join s fs => cases s <;> exact absurd h (by simp only [wordOf, jW]; decide +kernel)
  | quant s vs f => cases s <;> exact absurd h (by simp only [wordOf, qW]; decide +kernel)
  | fix l nm vs f args => cases l <;> exact absurd h (by simp only [wordOf, fW]; decide +kernel)
  | _ => exact absurd h (by simp only [wordOf]; decide +kernel)
theorem noless_nil {φ : F} (h0 : ¬ wordOf φ = "less") (h1 : ¬ wordOf φ = "not") (h2 : ¬ wordOf φ = "and") (h3 : ¬ wordOf φ = "or") (h4 : wordOf φ ∉ (["some", "all", "tc"] : List Str)) (h5 : wordOf φ ∉ (["lfp", "pfp", "guess"] : List Str)) : noless φ = φ := by
  cases φ with
  | less x y => exact absurd rfl h0
  | not f => exact absurd rfl h1
  | join s fs => cases s <;> first | exact absurd rfl h2 | exact absurd rfl h3
  | quant s vs f => cases s <;> exact absurd (by simp only [wordOf, qW]; decide +kernel) h4
  | fix l nm vs f args => cases l <;> exact absurd (by simp only [wordOf, fW]; decide +kernel) h5
  | tc vs f args => exact absurd (by simp only [wordOf]; decide +kernel) h4
  | guess nm k f => exact absurd (by simp only [wordOf]; decide +kernel) h5
  | _ => rfl
def spNoLess (K : PySem.W.Frag) (d : Nat) : Sp := fun vs H Q _ => ∃ v φ, vs = [v] ∧ FmAt K H φ v ∧ depth φ ≤ d ∧ Wf φ ∧ ∀ H' v', Ex K H H' → FmAt K H' (noless φ) v' → Q v' H'
theorem dn_no_less (T : Top K mg "_law_no_less" s_L_no_less) (G : Gs K mg) : ∀ d, Dn w K mg base "_law_no_less" (d + 1) (spNoLess K d) := by
  intro d
  induction d with
  | zero =>
    refine T.dn sc_L_no_less (fun vs H Q E h => ?_) (fun _ _ _ _ _ _ us hl => match us, hl with | [_], _ => rfl) (fun f cd A outer s0 H vs Q E hr h => ?_)
    · obtain ⟨v, φ, rfl, _⟩ := h; rfl
    · obtain ⟨v, φ, rfl, _, hd, _⟩ := h
      have := depth_pos φ; omega
  | succ d ih =>
    refine T.dn sc_L_no_less (fun vs H Q E h => ?_) (fun _ _ _ _ _ _ us hl => match us, hl with | [_], _ => rfl) (fun f cd A outer s0 H vs Q E hr h => ?_)
    · obtain ⟨v, φ, rfl, _⟩ := h; rfl
    · obtain ⟨v, φ, rfl, hF, hd, hw, q⟩ := h
      obtain ⟨a, xs, rfl, ha⟩ := fmAt_tup hF
      refine ss_cons (s_if ?_)
      walk_at "ge"
      refine if_d (fun e => ?_) (fun e0 => ?_)
      · obtain ⟨x, y, rfl⟩ := word_l e
        obtain ⟨a', ea, h1⟩ := hF
        cases ea
        walk_at "go"
        refine ⟨szk (by simp), fun t ht => ?_⟩
        refine q _ _ (Ex.new ht) ?_
        simp only [noless, FmAt]
        exact ⟨t, rfl, .inl (.inl upd_same)⟩
      refine ss_nil (ss_cons (s_if ?_))
      walk_at "ge"
      have jfin : ∀ s fs, φ = .join s fs → SS (Cxd w K mg base N_L_no_less "_law_no_less" s_L_no_less f cd A outer s0 H E) (match (defBody s_L_no_less).getD 1 (.Pass ⟨0, 0, 0, 0⟩) with | .If _ b _ _ => b | _ => []) { nx := fun σ' H' => SS (Cxd w K mg base N_L_no_less "_law_no_less" s_L_no_less f cd A outer s0 H E) ((defBody s_L_no_less).drop 2) { nx := fun _ H' => Q .non H', rt := Q } σ' H', rt := Q } [some (.ref a), none] H := by
        rintro s fs rfl
        obtain ⟨a', b, us, ea, h1, h2, h3⟩ := hF
        cases ea
        refine ss_cons (s_ret (ee_tup ?_))
        refine aa_cons (ee_ix (ee_var 0 rfl (ee_int (ix_t 0 h1 rfl ?_))))
        refine aa_cons ?_
        refine ee_callTy (x := "tuple") G.z_tuple bt_tuple ?_
        refine aa_cons ?_
        refine ee_lc [("_law_part", 1)] N_L_no_less (defScope s_L_no_less) rfl sc_L_no_less.nd (ii_tup ?_)
        refine ee_ix (ee_var 0 rfl (ee_int (ix_t 1 h1 rfl ?_)))
        refine ⟨b, rfl, ⟨us, h2⟩, fun L hL => ?_⟩
        have hk3 : fs.length ≤ 3 := by obtain ⟨Γ, _, h2⟩ := hw; exact h2.few
        have hk := (fmsAt_get h3).1
        refine lt_mapT (K := K) us (fun j y H2 => ∃ g, fs[j]? = some g ∧ FmAt K H2 (noless g) y) (fun _ _ _ _ e ⟨g, h1, h2⟩ => ⟨g, h1, fmAt_mono e _ _ h2⟩) hL h2 (by omega) (fun ys H h => nd_allref fun x hx => ?_) ?_ ?_
        · obtain ⟨j, hj⟩ := List.mem_iff_getElem?.mp hx
          obtain ⟨g, _, z⟩ := h j x hj
          exact fm_ref z
        · intro i x H2 hx e2 s2 H0 C cl fp
          obtain ⟨g, hg, hgx⟩ := (fmsAt_get h3).2 i x hx
          have hgk : g ∈ kids (Fm.join s fs) := List.mem_of_getElem? hg
          refine gg_name 1 ?_ sc_L_no_less.nd
          refine ⟨rfl, Ex.refl, ?_⟩
          intro s1 H01 C1 cl1 fp1
          refine ee_call ih rfl hr ?_
          walk_at "ge"
          exact ⟨x, g, rfl, fmAt_mono e2.tex _ _ hgx, by have := depth_kid hgk; omega, hw.kid hgk, fun H3 v3 e3 h3 => ⟨e3, g, hg, h3⟩⟩
        · intro ys H2 e2 hL2 hlen hys
          refine aa_nil ?_
          refine cc_tupL (SqL.of hL2) (fun tp htp => ?_)
          refine aa_nil ?_
          refine ⟨szk (by simp), fun tq htq => ?_⟩
          have e9 : Ex K H2 (upd H2 tp (.tup ys)) := Ex.new htp
          have e10 : Ex K (upd H2 tp (.tup ys)) (upd (upd H2 tp (.tup ys)) tq (.tup [.str (jW s), .ref tp])) := Ex.new htq
          refine q _ _ ((e2.trans e9).trans e10) ?_
          simp only [noless, FmAt]
          refine ⟨tq, tp, ys, rfl, .inl (.inl upd_same), e10.t (.inl (.inl upd_same)), fmsAt_mono (e9.trans e10).tex (fmsAt_of (by rw [nolesss_map, List.length_map]; omega) fun i u hu => ?_)⟩
          obtain ⟨g, g1, g2⟩ := hys i u hu
          exact ⟨noless g, by rw [nolesss_map, List.getElem?_map, g1]; rfl, g2⟩
      refine if_d (fun e => ?_) (fun e2 => ?_)
      · obtain ⟨s, fs, e'⟩ := word_j (.inl e)
        exact jfin s fs e'
      walk_at "ge"
      refine if_d (fun e => ?_) (fun e3 => ?_)
      · obtain ⟨s, fs, e'⟩ := word_j (.inr e)
        exact jfin s fs e'
      refine ss_nil (ss_cons (s_if ?_))
      walk_at "ge"
      refine if_d (fun e => ?_) (fun e1 => ?_)
      · obtain ⟨g, rfl⟩ := word_n e
        obtain ⟨a', u, ea, h1, h2⟩ := hF
        cases ea
        walk_at "go"
        refine ee_call ih rfl hr ?_
        walk_at "ge"
        refine ⟨u, g, rfl, h2, by simp only [depth] at hd; omega, hw.kid (by simp [kids]), fun H3 v3 e3 h3 => ?_⟩
        walk_at "ge"
        refine ⟨szk (by simp), fun t ht => ?_⟩
        refine q _ _ (e3.trans (Ex.new ht)) ?_
        simp only [noless, FmAt]
        exact ⟨t, v3, rfl, .inl (.inl upd_same), fmAt_mono (TEx.new ht) _ _ h3⟩
      refine ss_nil (ss_cons (s_if ?_))
      refine bb_cmp (ee_ix (ee_var 0 rfl (ee_int (ix_t 0 ha rfl ?_))))
      refine in_new (ss := ["some", "all", "tc"]) (fun p1 hp1 => ?_) (by simp) (by walk_at "ge"; exact ⟨rfl, rfl⟩)
      refine bq ?_
      have x1 : Ex K H (upd H p1 (.lst (List.map V.str ["some", "all", "tc"]))) := Ex.new hp1
      -- f[:i] + (no_less(f[i]),) + f[i + 1:]
      refine if_d (fun e => ?_) (fun e4 => ?_)
      · refine ss_cons (s_ret (ee_bin (ee_bin (ee_slice (ee_var 0 rfl (op_none (op_some (ee_int ?_))))))))
        refine ⟨_, rfl, ?_⟩
        rcases word_q e with ⟨s, vs, g, rfl⟩ | ⟨vs, g, args, rfl⟩
        · obtain ⟨a', b, u, ea, h1, h2, h3⟩ := hF
          cases ea
          have h1' := x1.t h1
          refine sl_t h1' (fun p2 H2 e2 hp2 => ?_)
          have x2 := x1.trans e2
          have h1'' := e2.t h1'
          refine ee_tup (aa_cons ?_)
          refine ee_call ih rfl hr ?_
          walk_at "ge"
          refine ⟨u, g, rfl, fmAt_mono x2.tex _ _ h3, by simp only [depth] at hd; omega, hw.kid (by simp [kids]), fun H3 v3 e3 g3 => ?_⟩
          have h13 := e3.t h1''
          have hp3 := e3.t hp2
          refine aa_nil ?_
          refine ⟨szk (by simp), fun t ht => ?_⟩
          have e4 : Ex K H3 (upd H3 t (.tup [v3])) := Ex.new ht
          refine oo_tcat (e4.t hp3) (.inl (.inl upd_same)) (Nat.le_of_ble_eq_true rfl) (fun p5 H5 e5 hp5 => ?_)
          refine ee_slice (ee_var 0 rfl (op_some (ee_int ⟨_, rfl, op_none ?_⟩)))
          have e45 := e4.trans e5
          refine sl_t (e45.t h13) (fun p6 H6 e6 hp6 => ?_)
          refine oo_tcat (e6.t hp5) hp6 (Nat.le_of_ble_eq_true rfl) (fun p7 H7 e7 hp7 => ?_)
          refine q _ _ ((x2.trans e3).trans ((e45.trans e6).trans e7)) ?_
          simp only [noless, FmAt]
          exact ⟨p7, b, v3, rfl, hp7, ((x2.trans e3).trans ((e45.trans e6).trans e7)).t h2, fmAt_mono ((e45.trans e6).trans e7).tex _ _ g3⟩
        · obtain ⟨a', b, c, u, ea, h1, h2, h3, h4⟩ := hF
          cases ea
          have h1' := x1.t h1
          refine sl_t h1' (fun p2 H2 e2 hp2 => ?_)
          have x2 := x1.trans e2
          have h1'' := e2.t h1'
          refine ee_tup (aa_cons ?_)
          refine ee_call ih rfl hr ?_
          walk_at "ge"
          refine ⟨u, g, rfl, fmAt_mono x2.tex _ _ h3, by simp only [depth] at hd; omega, hw.kid (by simp [kids]), fun H3 v3 e3 g3 => ?_⟩
          have h13 := e3.t h1''
          have hp3 := e3.t hp2
          refine aa_nil ?_
          refine ⟨szk (by simp), fun t ht => ?_⟩
          have e4 : Ex K H3 (upd H3 t (.tup [v3])) := Ex.new ht
          refine oo_tcat (e4.t hp3) (.inl (.inl upd_same)) (Nat.le_of_ble_eq_true rfl) (fun p5 H5 e5 hp5 => ?_)
          refine ee_slice (ee_var 0 rfl (op_some (ee_int ⟨_, rfl, op_none ?_⟩)))
          have e45 := e4.trans e5
          refine sl_t (e45.t h13) (fun p6 H6 e6 hp6 => ?_)
          refine oo_tcat (e6.t hp5) hp6 (Nat.le_of_ble_eq_true rfl) (fun p7 H7 e7 hp7 => ?_)
          have ee := (x2.trans e3).trans ((e45.trans e6).trans e7)
          refine q _ _ ee ?_
          simp only [noless, FmAt]
          exact ⟨p7, b, c, v3, rfl, hp7, ee.t h2, fmAt_mono ((e45.trans e6).trans e7).tex _ _ g3, ee.t h4⟩
      refine ss_nil (ss_cons (s_if ?_))
      refine bb_cmp (ee_ix (ee_var 0 rfl (ee_int (ix_t 0 (x1.t ha) rfl ?_))))
      refine in_new (ss := ["lfp", "pfp", "guess"]) (fun p2 hp2 => ?_) (by simp) (by walk_at "ge"; exact ⟨rfl, rfl⟩)
      refine bq ?_
      have x2 := x1.trans (Ex.new (K := K) (o := .lst (List.map V.str ["lfp", "pfp", "guess"])) hp2)
      refine if_d (fun e => ?_) (fun e5 => ?_)
      · refine ss_cons (s_ret (ee_bin (ee_bin (ee_slice (ee_var 0 rfl (op_none (op_some (ee_int ?_))))))))
        refine ⟨_, rfl, ?_⟩
        rcases word_f e with ⟨l, nm, vs, g, args, rfl⟩ | ⟨nm, k, g, rfl⟩
        · obtain ⟨a', b, c, u, ea, h1, h2, h3, h4⟩ := hF
          cases ea
          have h1' := x2.t h1
          refine sl_t h1' (fun p2 H2 e2 hp2 => ?_)
          have x2 := x2.trans e2
          have h1'' := e2.t h1'
          refine ee_tup (aa_cons ?_)
          refine ee_call ih rfl hr ?_
          walk_at "ge"
          refine ⟨u, g, rfl, fmAt_mono x2.tex _ _ h3, by simp only [depth] at hd; omega, hw.kid (by simp [kids]), fun H3 v3 e3 g3 => ?_⟩
          have h13 := e3.t h1''
          have hp3 := e3.t hp2
          refine aa_nil ?_
          refine ⟨szk (by simp), fun t ht => ?_⟩
          have e4 : Ex K H3 (upd H3 t (.tup [v3])) := Ex.new ht
          refine oo_tcat (e4.t hp3) (.inl (.inl upd_same)) (Nat.le_of_ble_eq_true rfl) (fun p5 H5 e5 hp5 => ?_)
          refine ee_slice (ee_var 0 rfl (op_some (ee_int ⟨_, rfl, op_none ?_⟩)))
          have e45 := e4.trans e5
          refine sl_t (e45.t h13) (fun p6 H6 e6 hp6 => ?_)
          refine oo_tcat (e6.t hp5) hp6 (Nat.le_of_ble_eq_true rfl) (fun p7 H7 e7 hp7 => ?_)
          have ee := (x2.trans e3).trans ((e45.trans e6).trans e7)
          refine q _ _ ee ?_
          simp only [noless, FmAt]
          exact ⟨p7, b, c, v3, rfl, hp7, ee.t h2, fmAt_mono ((e45.trans e6).trans e7).tex _ _ g3, ee.t h4⟩
        · obtain ⟨a', u, ea, h1, h2⟩ := hF
          cases ea
          have h1' := x2.t h1
          refine sl_t h1' (fun p2 H2 e2 hp2 => ?_)
          have x2 := x2.trans e2
          have h1'' := e2.t h1'
          refine ee_tup (aa_cons ?_)
          refine ee_call ih rfl hr ?_
          walk_at "ge"
          refine ⟨u, g, rfl, fmAt_mono x2.tex _ _ h2, by simp only [depth] at hd; omega, hw.kid (by simp [kids]), fun H3 v3 e3 g3 => ?_⟩
          have h13 := e3.t h1''
          have hp3 := e3.t hp2
          refine aa_nil ?_
          refine ⟨szk (by simp), fun t ht => ?_⟩
          have e4 : Ex K H3 (upd H3 t (.tup [v3])) := Ex.new ht
          refine oo_tcat (e4.t hp3) (.inl (.inl upd_same)) (Nat.le_of_ble_eq_true rfl) (fun p5 H5 e5 hp5 => ?_)
          refine ee_slice (ee_var 0 rfl (op_some (ee_int ⟨_, rfl, op_none ?_⟩)))
          have e45 := e4.trans e5
          refine sl_t (e45.t h13) (fun p6 H6 e6 hp6 => ?_)
          refine oo_tcat (e6.t hp5) hp6 (Nat.le_of_ble_eq_true rfl) (fun p7 H7 e7 hp7 => ?_)
          have ee := (x2.trans e3).trans ((e45.trans e6).trans e7)
          refine q _ _ ee ?_
          simp only [noless, FmAt]
          exact ⟨p7, v3, rfl, hp7, fmAt_mono ((e45.trans e6).trans e7).tex _ _ g3⟩
      refine ss_nil (ss_cons (s_ret (ee_var 0 rfl ?_)))
      rw [noless_nil e0 e1 e2 e3 e4 e5] at q
      exact q _ _ x2 (fmAt_mono x2.tex _ _ hF)
end
end Sy
namespace Sy
theorem lat_of {α : Type} {R : α → V → Prop} : ∀ {ys : List V} {P : Nat → α → Prop}, (∀ (i : Nat) y, ys[i]? = some y → ∃ t, R t y ∧ P i t) → ∃ ts : List α, LAt R ts ys ∧ ∀ (i : Nat) t, ts[i]? = some t → P i t
  | [], P, _ => ⟨[], LAt.nil, fun i t h => by simp at h⟩
  | y :: ys, P, h => by
    obtain ⟨t, h1, h2⟩ := h 0 y rfl
    obtain ⟨ts, g1, g2⟩ := lat_of (ys := ys) (P := fun i t => P (i + 1) t) (fun i z hz => h (i + 1) z (by simpa using hz))
    refine ⟨t :: ts, ⟨by simp [g1.1], fun i u hu => ?_⟩, fun i u hu => ?_⟩
    · cases i with
      | zero => have : y = u := by simpa using hu
                subst this; exact ⟨t, rfl, h1⟩
      | succ i => exact g1.2 i u (by simpa using hu)
    · cases i with
      | zero => have : t = u := by simpa using hu
                subst this; exact h2
      | succ i => exact g2 i u (by simpa using hu)
section
variable {X : Cx} {σ : L2.St} {H : Hp} {Q : VK} {a l : Addr} {o e : Expr} {apos pos : Pos}
theorem ee_extend (h : EE X o σ H fun x H1 => ∃ l, x = .ref l ∧ (∃ xs, SqL X.K H1 l xs) ∧ EE X e σ H1 fun y H2 => ∃ b xs zs, y = .ref b ∧ H2 l = some (.lst xs) ∧ H2 b = some (.lst zs) ∧ xs.length + zs.length ≤ sizeLine ∧ Q .non (upd H2 l (.lst (xs ++ zs))))
    (hbase : attributeBase o "extend" X.env (eval o X.env) = eval o X.env := by rfl)
    (hfew : ((backTo pos (starEach [e] X.env)).all (fun x => !x.1) && (backToKw pos (keywordEach [] X.env)).all (fun x => x.1.isSome)
      && decide (([e] : List Expr).length + ([] : List Keyword).length + (if ([] : List Keyword).isEmpty then 0 else 1) < 30)) = true := by rfl)
    (hline : (apos.endLine == pos.line) = true := by rfl) (hs : starEach [e] X.env = (false, eval e X.env) :: starEach [] X.env := by rfl) (hplain : (backTo pos (starEach [] X.env)).any (·.1) = false := by rfl) :
    EE X (.Call (.Attribute o "extend" apos) [e] [] pos) σ H Q := by
  refine ee_bm PySem.F.plainAttrs_list PySem.F.slot_list_extend PySem.F.type_list_extend ⟨fun pins s I => thn (h.run pins s I) fun u s' ⟨x, H1, I1, r, l, e1, hx, q⟩ => ⟨x, H1, I1, r, ?_, ?_⟩⟩ hbase hfew hline hs hplain
  · subst e1; exact .inl ⟨rfl, hx⟩
  · refine aa_cons ⟨fun pins s I => thn (q.run pins s I) fun u s' ⟨y, H2, I2, r2, b, xs, zs, e2, h1, h2, h3, q2⟩ => ⟨y, H2, I2, r2, ?_⟩⟩ hs
    refine aa_nil ?_
    subst e1; subst e2
    exact mm_of mt_extend ⟨l, b, xs, zs, rfl, rfl, h1, h2, h3, q2⟩
end
section
variable {K : PySem.W.Frag}
theorem RowsAt.append {H : Hp} {rs rs' : List (List Int)} {vs vs' : List V} (h : RowsAt K H rs vs) (h' : RowsAt K H rs' vs') : RowsAt K H (rs ++ rs') (vs ++ vs') := by
  refine ⟨by simp [h.1, h'.1], fun i u hu => ?_⟩
  by_cases hi : i < vs.length
  · rw [List.getElem?_append_left hi] at hu
    obtain ⟨r', h1, h2⟩ := h.2 i u hu
    exact ⟨r', by rw [List.getElem?_append_left (by rw [← h.1]; exact hi)]; exact h1, h2⟩
  · rw [List.getElem?_append_right (by omega)] at hu
    obtain ⟨r', h1, h2⟩ := h'.2 _ u hu
    exact ⟨r', by rw [List.getElem?_append_right (by rw [← h.1]; omega), ← h.1]; exact h1, h2⟩
abbrev RelT := Str × Nat × List (List Int)
/-- a relation with a tuple of rows -/
def RelAt (K : PySem.W.Frag) (H : Hp) (t : RelT) (v : V) : Prop := ∃ a b vs, v = .ref a ∧ SqT K H a [.str t.1, .int t.2.1, .ref b] ∧ SqT K H b vs ∧ RowsAt K H t.2.2 vs
theorem RelAt.mono {H H' : Hp} {t : RelT} {v : V} (e : TEx H H') (h : RelAt K H t v) : RelAt K H' t v := let ⟨a, b, vs, h1, h2, h3, h4⟩ := h; ⟨a, b, vs, h1, e.t h2, e.t h3, h4.mono e⟩
/-- a relation with a list of rows -/
def RlAt (K : PySem.W.Frag) (L : Addr) (H : Hp) (t : RelT) (v : V) : Prop := ∃ a b vs, v = .ref a ∧ SqT K H a [.str t.1, .int t.2.1, .ref b] ∧ b ≠ L ∧ H b = some (.lst vs) ∧ RowsAt K H t.2.2 vs
theorem RlAt.mono {H H' : Hp} {L : Addr} {t : RelT} {v : V} (e : Ex K H H') (h : RlAt K L H t v) : RlAt K L H' t v := let ⟨a, b, vs, h1, h2, h3, h4, h5⟩ := h; ⟨a, b, vs, h1, e.t h2, h3, e.keep _ _ (nd_allref h5.refs) h4, h5.mono e.tex⟩
def RelOk (n : Nat) (t : RelT) : Prop := (∀ r ∈ t.2.2, IsRow n t.2.1 r) ∧ t.2.2.length ≤ 16 ∧ t.2.2.Nodup
def SIG : List (Str × Nat) := [("e", 2), ("p", 1), ("q", 0)]
def WOk (n : Nat) (rels : List RelT) : Prop := rels.map (fun t => (t.1, t.2.1)) = SIG ∧ ∀ t ∈ rels, RelOk n t
end
section
variable {X : Cx} {σ : L2.St} {H : Hp} {elt tg c : Expr} {scope : Scope} {vs : List Nat} {a : Addr} {K : PySem.W.Frag} {L : Addr} {Qd : Hp → Prop}
theorem linv_step2 {R : Nat → V → Hp → Prop} (m1 : ∀ i y H H', Ex K H H' → R i y H → R i y H') (m2 : ∀ i y H ys zs, H L = some (.lst ys) → R i y H → R i y (upd H L (.lst zs))) {i : Nat} {H3 H4 : Hp} {ys : List V} {y : V} (hL : H L = none) (e : Ex K H H3) (e4 : Ex K H3 H4) (hl : H3 L = some (.lst ys)) (nd : NotDraw (.lst ys)) (hi : ys.length = i)
    (hR : ∀ j y, ys[j]? = some y → R j y H3) (r : R i y H4) : H4 L = some (.lst ys) ∧ LInv K R L H (i + 1) (upd H4 L (.lst (ys ++ [y]))) := by
  have h4 : H4 L = some (.lst ys) := e4.keep _ _ nd hl
  refine ⟨h4, ys ++ [y], (e.trans e4).mut hL, upd_same, by simp [hi], fun j z hz => ?_⟩
  refine m2 _ _ _ _ _ h4 ?_
  by_cases hj : j < ys.length
  · rw [List.getElem?_append_left hj] at hz
    exact m1 _ _ _ _ e4 (hR j z hz)
  · rw [List.getElem?_append_right (by omega)] at hz
    have : j - ys.length = 0 := by
      have := (List.getElem?_eq_some_iff.mp hz).1
      simp at this; omega
    rw [this] at hz
    have ej : j = i := by omega
    have ez : y = z := by simpa using hz
    rw [ej, ← ez]; exact r
/-- items that may hold lists of their own -/
theorem lt_mapL2 (xs : List V) (R : Nat → V → Hp → Prop) (m1 : ∀ i y H H', Ex K H H' → R i y H → R i y H') (m2 : ∀ i y H ys zs, H L = some (.lst ys) → R i y H → R i y (upd H L (.lst zs))) (hL : H L = none) (hl : SqL K H a xs) (ndx : NotDraw (.lst xs)) (hz : xs.length ≤ 100000)
    (nd : ∀ (ys : List V) H, (∀ j y, ys[j]? = some y → R j y H) → NotDraw (.lst ys))
    (hs : ∀ i x H2, xs[i]? = some x → Ex K H H2 → (∃ ys, NotDraw (.lst ys) ∧ H2 L = some (.lst ys)) → GGb X scope tg x (wipe σ vs) H2 fun σ2 H3 => wipe σ2 vs = wipe σ vs ∧ Ex K H2 H3 ∧ EEb X scope elt σ2 H3 fun y H4 => Ex K H3 H4 ∧ R i y H4)
    (hd : ∀ ys H', Ex K H H' → H' L = some (.lst ys) → ys.length = xs.length → (∀ j y, ys[j]? = some y → R j y H') → Qd H') : LTurns (Itl K a) (GGb X scope tg) tYes (EEb X scope elt) vs σ L H Qd := by
  refine lc_list (xs := xs) (LInv K R L H) ⟨[], Ex.new hL, upd_same, rfl, fun j y h => by simp at h⟩ (fun i H' _ ⟨ys, e, _⟩ => e.l ndx hl) ?_ (fun H' ⟨ys, e, h1, h2, h3⟩ => hd ys H' e h1 h2 h3)
  rintro i x H2 hx ⟨ys, e, h1, h2, h3⟩
  intro s H0 C cl fp
  have hi := (List.getElem?_eq_some_iff.mp hx).1
  have nds := nd ys H2 h3
  refine ⟨fun pins s1 u I r => thn ((hs i x H2 hx e ⟨ys, nds, h1⟩ s H0 C cl fp).run pins s1 u I r) fun _ s2 ⟨σ2, H3, I3, hw, e3, q⟩ => ⟨σ2, H3, I3, hw, ?_⟩⟩
  refine tyes ?_
  refine iteT ?_
  intro s H0 C cl fp
  refine ⟨fun pins s1 I => thn ((q s H0 C cl fp).run pins s1 I) fun u s2 ⟨y, H4, I4, r4, e4, hy⟩ => ⟨y, H4, I4, r4, ?_⟩⟩
  obtain ⟨g1, g2⟩ := linv_step2 m1 m2 hL (e.trans e3) e4 (e3.keep _ _ nds h1) nds h2 (fun j y hj => m1 _ _ _ _ e3 (h3 j y hj)) hy
  exact ⟨ys, g1, by rw [sizeLine_eq]; omega, g2⟩
end
section
variable {w : World} {K : PySem.W.Frag} {mg : Str → Option Value} {base : Heap}
def spTuples (K : PySem.W.Frag) : Sp := fun vs H Q _ => ∃ n k : Nat, vs = [.int n, .int k] ∧ n ≤ 4 ∧ k ≤ 2 ∧
  ∀ H' L us, Ex K H H' → H' L = some (.lst us) → RowsAt K H' (rowsL n k) us → Q (.ref L) H'
theorem dn_tuples (T : Top K mg "_law_tuples" s_L_tuples) (G : Gs K mg) : Dn w K mg base "_law_tuples" 1 (spTuples K) := by
  refine T.dn sc_L_tuples (fun vs H Q E h => ?_) (fun _ _ _ _ _ _ us hl => match us, hl with | [_, _], _ => rfl) (fun f cd A outer s H vs Q E hr h => ?_)
  · obtain ⟨n, k, rfl, _⟩ := h; rfl
  · obtain ⟨n, k, rfl, hn, hk, q⟩ := h
    refine ss_cons (s_set 2 ?_ sc_L_tuples.nd)
    walk_at "go"
    refine ⟨szk (by simp), fun e0 he0 => ?_⟩
    walk_at "go"
    refine ⟨szk (by simp), fun l0 hl0 => ?_⟩
    have x0 : Ex K H (upd (upd H e0 (.tup [])) l0 (.lst [.ref e0])) := (Ex.new he0).trans (Ex.new hl0)
    walk_at "go"
    refine s_forT PassesOwn.never rfl (ii_range G.z_range ?_)
    walk_at "go"
    refine ⟨by omega, by omega, ?_⟩
    rw [Int.toNat_natCast]
    have small : ∀ i, i ≤ k → n ^ i ≤ 16 := fun i hi => by
      have h2 : i = 0 ∨ i = 1 ∨ i = 2 := by omega
      rcases h2 with rfl | rfl | rfl
      · simp
      · simp; omega
      · have := Nat.mul_le_mul hn hn; rw [Nat.pow_two]; omega
    refine turns_range k (fun i σ H' => ∃ L us y r m z, σ = [some (.int n), some (.int k), some (.ref L), y, r, m, z] ∧ Ex K H H' ∧ H' L = some (.lst us) ∧ RowsAt K H' (rowsL n i) us) ?_ ?_ ?_
    · refine ⟨l0, _, none, none, none, none, rfl, x0, upd_same, ?_⟩
      refine (RowsAt.nil.snoc (r := []) ⟨e0, rfl, ?_⟩ : RowsAt K _ ([] ++ [[]]) ([] ++ [V.ref e0]))
      rw [upd_ne (ne_of_none upd_same hl0)]; exact upd_same
    · rintro i σ H' hi ⟨L, us, y, r, m, z, rfl, x1, hL, hR⟩
      have hik := small i (by omega)
      have hus : us.length = n ^ i := by rw [hR.1, rowsL_len]
      refine gg_name 3 ?_ sc_L_tuples.nd
      refine ss_cons (s_set 4 ?_ sc_L_tuples.nd)
      walk_at "ge"
      refine ⟨szk (by simp), fun l1 hl1 => ?_⟩
      have y1 : Ex K H' (upd H' l1 (.lst [])) := Ex.new hl1
      refine ss_cons (s_forT PassesOwn.never rfl (ii_list ?_))
      walk_at "ge"
      have nds := nd_allref hR.refs
      refine ⟨⟨us, SqL.of (y1.keep _ _ nds hL)⟩, ?_⟩
      refine turns_list us (fun j σ H2 => ∃ y r z vs, σ = [some (.int n), some (.int k), some (.ref L), y, some (.ref l1), r, z] ∧ Ex K H' H2 ∧ H2 l1 = some (.lst vs) ∧ RowsAt K H2 (rowsTo n (rowsL n i) j 0) vs) ?_ (fun j σ H2 _ ⟨_, _, _, _, _, e, _⟩ => SqL.of (e.keep _ _ nds hL)) ?_ ?_
      · refine ⟨_, _, _, [], rfl, y1, upd_same, ?_⟩
        rw [rowsTo_zero]; exact RowsAt.nil
      · rintro j x σ H2 hx ⟨y', r', z', vs, rfl, e2, h2, hV⟩
        obtain ⟨r0, hr0, p, rfl, hp0⟩ := hR.2 j x hx
        have hj := (List.getElem?_eq_some_iff.mp hx).1
        have hvl : vs.length ≤ 100 := by
          have := rowsTo_le n (rowsL n i) j 0 (by omega)
          rw [← hV.1, rowsL_len] at this
          have : (n ^ i + 1) * n ≤ (16 + 1) * 4 := Nat.mul_le_mul (by omega) hn
          omega
        refine gg_name 5 ?_ sc_L_tuples.nd
        refine ss_cons (s_expr (ee_extend ?_))
        walk_at "ge"
        refine ⟨⟨_, SqL.of h2⟩, ?_⟩
        refine ee_lc [("_law_x", 6)] N_L_tuples (defScope s_L_tuples) rfl sc_L_tuples.nd (ii_range G.z_range ?_)
        walk_at "ge"
        refine ⟨by omega, by omega, ?_⟩
        rw [Int.toNat_natCast]
        intro D hD
        have hr0l : r0.length = i := (mem_rowsL.mp (List.mem_of_getElem? hr0)).1
        refine lt_mapR (K := K) n (fun b y H2 => RowAt K H2 (r0 ++ [(b : Int)]) y) (fun _ _ _ _ e h => h.mono e) hD (by omega) (fun ys H h => nd_allref fun x hx => by
          obtain ⟨j, hj⟩ := List.mem_iff_getElem?.mp hx
          obtain ⟨a, e, _⟩ := h j x hj
          exact ⟨a, e⟩) ?_ ?_
        · intro b H3 hb e3 s2 H0 C cl fp
          refine gg_name 6 ?_ sc_L_tuples.nd
          refine ⟨rfl, Ex.refl, ?_⟩
          intro s1 H01 C1 cl1 fp1
          walk_at "ge"
          refine ⟨szk (by simp), fun t ht => ?_⟩
          have e4 : Ex K H3 (upd H3 t (.tup [V.int (0 + (b : Int))])) := Ex.new ht
          refine oo_tcatE (((e2.trans e3).trans e4).tr hp0) upd_same (by rw [List.length_map, hr0l]; simp; omega) (fun p5 H5 e5 hp5 => ?_)
          refine ⟨e4.trans e5, p5, rfl, ?_⟩
          rw [List.map_append]
          have : (0 + (b : Int)) = (b : Int) := by omega
          rw [this] at hp5
          exact hp5
        · intro ws H3 e3 hD3 hwl hws
          have ndv : NotDraw (.lst vs) := nd_allref hV.refs
          have h23 := e3.keep _ _ ndv h2
          refine ⟨D, vs, ws, rfl, h23, hD3, by rw [sizeLine_eq]; omega, ?_⟩
          refine ss_nil ?_
          have ex3 : Ex K H' (upd H3 l1 (.lst (vs ++ ws))) := (e2.trans e3).mut hl1
          have tx : TEx H3 (upd H3 l1 (.lst (vs ++ ws))) := TEx.upd h23 (fun _ z => nomatch z) (fun _ _ z => nomatch z)
          refine ⟨_, _, _, _, rfl, ex3, upd_same, ?_⟩
          rw [← rowsTo_next n (rowsL n i) j (by rw [← hR.1]; exact hj)]
          have er : rowsTo n (rowsL n i) j n = rowsTo n (rowsL n i) j 0 ++ (List.range n).map fun m : Nat => r0 ++ [(m : Int)] := by
            rw [rowsTo_zero]; unfold rowsTo; rw [hr0]; rfl
          rw [er]
          refine RowsAt.append ((hV.mono e3.tex).mono tx) ⟨by simp [hwl], fun b u hu => ?_⟩
          have hbn : b < n := by have := (List.getElem?_eq_some_iff.mp hu).1; omega
          exact ⟨_, by rw [List.getElem?_map, List.getElem?_range hbn]; rfl, (hws b u hu).mono tx⟩
      · rintro σ H2 ⟨y', r', z', vs, rfl, e2, h2, hV⟩
        refine ss_cons (s_set 2 ?_ sc_L_tuples.nd)
        walk_at "go"
        refine ⟨l1, vs, _, _, _, _, rfl, x1.trans e2, h2, ?_⟩
        rw [rowsTo_zero, hR.1, List.take_length] at hV
        exact hV
    · rintro σ H' ⟨L, us, y, r, m, z, rfl, x1, hL, hR⟩
      walk_at "go"
      exact q H' L us x1 hL hR
theorem rowsL_nd' (n k : Nat) : (rowsL n k).Nodup := (rowsL_sorted n k).imp fun h e => by rw [e] at h; exact rlt_irrefl _ h
def spSubset (K : PySem.W.Frag) : Sp := fun vs H Q _ => ∃ D N ns L us rs, vs = [.ref D, .ref L] ∧ Draws K D N ns H ∧ H L = some (.lst us) ∧ RowsAt K H rs us ∧ rs.length ≤ 16 ∧
  ∀ H' L' us' rs', Ex K H H' → H' L' = some (.lst us') → RowsAt K H' rs' us' → rs'.Sublist rs → rs'.length ≤ 16 → Q (.ref L') H'
theorem dn_subset (T : Top K mg "_law_subset" s_L_subset) (G : Gs K mg) (DD : Dn w K mg base "_law_draw" 2 (spDraw K)) : Dn w K mg base "_law_subset" 3 (spSubset K) := by
  refine T.dn sc_L_subset (fun vs H Q E h => ?_) (fun _ _ _ _ _ _ us hl => match us, hl with | [_, _], _ => rfl) (fun f cd A outer s H vs Q E hr h => ?_)
  · obtain ⟨D, N, ns, L, us, rs, rfl, _⟩ := h; rfl
  · obtain ⟨D, N, ns, L, us, rs, rfl, hD, hL, hU, hz, q⟩ := h
    refine ss_cons (s_set 2 ?_ sc_L_subset.nd)
    refine ee_dm 0 DD (hr.mono (by decide)) rfl hD (by decide) (fun r H1 e1 r0 r5 => ?_)
    have ndu := nd_allref hU.refs
    have hL1 := e1.keep _ _ ndu hL
    have hU1 := hU.mono e1.tex
    refine ss_cons (s_if ?_)
    walk_at "ge"
    refine if_d (fun h0 => ?_) (fun h0 => ?_)
    · walk_at "go"
      refine cc_listL (SqL.of hL1) (fun p hp => ?_)
      exact q _ p us rs (e1.trans (Ex.new hp)) upd_same (hU1.mono (TEx.new hp)) (List.Sublist.refl _) hz
    refine ss_nil (ss_cons (s_if ?_))
    walk_at "ge"
    refine if_d (fun h1 => ?_) (fun h1 => ?_)
    · walk_at "go"
      refine ⟨szk (by simp), fun p hp => ?_⟩
      exact q _ p [] [] (e1.trans (Ex.new hp)) upd_same RowsAt.nil (List.nil_sublist _) (by simp)
    refine ss_nil (ss_cons (s_ret ?_))
    refine ee_lcIf [("_law_row", 3)] N_L_subset (defScope s_L_subset) rfl sc_L_subset.nd (ii_list ?_)
    walk_at "ge"
    refine ⟨⟨us, SqL.of hL1⟩, fun R hR => ?_⟩
    have hul : us.length ≤ 16 := by rw [hU.1]; exact hz
    refine lt_ifL (K := K) us (fun i ys H2 => i ≤ us.length ∧ ys.length ≤ i ∧ ∃ rs', RowsAt K H2 rs' ys ∧ rs'.Sublist (rs.take i)) hR (SqL.of hL1) ndu (by omega) (fun H' _ => ⟨Nat.zero_le _, Nat.zero_le _, [], RowsAt.nil, List.nil_sublist _⟩) ?_ (fun i ys H H' e ⟨h0, h1, rs', h2, h3⟩ => ⟨h0, h1, rs', h2.mono e, h3⟩) ?_ ?_
    · rintro i ys H2 ⟨_, h1, rs', h2, _⟩
      exact ⟨h1, nd_allref h2.refs⟩
    · rintro i x ys H2 hx e2 ⟨g0, g1, rs', g2, g3⟩ s0 H0 C cl fp
      obtain ⟨r1, hr1, hx1⟩ := hU1.2 i x hx
      have hi := (List.getElem?_eq_some_iff.mp hx).1
      refine gg_name 3 ?_ sc_L_subset.nd
      refine ⟨rfl, Ex.refl, ?_⟩
      intro s1 H01 C1 cl1 fp1
      refine bb_cmp (ee_bin (ee_dr 0 DD (hr.mono (by decide)) rfl ((e1.trans e2).dr _ _ _ hD) (fun r3 H3 e3 _ _ => ?_)))
      walk_at "ge"
      refine oo_mod (by omega) ?_
      walk_at "ge"
      refine ⟨e3, ?_⟩
      refine if_d (fun hq => ?_) (fun hq => ?_)
      · intro s1 H01 C1 cl1 fp1
        walk_at "ge"
        refine ⟨Ex.refl, hi, by simp; omega, rs' ++ [r1], (g2.mono e3.tex).snoc (hx1.mono (e2.trans e3).tex), ?_⟩
        rw [show rs.take (i + 1) = rs.take i ++ [r1] from by rw [List.take_add_one, hr1]; rfl]
        exact g3.append (List.Sublist.refl _)
      · refine ⟨hi, by omega, rs', g2.mono e3.tex, ?_⟩
        rw [show rs.take (i + 1) = rs.take i ++ [r1] from by rw [List.take_add_one, hr1]; rfl]
        exact g3.trans (List.sublist_append_left _ _)
    · rintro ys H2 e2 hR2 ⟨_, g1, rs', g2, g3⟩
      rw [hU.1, List.take_length] at g3
      exact q _ R ys rs' (e1.trans e2) hR2 g2 g3 (by rw [← g2.1]; omega)
def spWorld (K : PySem.W.Frag) : Sp := fun vs H Q _ => ∃ D N ns, ∃ n : Nat, vs = [.ref D, .int n] ∧ Draws K D N ns H ∧ n ≤ 4 ∧ ∀ H' L us rels, Ex K H H' → H' L = some (.lst us) → LAt (RelAt K H') rels us → WOk n rels → Q (.ref L) H'
theorem dn_law_world (T : Top K mg "_law_world" s_L_world) (G : Gs K mg) (DS : Dn w K mg base "_law_subset" 3 (spSubset K)) (DT : Dn w K mg base "_law_tuples" 1 (spTuples K)) : Dn w K mg base "_law_world" 4 (spWorld K) := by
  refine T.dn sc_L_world (fun vs H Q E h => ?_) (fun _ _ _ _ _ _ us hl => match us, hl with | [_, _], _ => rfl) (fun f cd A outer s H vs Q E hr h => ?_)
  · obtain ⟨D, N, ns, n, rfl, _⟩ := h; rfl
  · obtain ⟨D, N, ns, n, rfl, hD, hn, q⟩ := h
    refine ss_cons (s_set 2 ?_ sc_L_world.nd)
    walk_at "ge"
    refine ⟨szk (by simp), fun t1 h1 => ?_⟩
    walk_at "ge"
    refine ⟨szk (by simp), fun t2 h2 => ?_⟩
    walk_at "ge"
    refine ⟨szk (by simp), fun t3 h3 => ?_⟩
    walk_at "ge"
    refine ⟨szk (by simp), fun L hL => ?_⟩
    have x1 : Ex K H (upd H t1 (.tup [.str "e", .int 2])) := Ex.new h1
    have a1 : SqT K (upd H t1 (.tup [.str "e", .int 2])) t1 [.str "e", .int (2 : Nat)] := .inl (.inl upd_same)
    generalize upd H t1 (.tup [.str "e", .int 2]) = H1 at *
    have x2 : Ex K H1 (upd H1 t2 (.tup [.str "p", .int 1])) := Ex.new h2
    have a2 : SqT K (upd H1 t2 (.tup [.str "p", .int 1])) t2 [.str "p", .int (1 : Nat)] := .inl (.inl upd_same)
    generalize upd H1 t2 (.tup [.str "p", .int 1]) = H2 at *
    have x3 : Ex K H2 (upd H2 t3 (.tup [.str "q", .int 0])) := Ex.new h3
    have a3 : SqT K (upd H2 t3 (.tup [.str "q", .int 0])) t3 [.str "q", .int (0 : Nat)] := .inl (.inl upd_same)
    generalize upd H2 t3 (.tup [.str "q", .int 0]) = H3 at *
    have x4 : Ex K H3 (upd H3 L (.lst [.ref t1, .ref t2, .ref t3])) := Ex.new hL
    have hLL : (upd H3 L (.lst [.ref t1, .ref t2, .ref t3])) L = some (.lst [.ref t1, .ref t2, .ref t3]) := upd_same
    generalize upd H3 L (.lst [.ref t1, .ref t2, .ref t3]) = H4 at *
    have b1 := x4.t (x3.t (x2.t a1))
    have b2 := x4.t (x3.t a2)
    have b3 := x4.t a3
    have x := ((x1.trans x2).trans x3).trans x4
    have ndl : NotDraw (.lst [V.ref t1, V.ref t2, V.ref t3]) := nd_allref (by simp)
    have sg : ∀ (i : Nat) (v : V), ([V.ref t1, V.ref t2, V.ref t3] : List V)[i]? = some v → ∃ a nm, ∃ k : Nat, v = .ref a ∧ SqT K H4 a [.str nm, .int k] ∧ k ≤ 2 ∧ SIG[i]? = some (nm, k) := fun i v hv => by
      match i, hv with
      | 0, hv => exact ⟨t1, "e", 2, by simpa using hv.symm, b1, by omega, rfl⟩
      | 1, hv => exact ⟨t2, "p", 1, by simpa using hv.symm, b2, by omega, rfl⟩
      | 2, hv => exact ⟨t3, "q", 0, by simpa using hv.symm, b3, by omega, rfl⟩
      | i + 3, hv => simp at hv
    refine ss_cons (s_ret ?_)
    refine ee_lc [("_law_name", 3), ("_law_arity", 4)] N_L_world (defScope s_L_world) rfl sc_L_world.nd (ii_list ?_)
    walk_at "ge"
    refine ⟨⟨_, SqL.of hLL⟩, fun R hR => ?_⟩
    refine lt_mapL (K := K) [V.ref t1, V.ref t2, V.ref t3] (fun i y H2 => ∃ t, RelAt K H2 t y ∧ SIG[i]? = some (t.1, t.2.1) ∧ RelOk n t) (fun i y H H' e ⟨t, h1, h2⟩ => ⟨t, h1.mono e, h2⟩) hR (SqL.of hLL) ndl (by simp) (fun ys H h => nd_allref fun x hx => by
      obtain ⟨j, hj⟩ := List.mem_iff_getElem?.mp hx
      obtain ⟨t, ⟨a, b, vs, e, _⟩, _⟩ := h j x hj
      exact ⟨a, e⟩) ?_ ?_
    · intro i v H5 hx e5 s0 H0 C cl fp
      obtain ⟨a, nm, k, rfl, ha, hk, hs⟩ := sg i v hx
      refine gg_tup rfl (e5.t ha) ?_ rfl
      refine ggs_cons (gg_name 3 ?_ sc_L_world.nd)
      refine ggs_cons (gg_name 4 ?_ sc_L_world.nd)
      refine ggs_nil ⟨rfl, Ex.refl, ?_⟩
      intro s1 H01 C1 cl1 fp1
      walk_at "ge"
      refine ee_call DS rfl (hr.mono (by decide)) ?_
      walk_at "ge"
      refine ee_call DT rfl (hr.mono (by decide)) ?_
      walk_at "ge"
      refine ⟨n, k, rfl, hn, hk, fun H6 L6 us6 e6 h6 hR6 => ?_⟩
      walk_at "ge"
      have hl6 : (rowsL n k).length ≤ 16 := by
        rw [rowsL_len]
        have h2 : k = 0 ∨ k = 1 ∨ k = 2 := by omega
        rcases h2 with rfl | rfl | rfl
        · simp
        · simp; omega
        · have := Nat.mul_le_mul hn hn; rw [Nat.pow_two]; omega
      refine ⟨D, N, ns, L6, us6, _, rfl, (x.trans (e5.trans e6)).dr _ _ _ hD, h6, hR6, hl6, fun H7 L7 us7 rs7 e7 h7 hR7 hsub hlen => ?_⟩
      walk_at "ge"
      refine cc_tupL (SqL.of h7) (fun p hp => ?_)
      walk_at "ge"
      refine ⟨szk (by simp), fun p2 hp2 => ?_⟩
      have e8 : Ex K H7 (upd H7 p (.tup us7)) := Ex.new hp
      have e9 : Ex K (upd H7 p (.tup us7)) (upd (upd H7 p (.tup us7)) p2 (.tup [.str nm, .int k, .ref p])) := Ex.new hp2
      refine ⟨((e6.trans e7).trans e8).trans e9, (nm, k, rs7), ⟨p2, p, us7, rfl, .inl (.inl upd_same), e9.t (.inl (.inl upd_same)), hR7.mono (e8.trans e9).tex⟩, hs, fun r hr' => mem_rowsL.mp (hsub.subset hr'), hlen, hsub.nodup (rowsL_nd' n k)⟩
    · intro ys H5 e5 hR5 hlen hys
      obtain ⟨ts, g1, g2⟩ := lat_of hys
      refine q _ R ys ts (x.trans e5) hR5 g1 ⟨?_, fun t ht => ?_⟩
      · refine List.ext_getElem? fun i => ?_
        rw [List.getElem?_map]
        have hl3 : ts.length = 3 := by rw [← g1.1, hlen]; rfl
        by_cases hi : i < 3
        · have ht : ts[i]? = some (ts[i]'(by omega)) := List.getElem?_eq_getElem _
          rw [ht, (g2 i _ ht).1]; rfl
        · rw [List.getElem?_eq_none (by omega), List.getElem?_eq_none (by show 3 ≤ i; omega)]; rfl
      · obtain ⟨i, hi⟩ := List.mem_iff_getElem?.mp ht
        exact (g2 i t hi).2
def spLists (K : PySem.W.Frag) : Sp := fun vs H Q _ => ∃ L us rels n, vs = [.ref L] ∧ H L = some (.lst us) ∧ LAt (RelAt K H) rels us ∧ WOk n rels ∧ ∀ H' L' us', Ex K H H' → H' L' = some (.lst us') → LAt (RlAt K L' H') rels us' → Q (.ref L') H'
theorem dn_lists (T : Top K mg "_law_lists" s_L_lists) (G : Gs K mg) : Dn w K mg base "_law_lists" 1 (spLists K) := by
  refine T.dn sc_L_lists (fun vs H Q E h => ?_) (fun _ _ _ _ _ _ us hl => match us, hl with | [_], _ => rfl) (fun f cd A outer s H vs Q E hr h => ?_)
  · obtain ⟨L, us, rels, n, rfl, _⟩ := h; rfl
  · obtain ⟨L, us, rels, n, rfl, hL, hU, hw, q⟩ := h
    have hul : us.length = 3 := by rw [hU.1]; have := congrArg List.length hw.1; rw [List.length_map] at this; exact this
    have ndu : NotDraw (.lst us) := nd_allref fun x hx => by
      obtain ⟨t, _, a, b, vs, e, _⟩ := hU.mem hx
      exact ⟨a, e⟩
    refine ss_cons (s_ret ?_)
    refine ee_lc [("_law_name", 1), ("_law_arity", 2), ("_law_rows", 3)] N_L_lists (defScope s_L_lists) rfl sc_L_lists.nd (ii_list ?_)
    walk_at "ge"
    refine ⟨⟨_, SqL.of hL⟩, fun R hR => ?_⟩
    refine lt_mapL2 (K := K) us (fun i y H2 => ∃ t, rels[i]? = some t ∧ RlAt K R H2 t y) (fun i y H H' e ⟨t, h1, h2⟩ => ⟨t, h1, h2.mono e⟩) (fun i y H ys zs hl ⟨t, h1, a, b, vs, h2, h3, h4, h5, h6⟩ => ⟨t, h1, a, b, vs, h2, ?_, h4, ?_, h6.mono (TEx.upd hl (fun _ z => nomatch z) (fun _ _ z => nomatch z))⟩) hR (SqL.of hL) ndu (by omega) (fun ys H h => nd_allref fun x hx => by
      obtain ⟨j, hj⟩ := List.mem_iff_getElem?.mp hx
      obtain ⟨t, _, a, b, vs, e, _⟩ := h j x hj
      exact ⟨a, e⟩) ?_ ?_
    · exact (TEx.upd hl (fun _ z => nomatch z) (fun _ _ z => nomatch z)).t h3
    · rw [upd_ne h4]; exact h5
    · rintro i v H5 hx e5 ⟨zs, ndz, hz⟩ s0 H0 C cl fp
      obtain ⟨t, ht, a, b, vs, rfl, ha, hb, hV⟩ := hU.2 i v hx
      refine gg_tup rfl (e5.t ha) ?_ rfl
      refine ggs_cons (gg_name 1 ?_ sc_L_lists.nd)
      refine ggs_cons (gg_name 2 ?_ sc_L_lists.nd)
      refine ggs_cons (gg_name 3 ?_ sc_L_lists.nd)
      refine ggs_nil ⟨rfl, Ex.refl, ?_⟩
      intro s1 H01 C1 cl1 fp1
      walk_at "ge"
      refine cc_listT (e5.t hb) (fun p hp => ?_)
      walk_at "ge"
      refine ⟨szk (by simp), fun p2 hp2 => ?_⟩
      have e8 : Ex K H5 (upd H5 p (.lst vs)) := Ex.new hp
      have e9 : Ex K (upd H5 p (.lst vs)) (upd (upd H5 p (.lst vs)) p2 (.tup [.str t.1, .int t.2.1, .ref p])) := Ex.new hp2
      refine ⟨e8.trans e9, t, ht, p2, p, vs, rfl, .inl (.inl upd_same), fun z => ?_, e9.keep _ _ (nd_allref hV.refs) upd_same, hV.mono ((e5.trans e8).trans e9).tex⟩
      rw [z, hz] at hp; cases hp
    · intro ys H5 e5 hR5 hlen hys
      exact q _ R ys e5 hR5 ⟨by rw [hlen, hU.1], hys⟩
end
end Sy
namespace Sy
theorem u1 {k : Nat} {A : Around} (r : Room k A) : A.units + 1 < cLine := by have := r.units; omega
theorem take_succ_snoc {α : Type} {l : List α} {i : Nat} {x : α} (h : l[i]? = some x) : l.take (i + 1) = l.take i ++ [x] := by rw [List.take_add_one, h]; rfl
section
variable {K : PySem.W.Frag} {g : TG} {tk tv : TE} {vs : List Nat} {σ : L2.St} {D a : Addr} {H1 : Hp} {Qd : Hp → Prop} {xs : List V} {rs : List (List Int)}
theorem dturn_step (hR : RowsAt K H1 rs xs) (hnd : rs.Nodup) (hz : rs.length ≤ 1000) (hD : H1 D = none) {i : Nat} {x : V} {H2 : Hp} (hx : xs[i]? = some x) (e : Ex K H1 H2) (h2 : H2 D = some (.dT (RDk (rs.take i))))
    : ∃ b kvs k, x = .ref b ∧ H2 b = some (.tup (k.map kV)) ∧ H2 D = some (.dT kvs) ∧ kvs.length < sizeLine ∧ (Ex K H1 (upd H2 D (.dT (putK kvs k (.bl true)))) ∧ (upd H2 D (.dT (putK kvs k (.bl true)))) D = some (.dT (RDk (rs.take (i + 1))))) := by
  obtain ⟨r, hr, b, rfl, hb⟩ := hR.2 i x hx
  refine ⟨b, _, rowK r, rfl, by rw [rowK_v]; exact e.tr hb, h2, by rw [RDk_len, List.length_take, sizeLine_eq]; omega, e.mut hD, ?_⟩
  rw [upd_same, putK_RD, take_succ_snoc hr]
  unfold addR
  rw [if_neg]
  intro hm
  obtain ⟨j, hj⟩ := List.mem_iff_getElem?.mp hm
  have hji : j < i := by
    have := (List.getElem?_eq_some_iff.mp hj).1
    rw [List.length_take] at this; omega
  rw [List.getElem?_take, if_pos hji] at hj
  obtain ⟨b1, c1⟩ := List.getElem?_eq_some_iff.mp hj
  obtain ⟨b2, c2⟩ := List.getElem?_eq_some_iff.mp hr
  exact List.pairwise_iff_getElem.mp hnd j i b1 b2 hji (by rw [c1, c2])
theorem dturn_step_v {x z : V} {H2 : Hp} {i : Nat} (hz : z = .bl true) (h : ∃ b kvs k, x = .ref b ∧ H2 b = some (.tup (k.map kV)) ∧ H2 D = some (.dT kvs) ∧ kvs.length < sizeLine ∧ (Ex K H1 (upd H2 D (.dT (putK kvs k (.bl true)))) ∧ (upd H2 D (.dT (putK kvs k (.bl true)))) D = some (.dT (RDk (rs.take (i + 1)))))) :
    ∃ b kvs k, x = .ref b ∧ H2 b = some (.tup (k.map kV)) ∧ H2 D = some (.dT kvs) ∧ kvs.length < sizeLine ∧ (Ex K H1 (upd H2 D (.dT (putK kvs k z))) ∧ (upd H2 D (.dT (putK kvs k z))) D = some (.dT (RDk (rs.take (i + 1))))) := by
  subst hz; exact h
theorem dturns_L (hl : SqL K H1 a xs) (hR : RowsAt K H1 rs xs) (hnd : rs.Nodup) (hz : rs.length ≤ 1000) (hD : H1 D = none)
    (hs : ∀ (i : Nat) (x : V) (H2 : Hp), xs[i]? = some x → Ex K H1 H2 → ∀ R : V → V → Hp → Prop, R x (.bl true) H2 → g x (wipe σ vs) H2 fun σ2 H3 => wipe σ2 vs = wipe σ vs ∧ tk σ2 H3 fun y H4 => tv σ2 H4 fun z H5 => R y z H5)
    (hd : ∀ H', Ex K H1 H' → H' D = some (.dT (RDk rs)) → Qd H') : DTurns (Itl K a) g tk tv vs σ D H1 Qd := by
  have ndx : NotDraw (.lst xs) := nd_allref hR.refs
  refine ⟨fun i m H => m = xs.length - i ∧ i ≤ xs.length ∧ Ex K H1 H ∧ H D = some (.dT (RDk (rs.take i))), ⟨xs.length, by simp, Nat.zero_le _, Ex.new hD, by rw [upd_same]; rfl⟩, ?_⟩
  rintro i m H ⟨rfl, hi, e, h2⟩
  by_cases hlt : i < xs.length
  · have hx : xs[i]? = some xs[i] := List.getElem?_eq_getElem hlt
    refine .inr ⟨⟨xs, xs[i], e.l ndx hl, hx⟩, fun H' => Ex K H1 H' ∧ H' D = some (.dT (RDk (rs.take (i + 1)))), fun H' p' => ⟨xs.length - (i + 1), by omega, rfl, hlt, p'⟩, ?_⟩
    rintro x H' ⟨rfl, y⟩
    have hxx := y xs (e.l ndx hl)
    exact hs i x _ hxx e _ (dturn_step_v rfl (dturn_step hR hnd hz hD hxx e h2))
  · have ei : i = xs.length := by omega
    subst ei
    rw [hR.1, List.take_length] at h2
    exact .inl ⟨⟨xs, e.l ndx hl, Nat.le_refl _⟩, hd _ e h2⟩
theorem dturns_T (hl : SqT K H1 a xs) (hR : RowsAt K H1 rs xs) (hnd : rs.Nodup) (hz : rs.length ≤ 1000) (hD : H1 D = none)
    (hs : ∀ (i : Nat) (x : V) (H2 : Hp), xs[i]? = some x → Ex K H1 H2 → ∀ R : V → V → Hp → Prop, R x (.bl true) H2 → g x (wipe σ vs) H2 fun σ2 H3 => wipe σ2 vs = wipe σ vs ∧ tk σ2 H3 fun y H4 => tv σ2 H4 fun z H5 => R y z H5)
    (hd : ∀ H', Ex K H1 H' → H' D = some (.dT (RDk rs)) → Qd H') : DTurns (Itt K a) g tk tv vs σ D H1 Qd := by
  refine ⟨fun i m H => m = xs.length - i ∧ i ≤ xs.length ∧ Ex K H1 H ∧ H D = some (.dT (RDk (rs.take i))), ⟨xs.length, by simp, Nat.zero_le _, Ex.new hD, by rw [upd_same]; rfl⟩, ?_⟩
  rintro i m H ⟨rfl, hi, e, h2⟩
  by_cases hlt : i < xs.length
  · have hx : xs[i]? = some xs[i] := List.getElem?_eq_getElem hlt
    refine .inr ⟨⟨xs, xs[i], e.t hl, hx⟩, fun H' => Ex K H1 H' ∧ H' D = some (.dT (RDk (rs.take (i + 1)))), fun H' p' => ⟨xs.length - (i + 1), by omega, rfl, hlt, p'⟩, ?_⟩
    rintro x H' ⟨rfl, y⟩
    have hxx := y xs (e.t hl)
    exact hs i x _ hxx e _ (dturn_step_v rfl (dturn_step hR hnd hz hD hxx e h2))
  · have ei : i = xs.length := by omega
    subst ei
    rw [hR.1, List.take_length] at h2
    exact .inl ⟨⟨xs, e.t hl, Nat.le_refl _⟩, hd _ e h2⟩
end
/-- what is known of the class World -/
structure CWk (K : PySem.W.Frag) (Cw : Addr) : Prop where
  cls : Cls K Cw
  size : NoAttr K Cw "size"
  rels : NoAttr K Cw "relations"
/-- a world of n elements, its relations at D -/
def WAt (Cw : Addr) (H : Hp) (W : Addr) (n : Nat) (D : Addr) : Prop := ∃ dx, H W = some (.ins Cw dx [("size", .int n), ("relations", .ref D)])
theorem WAt.mono {K : PySem.W.Frag} {Cw : Addr} {H H' : Hp} {W : Addr} {n : Nat} {D : Addr} (e : Ex K H H') (h : WAt Cw H W n D) : WAt Cw H' W n D := let ⟨dx, h⟩ := h; ⟨dx, e.keep _ _ nd_ins h⟩
section
variable {w : World} {K : PySem.W.Frag} {mg : Str → Option Value} {base : Heap} {Cw : Addr}
def spWInit (Cw : Addr) : Sp := fun vs H Q _ => ∃ x dx D, ∃ n : Nat, vs = [.ref x, .int n, .ref D] ∧ H x = some (.ins Cw dx []) ∧ Q .non (upd H x (.ins Cw dx [("size", .int n), ("relations", .ref D)]))
theorem dk_world (T : TopK K mg "World" Cw "World.__init__" s_World_init) (CW : CWk K Cw) : Dk w K mg base "World" Cw 1 (spWInit Cw) := by
  refine T.dk sc_World_init (fun vs H Q E h => ?_) (fun _ _ _ _ _ _ us hl => match us, hl with | [_, _, _], _ => rfl) (fun f cd A outer s H vs Q E hr h => ?_)
  · obtain ⟨x, dx, D, n, rfl, _⟩ := h; rfl
  · obtain ⟨x, dx, D, n, rfl, hx, q⟩ := h
    refine ss_cons (s_fld ?_)
    walk_at "ge"
    refine ⟨x, Cw, dx, [], rfl, hx, CW.cls, CW.size, by decide, ?_⟩
    refine ss_cons (s_fld ?_)
    walk_at "ge"
    refine ⟨x, Cw, dx, [("size", .int n)], rfl, upd_same, CW.cls, CW.rels, by simp, ?_⟩
    refine ss_nil ?_
    rw [upd_upd]
    exact q
def spWithName (K : PySem.W.Frag) (Cw : Addr) : Sp := fun vs H Q _ => ∃ W nm b D, ∃ n : Nat, ∃ kvs : List (L2.Key × V), vs = [.ref W, .str nm, .ref b] ∧ WAt Cw H W n D ∧ H D = some (.dK kvs) ∧ kvs.length ≤ 2000 ∧
  ∀ W' D' H', Ex K H H' → WAt Cw H' W' n D' → H' D' = some (.dK (putK kvs (.inr nm) (.ref b))) → Q (.ref W') H'
theorem dm_with_name (T : TopM K Cw "with_name" "World.with_name" s_World_with_name) (G : Gs K mg) (CW : CWk K Cw) (DW : Dk w K mg base "World" Cw 1 (spWInit Cw)) : Dm w K mg base Cw "with_name" 3 (spWithName K Cw) := by
  refine T.dm sc_World_with_name (fun vs H Q E h => ?_) (fun _ _ _ _ _ _ us hl => match us, hl with | [_, _, _], _ => rfl) (fun f cd A outer s H vs Q E hr h => ?_)
  · obtain ⟨W, nm, b, D, n, kvs, rfl, _⟩ := h; rfl
  · obtain ⟨W, nm, b, D, n, kvs, rfl, ⟨dx, hW⟩, hD, hz, q⟩ := h
    have hu := hr.units
    refine ss_cons (s_set 3 ?_ sc_World_with_name.nd)
    refine ee_callTy (x := "dict") G.z_dict bt_dict ?_
    refine aa_cons (ee_fld ?_)
    walk_at "ge"
    refine ⟨W, Cw, dx, _, _, rfl, hW, CW.cls, CW.rels, rfl, ?_⟩
    refine aa_nil ?_
    refine cc_of call_dictD ⟨D, kvs, rfl, .inl hD, fun p hp => ?_⟩
    refine ss_cons (s_dput (u1 hr) ?_)
    walk_at "ge"
    have e1 : Ex K H (upd H p (.dK kvs)) := Ex.new hp
    refine ⟨p, _, rfl, DPut.k (kvs := kvs) (k := .inr nm) upd_same (by rw [sizeLine_eq]; omega), ?_⟩
    rw [upd_upd]
    have e2 : Ex K H (upd H p (.dK (putK kvs (.inr nm) (.ref b)))) := Ex.new hp
    have hp2 : (upd H p (.dK (putK kvs (.inr nm) (.ref b)))) p = some (.dK (putK kvs (.inr nm) (.ref b))) := upd_same
    have hW2 := e2.keep _ _ nd_ins hW
    generalize (upd H p (.dK (putK kvs (.inr nm) (.ref b)))) = H2 at *
    refine ss_cons (s_ret (ee_make DW rfl hr ?_))
    refine aa_cons (ee_fld ?_)
    walk_at "ge"
    refine ⟨W, Cw, dx, _, _, rfl, hW2, CW.cls, CW.size, rfl, ?_⟩
    walk_at "ge"
    intro x dx' hx hdx hne
    refine ⟨x, dx', p, n, rfl, upd_same, rfl, ?_⟩
    rw [upd_upd]
    have hx2 : upd H2 dx' (.own x) x = none := by rw [upd_ne (Ne.symm hne)]; exact hx
    have e3 : Ex K H2 (upd (upd H2 dx' (.own x)) x (.ins Cw dx' [("size", .int n), ("relations", .ref p)])) := (Ex.new hdx).trans (Ex.new hx2)
    exact q x p _ (e2.trans e3) ⟨dx', upd_same⟩ (e3.keep _ _ nd_dK hp2)
/-- {row: True for row in rows} -/
def spKeysOf (K : PySem.W.Frag) : Sp := fun vs H Q _ => ∃ L xs rs, vs = [.ref L] ∧ (SqL K H L xs ∨ SqT K H L xs) ∧ RowsAt K H rs xs ∧ rs.Nodup ∧ rs.length ≤ 1000 ∧
  ∀ b H', Ex K H H' → H' b = some (.dT (RDk rs)) → Q (.ref b) H'
theorem dn_keys_of (T : Top K mg "keys_of" s_keys_of) (G : Gs K mg) : Dn w K mg base "keys_of" 1 (spKeysOf K) := by
  refine T.dn sc_keys_of (fun vs H Q E h => ?_) (fun _ _ _ _ _ _ us hl => match us, hl with | [_], _ => rfl) (fun f cd A outer s H vs Q E hr h => ?_)
  · obtain ⟨L, xs, rs, rfl, _⟩ := h; rfl
  · obtain ⟨L, xs, rs, rfl, hL, hR, hnd, hz, q⟩ := h
    refine ss_cons (s_ret ?_)
    rcases hL with hL | hL
    · refine ee_dcT [("row", 1)] N_keys_of (defScope s_keys_of) hr.units0 rfl sc_keys_of.nd (ii_list ?_)
      walk_at "ge"
      refine ⟨⟨_, hL⟩, fun D hD => dturns_L hL hR hnd hz hD (fun i x H2 hx e R hRR => ?_) fun H' e h => q D H' e h⟩
      intro s0 H0 C cl fp
      refine gg_name 1 ?_ sc_keys_of.nd
      refine ⟨rfl, ?_⟩
      intro s1 H01 C1 cl1 fp1
      refine ee_var 1 rfl ?_
      intro s1 H01 C1 cl1 fp1
      exact ee_bl hRR
    · refine ee_dcT [("row", 1)] N_keys_of (defScope s_keys_of) hr.units0 rfl sc_keys_of.nd (ii_tup ?_)
      walk_at "ge"
      refine ⟨⟨_, hL⟩, fun D hD => dturns_T hL hR hnd hz hD (fun i x H2 hx e R hRR => ?_) fun H' e h => q D H' e h⟩
      intro s0 H0 C cl fp
      refine gg_name 1 ?_ sc_keys_of.nd
      refine ⟨rfl, ?_⟩
      intro s1 H01 C1 cl1 fp1
      refine ee_var 1 rfl ?_
      intro s1 H01 C1 cl1 fp1
      exact ee_bl hRR
end
end Sy
namespace Sy
theorem dgetR {K : PySem.W.Frag} {H : Hp} {a : Addr} {rs : List (List Int)} {r : List Int} {v : V} (ha : H a = some (.dT (RDk rs))) (hv : RowAt K H r v) : DGet H a v (if r ∈ rs then some (.bl true) else none) := by
  obtain ⟨b, rfl, hb⟩ := hv
  rw [← valV_RD]
  exact DGet.t ha (by rw [rowK_v]; exact hb)
theorem dputR {K : PySem.W.Frag} {H : Hp} {a : Addr} {rs : List (List Int)} {r : List Int} {v : V} (ha : H a = some (.dT (RDk rs))) (hv : RowAt K H r v) (hz : rs.length ≤ 10000) : DPut H a v (.bl true) (upd H a (.dT (RDk (addR rs r)))) := by
  obtain ⟨b, rfl, hb⟩ := hv
  rw [← putK_RD]
  exact DPut.t ha (by rw [rowK_v]; exact hb) (by rw [RDk_len, sizeLine_eq]; omega)
/-- a text dict whose keys are few -/
def KeyOk (kvs : List (L2.Key × V)) : Prop := (kvs.map (·.1)).Nodup ∧ ∀ k ∈ kvs.map (·.1), ∃ x, x ∈ NM ∧ k = .inr x
theorem few_of_nodup {α : Type} : ∀ {l d : List α}, l.Nodup → (∀ x ∈ l, x ∈ d) → l.length ≤ d.length
  | [], _, _, _ => Nat.zero_le _
  | x :: l, d, h, hs => by
    rw [List.nodup_cons] at h
    obtain ⟨d1, d2, rfl⟩ := List.append_of_mem (hs x (by simp))
    have := few_of_nodup (l := l) (d := d1 ++ d2) h.2 fun y hy => by
      have := hs y (by simp [hy])
      rcases List.mem_append.mp this with m | m
      · exact List.mem_append_left _ m
      · rcases List.mem_cons.mp m with rfl | m
        · exact absurd hy h.1
        · exact List.mem_append_right _ m
    rw [List.length_cons, List.length_append, List.length_cons]
    rw [List.length_append] at this
    omega
theorem KeyOk.len {kvs : List (L2.Key × V)} (h : KeyOk kvs) : kvs.length ≤ 8 := by
  have := few_of_nodup (d := NM.map Sum.inr) h.1 (fun k hk => by
    obtain ⟨x, hx, rfl⟩ := h.2 k hk
    exact List.mem_map.mpr ⟨x, hx, rfl⟩)
  rw [List.length_map, List.length_map] at this
  exact this
theorem KeyOk.nil : KeyOk [] := ⟨List.nodup_nil, by simp⟩
theorem putK_keys {kvs : List (L2.Key × V)} {k : L2.Key} {v : V} : (k ∈ kvs.map (·.1) → (putK kvs k v).map (·.1) = kvs.map (·.1)) ∧ (k ∉ kvs.map (·.1) → (putK kvs k v).map (·.1) = kvs.map (·.1) ++ [k]) := by
  have hany : (kvs.any fun kv => decide (kv.1 = k)) = true ↔ k ∈ kvs.map (·.1) := by
    rw [List.any_eq_true, List.mem_map]
    exact ⟨fun ⟨p, h1, h2⟩ => ⟨p, h1, of_decide_eq_true h2⟩, fun ⟨p, h1, h2⟩ => ⟨p, h1, decide_eq_true h2⟩⟩
  unfold putK
  refine ⟨fun h => ?_, fun h => ?_⟩
  · rw [if_pos (hany.mpr h), List.map_map]
    refine List.map_congr_left fun p _ => ?_
    simp only [Function.comp]
    split <;> rfl
  · rw [if_neg (fun z => h (hany.mp z)), List.map_append]; rfl
theorem KeyOk.put {kvs : List (L2.Key × V)} {x : Str} {v : V} (h : KeyOk kvs) (hx : x ∈ NM) : KeyOk (putK kvs (.inr x) v) := by
  unfold KeyOk
  by_cases hn : (Sum.inr x : L2.Key) ∈ kvs.map (·.1)
  · rw [putK_keys.1 hn]; exact h
  · rw [putK_keys.2 hn]
    refine ⟨?_, fun k hk => ?_⟩
    · rw [List.nodup_append]
      exact ⟨h.1, by simp, fun a ha b hb => by rw [List.mem_singleton.mp hb]; rintro rfl; exact hn ha⟩
    · rcases List.mem_append.mp hk with hk | hk
      · exact h.2 k hk
      · exact ⟨x, hx, List.mem_singleton.mp hk⟩
/-- the relations of the names NS -/
def RelsAt (H : Hp) (D : Addr) (NS : Str → Prop) (ρ : Str → Rel) : Prop := ∃ kvs, H D = some (.dK kvs) ∧ KeyOk kvs ∧ ∀ nm, NS nm → ∃ b rs, valV kvs (.inr nm) = some (.ref b) ∧ H b = some (.dT (RDk rs)) ∧ ∀ r, r ∈ rs ↔ ρ nm r
theorem RelsAt.mono {K : PySem.W.Frag} {H H' : Hp} {D : Addr} {NS : Str → Prop} {ρ : Str → Rel} (e : Ex K H H') (h : RelsAt H D NS ρ) : RelsAt H' D NS ρ := by
  obtain ⟨kvs, h1, h2, h3⟩ := h
  refine ⟨kvs, e.keep _ _ nd_dK h1, h2, fun nm hn => ?_⟩
  obtain ⟨b, rs, g1, g2, g3⟩ := h3 nm hn
  exact ⟨b, rs, g1, e.keep _ _ nd_dT g2, g3⟩
/-- the values of the variables VS -/
def ValsAt (H : Hp) (V : Addr) (VS : Str → Prop) (val : Str → Int) : Prop := ∃ kvs, H V = some (.dK kvs) ∧ KeyOk kvs ∧ ∀ x, VS x → valV kvs (.inr x) = some (.int (val x))
theorem ValsAt.mono {K : PySem.W.Frag} {H H' : Hp} {V : Addr} {VS : Str → Prop} {val : Str → Int} (e : Ex K H H') (h : ValsAt H V VS val) : ValsAt H' V VS val := let ⟨kvs, h1, h2, h3⟩ := h; ⟨kvs, e.keep _ _ nd_dK h1, h2, h3⟩
theorem ValsAt.get {H : Hp} {V : Addr} {VS : Str → Prop} {val : Str → Int} (h : ValsAt H V VS val) {x : Str} (hx : VS x) : DGet H V (.str x) (some (.int (val x))) := by
  obtain ⟨kvs, h1, h2, h3⟩ := h
  rw [← h3 x hx]
  exact DGet.k (k := .inr x) h1
/-- what true, joined, ranged .. are asked with -/
def TrueIn (K : PySem.W.Frag) (Cw : Addr) (H : Hp) (W V : Addr) (v : L2.V) (φ : F) (n : Nat) (ρ : Str → Rel) (val : Str → Int) (d : Nat) : Prop :=
  ∃ D NS Γ, WAt Cw H W n D ∧ RelsAt H D NS ρ ∧ ValsAt H V (· ∈ VR) val ∧ FmAt K H φ v ∧ depth φ ≤ d ∧ WF (· ∈ VR) (· ∈ NR) Γ φ ∧ GamOk (· ∈ NR) Γ ∧ (∀ t ∈ Γ, NS t.1) ∧ 1 ≤ n ∧ n ≤ 4 ∧ lcost n φ ≤ 20000
theorem TrueIn.mono {K : PySem.W.Frag} {Cw : Addr} {H H' : Hp} {W V : Addr} {v : L2.V} {φ : F} {n : Nat} {ρ : Str → Rel} {val : Str → Int} {d : Nat} (e : Ex K H H') (h : TrueIn K Cw H W V v φ n ρ val d) : TrueIn K Cw H' W V v φ n ρ val d := by
  obtain ⟨D, NS, Γ, h1, h2, h3, h4, r⟩ := h
  exact ⟨D, NS, Γ, h1.mono e, h2.mono e, h3.mono e, fmAt_mono e.tex _ _ h4, r⟩
/-- true and its kin -/
def spTr (K : PySem.W.Frag) (Cw : Addr) (Pf : F → Prop) (d : Nat) : Sp := fun vs H Q _ => ∃ W V v φ n ρ val, vs = [.ref W, v, .ref V] ∧ TrueIn K Cw H W V v φ n ρ val d ∧ Pf φ ∧ ∀ b H', Ex K H H' → (b = true ↔ Sem (n : Int) φ ρ val) → Q (.bl b) H'
def fixOf (n : Nat) (ρ : Str → Rel) (val : Str → Int) (nm : Str) (xs : List Str) (f : F) : Rel := fixR (fun S r => IsRow n xs.length r ∧ Sem (n : Int) f (updR ρ nm S) (bindR val xs r))
def spFixed (K : PySem.W.Frag) (Cw : Addr) (d : Nat) : Sp := fun vs H Q _ => ∃ W V v n ρ val l nm xs f args, vs = [.ref W, v, .ref V] ∧ TrueIn K Cw H W V v (.fix l nm xs f args) n ρ val d ∧ ∀ b rs H', Ex K H H' → H' b = some (.dT (RDk rs)) → (∀ r, r ∈ rs ↔ fixOf n ρ val nm xs f r) → Q (.ref b) H'
theorem decEq_iff {a b : Int} : decide (a = b) = true ↔ a = b := decide_eq_true_iff
section
variable {w : World} {K : PySem.W.Frag} {mg : Str → Option Value} {base : Heap} {Cw : Addr}
theorem ints_get {vs : List Str} {ys : List L2.V} {val : Str → Int} (hl : ys.length = (vs.map L2.V.str).length) (h : ∀ (j : Nat) (y : L2.V), ys[j]? = some y → ∃ x, vs[j]? = some x ∧ y = .int (val x)) : ys = (vs.map val).map L2.V.int := by
  refine List.ext_getElem? fun i => ?_
  rw [List.getElem?_map, List.getElem?_map]
  rw [List.length_map] at hl
  by_cases hi : i < ys.length
  · have hy : ys[i]? = some ys[i] := List.getElem?_eq_getElem hi
    obtain ⟨x, h1, h2⟩ := h i _ hy
    rw [hy, h1, h2]; rfl
  · rw [List.getElem?_eq_none (by omega), List.getElem?_eq_none (by omega)]; rfl
theorem dm_true (T : TopM K Cw "true" "World.true" s_World_true) (G : Gs K mg) (CW : CWk K Cw) (d k : Nat) (hk : 2 ≤ k)
    (DT : Dm w K mg base Cw "true" k (spTr K Cw (fun _ => True) d)) (DJ : Dm w K mg base Cw "joined" k (spTr K Cw (fun φ => ∃ s fs, φ = .join s fs) (d + 1))) (DR : Dm w K mg base Cw "ranged" k (spTr K Cw (fun φ => ∃ s xs f, φ = .quant s xs f) (d + 1)))
    (DG : Dm w K mg base Cw "guessed" k (spTr K Cw (fun φ => ∃ nm a f, φ = .guess nm a f) (d + 1))) (DC : Dm w K mg base Cw "reached" k (spTr K Cw (fun φ => ∃ xs f args, φ = .tc xs f args) (d + 1))) (DF : Dm w K mg base Cw "fixed" k (spFixed K Cw (d + 1))) :
    Dm w K mg base Cw "true" (k + 1) (spTr K Cw (fun _ => True) (d + 1)) := by
  refine T.dm sc_World_true (fun vs H Q E h => ?_) (fun _ _ _ _ _ _ us hl => match us, hl with | [_, _, _], _ => rfl) (fun f cd A outer s0 H vs Q E hr h => ?_)
  · obtain ⟨W, V, v, φ, n, ρ, val, rfl, _⟩ := h; rfl
  · obtain ⟨W, V, v, φ, n, ρ, val, rfl, hT, _, q⟩ := h
    obtain ⟨D, NS, Γ, ⟨dx, hW⟩, hR, hV, hF, hd, hw, hg, hN, n1, n4, hc⟩ := id hT
    cases φ with
    | rel nm args =>
      obtain ⟨a, b, rfl, h1, h2⟩ := hF
      refine ss_cons (s_set 3 (ee_ix (ee_var 1 rfl (ee_int (ix_t 0 h1 rfl ?_)))) sc_World_true.nd)
      refine ss_cons (s_if ?_)
      walk_at "ge"
      refine ss_cons (s_ret (ee_din (u1 hr) ?_))
      refine ee_callTy (x := "tuple") G.z_tuple bt_tuple ?_
      refine aa_cons ?_
      refine ee_lc [("name", 5)] N_World_true (defScope s_World_true) rfl sc_World_true.nd (ii_tup ?_)
      refine ee_ix (ee_var 1 rfl (ee_int (ix_t 2 h1 rfl ?_)))
      refine ⟨b, rfl, ⟨_, h2⟩, fun L hL => ?_⟩
      simp only [WF] at hw
      obtain ⟨⟨m, _, hΓ⟩, hargs⟩ := hw
      have hal : args.length ≤ 3 := (hg.nm _ hΓ).2
      refine lt_mapT (K := K) (args.map L2.V.str) (fun i y H2 => ∃ x, args[i]? = some x ∧ y = .int (val x)) (fun _ _ _ _ _ h => h) hL h2 (by rw [List.length_map]; omega) (fun ys H h => nd_noref fun x hx a => by
        obtain ⟨j, hj⟩ := List.mem_iff_getElem?.mp hx
        obtain ⟨s, _, rfl⟩ := h j x hj
        intro z; cases z) ?_ ?_
      · intro i x H2 hx e s2 H0 C cl fp
        obtain ⟨y, hy, rfl⟩ : ∃ y, args[i]? = some y ∧ x = L2.V.str y := by
          rw [List.getElem?_map] at hx
          cases hy : args[i]? with
          | none => rw [hy] at hx; cases hx
          | some y => rw [hy] at hx; exact ⟨y, rfl, (Option.some.inj hx).symm⟩
        refine gg_name 5 ?_ sc_World_true.nd
        refine ⟨rfl, Ex.refl, ?_⟩
        intro s1 H01 C1 cl1 fp1
        refine ee_dget (u1 hr) ?_
        walk_at "ge"
        exact ⟨V, _, rfl, (hV.mono e).get (hargs y (List.mem_of_getElem? hy)), Ex.refl, y, hy, rfl⟩
      · intro ys H2 e2 hL2 hyl hys
        obtain rfl := ints_get hyl hys
        refine aa_nil ?_
        refine cc_tupL (SqL.of hL2) (fun t ht => ?_)
        have e3 : Ex K H2 (upd H2 t (.tup ((args.map val).map L2.V.int))) := Ex.new ht
        have hrow : RowAt K (upd H2 t (.tup ((args.map val).map L2.V.int))) (args.map val) (.ref t) := ⟨t, rfl, upd_same⟩
        have e := e2.trans e3
        generalize (upd H2 t (.tup ((args.map val).map L2.V.int))) = H3 at *
        refine ee_dget (u1 hr) (ee_fld ?_)
        walk_at "ge"
        refine ⟨W, Cw, dx, _, _, rfl, e.keep _ _ nd_ins hW, CW.cls, CW.rels, rfl, ?_⟩
        have h1' := e.t h1
        walk_at "ge"
        obtain ⟨kvs, g1, g2, g3⟩ := hR.mono e
        obtain ⟨bd, rs, k1, k2, k3⟩ := g3 nm (hN _ hΓ)
        refine ⟨D, .ref bd, rfl, by rw [← k1]; exact DGet.k (k := .inr nm) g1, ?_⟩
        refine ⟨bd, _, rfl, dgetR k2 hrow, ?_⟩
        refine q _ _ e ?_
        simp only [Sem]
        rw [← k3]
        by_cases hm : args.map val ∈ rs
        · rw [if_pos hm]; simp [hm]
        · rw [if_neg hm]; simp [hm]
    | eq x y =>
      obtain ⟨a, rfl, h1⟩ := hF
      simp only [WF] at hw
      refine ss_cons (s_set 3 (ee_ix (ee_var 1 rfl (ee_int (ix_t 0 h1 rfl ?_)))) sc_World_true.nd)
      refine ss_cons (s_if ?_)
      walk_at "ge"
      refine ss_nil (ss_cons (s_if ?_))
      walk_at "ge"
      refine ss_cons (s_ret (ee_cmp (ee_dget (u1 hr) ?_)))
      walk_at "ge"
      refine ⟨V, _, rfl, hV.get hw.1, ?_⟩
      refine ee_dget (u1 hr) ?_
      walk_at "ge"
      refine ⟨V, _, rfl, hV.get hw.2, ?_⟩
      walk_at "ge"
      exact q _ _ Ex.refl (by simp only [Sem]; exact decide_eq_true_iff)
    | less x y =>
      obtain ⟨a, rfl, h1⟩ := hF
      simp only [WF] at hw
      refine ss_cons (s_set 3 (ee_ix (ee_var 1 rfl (ee_int (ix_t 0 h1 rfl ?_)))) sc_World_true.nd)
      refine ss_cons (s_if ?_)
      walk_at "ge"
      refine ss_nil (ss_cons (s_if ?_))
      walk_at "ge"
      refine ss_nil (ss_cons (s_if ?_))
      walk_at "ge"
      refine ss_cons (s_ret (ee_cmp (ee_dget (u1 hr) ?_)))
      walk_at "ge"
      refine ⟨V, _, rfl, hV.get hw.1, ?_⟩
      refine ee_dget (u1 hr) ?_
      walk_at "ge"
      refine ⟨V, _, rfl, hV.get hw.2, ?_⟩
      walk_at "ge"
      exact q _ _ Ex.refl (by simp only [Sem]; exact decide_eq_true_iff)
    | not g =>
      obtain ⟨a, u, rfl, h1, h2⟩ := hF
      refine ss_cons (s_set 3 (ee_ix (ee_var 1 rfl (ee_int (ix_t 0 h1 rfl ?_)))) sc_World_true.nd)
      walk_at "go"
      refine ee_meth DT CW.cls rfl hr ?_
      walk_at "ge"
      refine ⟨W, dx, _, rfl, hW, rfl, ?_⟩
      walk_at "ge"
      refine ⟨W, V, u, g, n, ρ, val, rfl, ⟨D, NS, turned Γ, ⟨dx, hW⟩, hR, hV, h2, by simp only [depth] at hd; omega, hw, hg.turned, ?_, n1, n4, (lcost_small (by omega) hc).1 g (by simp [kids])⟩, trivial, fun b H' e hb => ?_⟩
      · intro t ht
        obtain ⟨m, h1, _⟩ := mem_turned.mp ht
        have := hN _ h1
        exact this
      · refine bq ?_
        refine q _ _ e ?_
        simp only [Sem]
        rw [← hb]
        cases b <;> simp
    | join sg fs =>
      obtain ⟨a, b, us, rfl, h1, h2, h3⟩ := id hF
      cases sg
      all_goals
        first | rw [show jW true = "or" from rfl] at h1 | rw [show jW false = "and" from rfl] at h1
        refine ss_cons (s_set 3 (ee_ix (ee_var 1 rfl (ee_int (ix_t 0 h1 rfl ?_)))) sc_World_true.nd)
        walk_at "go"
        refine ee_meth DJ CW.cls rfl hr ?_
        walk_at "ge"
        refine ⟨W, dx, _, rfl, hW, rfl, ?_⟩
        walk_at "ge"
        exact ⟨W, V, _, _, n, ρ, val, rfl, hT, ⟨_, _, rfl⟩, q⟩
    | quant sg xs g =>
      obtain ⟨a, b, u, rfl, h1, h2, h3⟩ := id hF
      cases sg
      all_goals
        first | rw [show qW true = "some" from rfl] at h1 | rw [show qW false = "all" from rfl] at h1
        refine ss_cons (s_set 3 (ee_ix (ee_var 1 rfl (ee_int (ix_t 0 h1 rfl ?_)))) sc_World_true.nd)
        walk_at "go"
        refine ee_meth DR CW.cls rfl hr ?_
        walk_at "ge"
        refine ⟨W, dx, _, rfl, hW, rfl, ?_⟩
        walk_at "ge"
        exact ⟨W, V, _, _, n, ρ, val, rfl, hT, ⟨_, _, _, rfl⟩, q⟩
    | guess nm ar g =>
      obtain ⟨a, u, rfl, h1, h2⟩ := id hF
      refine ss_cons (s_set 3 (ee_ix (ee_var 1 rfl (ee_int (ix_t 0 h1 rfl ?_)))) sc_World_true.nd)
      walk_at "go"
      refine ee_meth DG CW.cls rfl hr ?_
      walk_at "ge"
      refine ⟨W, dx, _, rfl, hW, rfl, ?_⟩
      walk_at "ge"
      exact ⟨W, V, _, _, n, ρ, val, rfl, hT, ⟨_, _, _, rfl⟩, q⟩
    | tc xs g args =>
      obtain ⟨a, b, c, u, rfl, h1, h2, h3, h4⟩ := id hF
      refine ss_cons (s_set 3 (ee_ix (ee_var 1 rfl (ee_int (ix_t 0 h1 rfl ?_)))) sc_World_true.nd)
      walk_at "go"
      refine ee_meth DC CW.cls rfl hr ?_
      walk_at "ge"
      refine ⟨W, dx, _, rfl, hW, rfl, ?_⟩
      walk_at "ge"
      exact ⟨W, V, _, _, n, ρ, val, rfl, hT, ⟨_, _, _, rfl⟩, q⟩
    | fix l nm xs g args =>
      obtain ⟨a, b, c, u, rfl, h1, h2, h3, h4⟩ := id hF
      have hargs : args.length ≤ 3 ∧ ∀ x ∈ args, x ∈ VR := by
        cases l <;> (simp only [WF] at hw; exact ⟨by have := hw.1.2.2.1; omega, hw.2.2.2.1⟩)
      have fin : ∀ H1, Ex K H H1 → ∀ σ5 bd rs, σ5 = [some (.ref W), some (.ref a), some (.ref V), some (.str (fW l)), some (.ref bd), none] → H1 bd = some (.dT (RDk rs)) → (∀ r, r ∈ rs ↔ fixOf n ρ val nm xs g r) →
          SS (Cxd w K mg base N_World_true "World.true" s_World_true f cd A outer s0 H E) ((defBody s_World_true).drop 10) { nx := fun _ H' => Q .non H', rt := Q } σ5 H1 := by
        rintro H1 e1 σ5 bd rs rfl hb1 hrs
        have h1' := e1.t h1
        refine ss_cons (s_ret (ee_din (u1 hr) ?_))
        refine ee_callTy (x := "tuple") G.z_tuple bt_tuple ?_
        refine aa_cons ?_
        refine ee_lc [("name", 5)] N_World_true (defScope s_World_true) rfl sc_World_true.nd (ii_tup ?_)
        refine ee_ix (ee_var 1 rfl (ee_int (ix_t 4 h1' rfl ?_)))
        have h4' := e1.t h4
        refine ⟨c, rfl, ⟨_, h4'⟩, fun L hL => ?_⟩
        refine lt_mapT (K := K) (args.map L2.V.str) (fun i y H2 => ∃ x, args[i]? = some x ∧ y = .int (val x)) (fun _ _ _ _ _ h => h) hL h4' (by rw [List.length_map]; omega) (fun ys H h => nd_noref fun x hx a => by
          obtain ⟨j, hj⟩ := List.mem_iff_getElem?.mp hx
          obtain ⟨s, _, rfl⟩ := h j x hj
          intro z; cases z) ?_ ?_
        · intro i x H2 hx e s2 H0 C cl fp
          obtain ⟨y, hy, rfl⟩ : ∃ y, args[i]? = some y ∧ x = L2.V.str y := by
            rw [List.getElem?_map] at hx
            cases hy : args[i]? with
            | none => rw [hy] at hx; cases hx
            | some y => rw [hy] at hx; exact ⟨y, rfl, (Option.some.inj hx).symm⟩
          refine gg_name 5 ?_ sc_World_true.nd
          refine ⟨rfl, Ex.refl, ?_⟩
          intro s1 H01 C1 cl1 fp1
          refine ee_dget (u1 hr) ?_
          walk_at "ge"
          exact ⟨V, _, rfl, (hV.mono (e1.trans e)).get (hargs.2 y (List.mem_of_getElem? hy)), Ex.refl, y, hy, rfl⟩
        · intro ys H2 e2 hL2 hyl hys
          obtain rfl := ints_get hyl hys
          refine aa_nil ?_
          refine cc_tupL (SqL.of hL2) (fun t ht => ?_)
          have e3 : Ex K H2 (upd H2 t (.tup ((args.map val).map L2.V.int))) := Ex.new ht
          have hrow : RowAt K (upd H2 t (.tup ((args.map val).map L2.V.int))) (args.map val) (.ref t) := ⟨t, rfl, upd_same⟩
          have e := e2.trans e3
          generalize (upd H2 t (.tup ((args.map val).map L2.V.int))) = H3 at *
          refine ee_var 4 rfl ?_
          refine ⟨bd, _, rfl, dgetR (e.keep _ _ nd_dT hb1) hrow, ?_⟩
          refine q _ _ (e1.trans e) ?_
          simp only [Sem]
          have := hrs (args.map val)
          unfold fixOf at this
          rw [← this]
          by_cases hm : args.map val ∈ rs
          · rw [if_pos hm]; simp [hm]
          · rw [if_neg hm]; simp [hm]
      cases l
      all_goals
        first | rw [show fW true = "lfp" from rfl] at h1 | rw [show fW false = "pfp" from rfl] at h1
        refine ss_cons (s_set 3 (ee_ix (ee_var 1 rfl (ee_int (ix_t 0 h1 rfl ?_)))) sc_World_true.nd)
        walk_at "go"
        refine s_set 4 ?_ sc_World_true.nd
        refine ee_meth DF CW.cls rfl hr ?_
        walk_at "ge"
        refine ⟨W, dx, _, rfl, hW, rfl, ?_⟩
        walk_at "ge"
        exact ⟨W, V, _, n, ρ, val, _, nm, xs, g, args, rfl, hT, fun bd rs H1 e1 hb1 hrs => fin H1 e1 _ bd rs rfl hb1 hrs⟩
end
end Sy
namespace Sy
section
variable {X : Cx} {σ : L2.St} {H : Hp} {D : Ends} {o i e : Expr} {pos tpos : Pos}
theorem get_listI : PGet X (fun o i H Q => ∃ (p : Addr) (xs : List V) (j : Nat) (v : V), o = .ref p ∧ i = .int (j : Int) ∧ SqL X.K H p xs ∧ xs[j]? = some v ∧ Q v H) := by
  intro pins s σ H o i ov iv Q I ro ri h
  obtain ⟨p, xs, j, v, rfl, rfl, hq, hj, q⟩ := h
  cases ro
  obtain ⟨t, rfl⟩ := ri
  obtain ⟨its, r, pl, hz⟩ := I.list hq
  obtain ⟨w, ew, rw'⟩ := r.get hj
  have hjl := (List.getElem?_eq_some_iff.mp hj).1
  have hl := r.length
  have hn := line63
  exact wpAny_getItem_list pl.isList (by omega) (by omega) (by simpa using ew) ⟨v, H, I, rw', q⟩
/-- row[i] += e -/
theorem s_augL (h : EE X o σ H fun x H1 => EE X i σ H1 fun y H2 => ∃ (p : Addr) (xs : List V) (j : Nat) (z : Int), x = .ref p ∧ y = .int (j : Int) ∧ SqL X.K H2 p xs ∧ xs[j]? = some (.int z) ∧
    EE X e σ H2 fun u H3 => ∃ (t : Int) (xs3 : List V), u = .int t ∧ H3 p = some (.lst xs3) ∧ j < xs3.length ∧ D.nx σ (upd H3 p (.lst (xs3.set j (.int (z + t))))))
    (ha : ∀ ov iv new, augStore i ov iv new = (do holding [new, ov, iv] (setItem ov iv new); release [new, ov, iv] []; pure .next) := by intros; rfl) : S1 X (.AugAssign (.Subscript o i tpos) .Add e pos) D σ H := by
  refine s1_of (ps_augS EE.pe EE.pe get_listI EE.pe ip_add set_list ha) ?_
  refine ⟨fun pins s I => thn (h.run pins s I) fun u s' ⟨x, H1, I1, r1, q1⟩ => ⟨x, H1, I1, r1, ?_⟩⟩
  refine ⟨fun pins s I => thn (q1.run pins s I) fun u s' ⟨y, H2, I2, r2, p, xs, j, z, e1, e2, h1, h2, q2⟩ => ⟨y, H2, I2, r2, ?_⟩⟩
  refine ⟨p, xs, j, .int z, e1, e2, h1, h2, ?_⟩
  refine ⟨fun pins s I => thn (q2.run pins s I) fun u s' ⟨y3, H3, I3, r3, t, xs3, e3, h3, h4, q3⟩ => ⟨y3, H3, I3, r3, ?_⟩⟩
  refine ⟨z, t, rfl, e3, p, xs3, (j : Int), j, e1, e2, h3, ?_, q3⟩
  unfold ixN
  rw [if_pos (by omega), Int.toNat_natCast, if_pos (by omega)]
end
/-- the next row -/
def Nxt (n : Int) (r r' : List Int) : Prop := ∃ p x q, r = p ++ x :: q ∧ (∀ y ∈ q, n ≤ y + 1) ∧ x + 1 < n ∧ r' = p ++ (x + 1) :: q.map fun _ => 0
theorem flatMap_get {n : Nat} (hn : 0 < n) : ∀ (l : List (List Int)) (q i : Nat), i < n → (l.flatMap fun r => (List.range n).map fun m : Nat => r ++ [(m : Int)])[q * n + i]? = (l[q]?).map fun r => r ++ [(i : Int)]
  | [], q, i, _ => by simp
  | r :: l, 0, i, hi => by
    rw [List.flatMap_cons, List.getElem?_append_left (by rw [List.length_map, List.length_range]; omega), List.getElem?_map, Nat.zero_mul, Nat.zero_add, List.getElem?_range hi]; rfl
  | r :: l, q + 1, i, hi => by
    rw [List.flatMap_cons, List.getElem?_append_right (by rw [List.length_map, List.length_range, Nat.add_mul]; omega), List.length_map, List.length_range]
    have : (q + 1) * n + i - n = q * n + i := by rw [Nat.add_mul]; omega
    rw [this, flatMap_get hn l q i hi]; rfl
theorem rowsL_get {n k q i : Nat} (hi : i < n) : (rowsL n (k + 1))[q * n + i]? = ((rowsL n k)[q]?).map fun r => r ++ [(i : Int)] := flatMap_get (by omega) _ q i hi
theorem nxt_get {n : Nat} : ∀ {k j : Nat} {r : List Int}, (rowsL n k)[j]? = some r → (∀ r', Nxt n r r' → (rowsL n k)[j + 1]? = some r') ∧ ((∀ y ∈ r, (n : Int) ≤ y + 1) → j + 1 = (rowsL n k).length)
  | 0, j, r, h => by
    have hj : j = 0 := by
      have := (List.getElem?_eq_some_iff.mp h).1
      simp [rowsL] at this; exact this
    subst hj
    have hr : r = [] := by simpa [rowsL] using h.symm
    subst hr
    refine ⟨fun r' ⟨p, x, q, e, _⟩ => by simp at e, fun _ => rfl⟩
  | k + 1, j, r, h => by
    have hjl := (List.getElem?_eq_some_iff.mp h).1
    rw [rowsL_len] at hjl
    have hn : 0 < n := by
      rcases Nat.eq_zero_or_pos n with z | z
      · subst z; rw [Nat.zero_pow (by omega)] at hjl; omega
      · exact z
    have hdm := Nat.div_add_mod j n
    have hi : j % n < n := Nat.mod_lt _ hn
    have ej : j = (j / n) * n + j % n := by rw [Nat.mul_comm]; exact hdm.symm
    generalize j / n = q at *
    generalize j % n = i at *
    rw [ej, rowsL_get hi] at h
    cases hq : (rowsL n k)[q]? with
    | none => rw [hq] at h; cases h
    | some r0 =>
      rw [hq] at h
      have er : r0 ++ [(i : Int)] = r := Option.some.inj h
      obtain ⟨ih1, ih2⟩ := nxt_get hq
      subst er
      refine ⟨fun r' ⟨p, x, qq, e, h1, h2, e'⟩ => ?_, fun hall => ?_⟩
      · rcases List.eq_nil_or_concat qq with rfl | ⟨q0, l, rfl⟩
        · have := List.append_inj' e rfl
          obtain ⟨rfl, e2⟩ := this
          have ex : (i : Int) = x := by simpa using e2
          subst ex
          have hi1 : i + 1 < n := by omega
          have e3 : j + 1 = q * n + (i + 1) := by omega
          rw [e3, rowsL_get hi1, hq, e']
          simp
        · rw [show p ++ x :: q0.concat l = (p ++ x :: q0) ++ [l] by simp] at e
          obtain ⟨rfl, e2⟩ := List.append_inj' e rfl
          have el : (i : Int) = l := by simpa using e2
          subst el
          have hin : i + 1 = n := by have := h1 (i : Int) (by simp); omega
          have := ih1 (p ++ (x + 1) :: q0.map fun _ => 0) ⟨p, x, q0, rfl, fun y hy => h1 y (by simp [hy]), h2, rfl⟩
          have e3 : j + 1 = (q + 1) * n + 0 := by rw [Nat.add_mul]; omega
          rw [e3, rowsL_get hn, this, e']
          simp
      · have hin : i + 1 = n := by have := hall (i : Int) (by simp); omega
        have := ih2 fun y hy => hall y (by simp [hy])
        rw [rowsL_len] at this ⊢
        rw [Nat.pow_succ, ← this, Nat.add_mul]; omega
section
variable {w : World} {K : PySem.W.Frag} {mg : Str → Option Value} {base : Heap} {Cw : Addr}
theorem dm_joined (T : TopM K Cw "joined" "World.joined" s_World_joined) (G : Gs K mg) (CW : CWk K Cw) (d k : Nat)
    (DT : Dm w K mg base Cw "true" k (spTr K Cw (fun _ => True) d)) : Dm w K mg base Cw "joined" (k + 1) (spTr K Cw (fun φ => ∃ s fs, φ = .join s fs) (d + 1)) := by
  refine T.dm sc_World_joined (fun vs H Q E h => ?_) (fun _ _ _ _ _ _ us hl => match us, hl with | [_, _, _], _ => rfl) (fun f cd A outer s0 H vs Q E hr h => ?_)
  · obtain ⟨W, V, v, φ, n, ρ, val, rfl, _⟩ := h; rfl
  · obtain ⟨W, V, v, φ, n, ρ, val, rfl, hT, ⟨sg, fs, rfl⟩, q⟩ := h
    obtain ⟨D, NS, Γ, ⟨dx, hW⟩, hR, hV, hF, hd, hw, hg, hN, n1, n4, hc⟩ := id hT
    obtain ⟨a, b, us, rfl, h1, h2, h3⟩ := id hF
    have hsg : decide (jW sg = "or") = sg := by cases sg <;> decide
    refine ss_cons (s_set 3 ?_ sc_World_joined.nd)
    refine ee_cmp (ee_ix (ee_var 1 rfl (ee_int (ix_t 0 h1 rfl ?_))))
    walk_at "ge"
    rw [hsg]
    refine ss_cons (s_forT PassesOwn.never rfl (ii_tup ?_))
    refine ee_ix (ee_var 1 rfl (ee_int (ix_t 1 h1 rfl ?_)))
    refine ⟨b, rfl, ⟨_, h2⟩, ?_⟩
    have hk := (fmsAt_get h3).1
    refine turns_tup us (fun i σ H' => ∃ y, σ = [some (.ref W), some (.ref a), some (.ref V), some (.bl sg), y] ∧ Ex K H H' ∧ ∀ j g, j < i → fs[j]? = some g → (Sem (n : Int) g ρ val ↔ sg = false)) ⟨_, rfl, Ex.refl, fun j g hj => by omega⟩ (fun i σ H' _ ⟨_, _, e, _⟩ => e.t h2) ?_ ?_
    · rintro i x σ H' hx ⟨y, rfl, e, hall⟩
      obtain ⟨g, hg1, hgx⟩ := (fmsAt_get h3).2 i x hx
      have hgk : g ∈ kids (Fm.join sg fs) := List.mem_of_getElem? hg1
      refine gg_name 4 ?_ sc_World_joined.nd
      refine ss_cons (s_if (bb_cmp ?_))
      refine ee_meth DT CW.cls rfl hr ?_
      walk_at "ge"
      refine ⟨W, dx, _, rfl, e.keep _ _ nd_ins hW, rfl, ?_⟩
      walk_at "ge"
      refine ⟨W, V, x, g, n, ρ, val, rfl, ⟨D, NS, Γ, ⟨dx, e.keep _ _ nd_ins hW⟩, hR.mono e, hV.mono e, fmAt_mono e.tex _ _ hgx, by have := depth_kid hgk; omega, hw.kid hgk, hg, hN, n1, n4, (lcost_small (by omega) hc).1 g hgk⟩, trivial, fun bb H2 e2 hb => ?_⟩
      walk_at "ge"
      refine if_d (fun hq => ?_) (fun hq => ?_)
      · walk_at "go"
        refine q _ _ (e.trans e2) ?_
        have hgm := List.mem_of_getElem? hg1
        subst hq
        cases bb with
        | true => exact ⟨fun _ => by simp only [Sem]; exact semAny_iff.mpr ⟨g, hgm, hb.mp rfl⟩, fun _ => rfl⟩
        | false =>
          refine ⟨(fun z => nomatch z), fun z => ?_⟩
          simp only [Sem] at z
          exact hb.mpr (semAll_iff.mp z g hgm)
      · walk_at "go"
        refine ⟨_, rfl, e.trans e2, fun j g' hj hg' => ?_⟩
        by_cases hji : j = i
        · subst hji
          rw [hg1] at hg'
          cases hg'
          rw [← hb]
          cases bb <;> cases sg <;> simp_all
        · exact hall j g' (by omega) hg'
    · rintro σ H' ⟨y, rfl, e, hall⟩
      walk_at "go"
      refine q _ _ e ?_
      have hall' : ∀ g ∈ fs, (Sem (n : Int) g ρ val ↔ sg = false) := fun g hg => by
        obtain ⟨j, hj⟩ := List.mem_iff_getElem?.mp hg
        exact hall j g (by have := (List.getElem?_eq_some_iff.mp hj).1; omega) hj
      cases sg with
      | true =>
        refine ⟨(fun z => nomatch z), fun z => ?_⟩
        simp only [Sem] at z
        obtain ⟨g, hg, hs⟩ := semAny_iff.mp z
        have := (hall' g hg).mp hs
        cases this
      | false =>
        refine ⟨fun _ => ?_, fun _ => rfl⟩
        simp only [Sem]
        exact semAll_iff.mpr fun g hg => (hall' g hg).mpr rfl
def spFollowing (K : PySem.W.Frag) : Sp := fun vs H Q _ => ∃ L r, ∃ n : Int, vs = [.ref L, .int n] ∧ SqL K H L (r.map V.int) ∧ r.length ≤ 100 ∧
  (∀ r' L' H', Nxt n r r' → Ex K H H' → H' L' = some (.lst (r'.map V.int)) → Q (.ref L') H') ∧ ((∀ y ∈ r, n ≤ y + 1) → ∀ H', Ex K H H' → Q .non H')
theorem dn_following (T : Top K mg "following" s_following) (G : Gs K mg) : Dn w K mg base "following" 1 (spFollowing K) := by
  refine T.dn sc_following (fun vs H Q E h => ?_) (fun _ _ _ _ _ _ us hl => match us, hl with | [_, _], _ => rfl) (fun f cd A outer s0 H vs Q E hr h => ?_)
  · obtain ⟨L, r, n, rfl, _⟩ := h; rfl
  · obtain ⟨L, r, n, rfl, hL, hz, q1, q2⟩ := h
    refine ss_cons (s_set 0 ?_ sc_following.nd)
    walk_at "ge"
    refine cc_listL hL (fun p hp => ?_)
    have e1 : Ex K H (upd H p (.lst (r.map V.int))) := Ex.new hp
    refine ss_cons (s_set 2 ?_ sc_following.nd)
    walk_at "ge"
    refine cc_lenL (SqL.of upd_same) ?_
    walk_at "ge"
    refine ss_cons (s_while PassesOwn.never ⟨fun m σ H' => ∃ a b, r = a ++ b ∧ a.length = m ∧ (∀ y ∈ b, n ≤ y + 1) ∧ σ = [some (.ref p), some (.int n), some (.int ((m : Int) - 1))] ∧ Ex K H H' ∧ H' p = some (.lst ((a ++ b.map fun _ => (0 : Int)).map V.int)), ⟨r.length, r, [], by simp, rfl, by simp, by rw [List.length_map]; rfl, e1, by rw [upd_same]; simp⟩, ?_⟩)
    rintro m σ H' ⟨a, b, hr', ha, hb, rfl, e, h⟩
    walk_at "ge"
    refine if_d (fun hm => ?_) (fun hm => ?_)
    · obtain ⟨a0, x, rfl⟩ : ∃ a0 x, a = a0 ++ [x] := by
        rcases List.eq_nil_or_concat a with rfl | ⟨a0, x, rfl⟩
        · simp at ha; omega
        · exact ⟨a0, x, by simp⟩
      have ha0 : a0.length + 1 = m := by simpa using ha
      have em : ((m : Int) - 1) = ((a0.length : Nat) : Int) := by omega
      have hg0 : (((a0 ++ [x]) ++ b.map fun _ => (0 : Int)).map V.int)[a0.length]? = some (.int x) := by
        rw [List.getElem?_map, List.append_assoc, List.getElem?_append_right (Nat.le_refl _), Nat.sub_self]; rfl
      have hset : ∀ z : Int, ((((a0 ++ [x]) ++ b.map fun _ => (0 : Int)).map V.int).set a0.length (.int z)) = ((a0 ++ z :: b.map fun _ => (0 : Int)).map V.int) := fun z => by
        rw [List.append_assoc, List.map_append, List.set_append_right _ _ (by rw [List.length_map]; omega), List.length_map, Nat.sub_self, List.map_append, List.map_append]; rfl
      refine ⟨fun σ2 H2 => ∃ a b, r = a ++ b ∧ a.length = a0.length ∧ (∀ y ∈ b, n ≤ y + 1) ∧ σ2 = [some (.ref p), some (.int n), some (.int ((a0.length : Int) - 1))] ∧ Ex K H H2 ∧ H2 p = some (.lst ((a ++ b.map fun _ => (0 : Int)).map V.int)), fun σ2 H2 ⟨a, b, c1, c2, c3⟩ => ⟨a0.length, by omega, a, b, c1, c2, c3⟩, ?_⟩
      rw [em]
      refine ss_cons (s_augL ?_)
      walk_at "ge"
      refine ⟨p, _, a0.length, x, rfl, rfl, SqL.of h, hg0, ?_⟩
      walk_at "ge"
      refine ⟨1, _, rfl, h, by rw [List.length_map]; simp, ?_⟩
      rw [hset]
      have e2 : Ex K H (upd H' p (.lst ((a0 ++ (x + 1) :: b.map fun _ => (0 : Int)).map V.int))) := e.mut hp
      have hg1 : ((a0 ++ (x + 1) :: b.map fun _ => (0 : Int)).map V.int)[a0.length]? = some (.int (x + 1)) := by
        rw [List.getElem?_map, List.getElem?_append_right (Nat.le_refl _), Nat.sub_self]; rfl
      refine ss_cons (s_if ?_)
      walk_at "ge"
      refine ix_l a0.length (SqL.of upd_same) hg1 ?_
      walk_at "ge"
      refine if_d (fun hlt => ?_) (fun hlt => ?_)
      · walk_at "go"
        exact q1 _ p _ ⟨a0, x, b, by rw [hr']; simp, hb, hlt, rfl⟩ e2 upd_same
      · refine ss_nil (ss_cons (s_asg ?_))
        walk_at "ge"
        refine gg_sub ?_
        walk_at "ge"
        refine pst_list (j := a0.length) upd_same rfl (by rw [List.length_map]; simp) ?_
        rw [upd_upd]
        refine ss_cons (s_aug 2 rfl ?_ sc_following.nd)
        walk_at "ge"
        refine io_sub ?_
        refine ss_nil ⟨a0, x :: b, by rw [hr']; simp, rfl, ?_, rfl, e.mut hp, ?_⟩
        · intro y hy
          rcases List.mem_cons.mp hy with rfl | hy
          · omega
          · exact hb y hy
        · rw [upd_same]
          have : (((a0 ++ (x + 1) :: b.map fun _ => (0 : Int)).map V.int).set a0.length (.int 0)) = ((a0 ++ 0 :: b.map fun _ => (0 : Int)).map V.int) := by
            rw [List.map_append, List.set_append_right _ _ (by rw [List.length_map]; omega), List.length_map, Nat.sub_self, List.map_append]; rfl
          rw [this]; rfl
    · have ha0 : a = [] := List.length_eq_zero_iff.mp (by omega)
      subst ha0
      walk_at "go"
      exact q2 (fun y hy => hb y (by rw [hr'] at hy; exact hy)) H' e
end
end Sy
namespace Sy
theorem bindR_take : ∀ {j : Nat} {val : Str → Int} {vs : List Str} {r : List Int} {x : Str} {z : Int}, vs[j]? = some x → r[j]? = some z → bindR val (vs.take (j + 1)) (r.take (j + 1)) = bind1 (bindR val (vs.take j) (r.take j)) x z
  | 0, val, v :: vs, a :: r, x, z, hx, hz => by
    have e1 : v = x := Option.some.inj hx
    have e2 : a = z := Option.some.inj hz
    subst e1; subst e2
    simp [bindR]
  | j + 1, val, v :: vs, a :: r, x, z, hx, hz => by
    show bindR (bind1 val v a) (vs.take (j + 1)) (r.take (j + 1)) = bind1 (bindR (bind1 val v a) (vs.take j) (r.take j)) x z
    exact bindR_take (j := j) hx hz
  | _, _, [], _, _, _, hx, _ => by simp at hx
  | _, _, _ :: _, [], _, _, _, hz => by simp at hz
theorem bindR_congr : ∀ {vs : List Str} {r : List Int} {val val' : Str → Int}, vs.length = r.length → (∀ y, y ∉ vs → val' y = val y) → bindR val' vs r = bindR val vs r
  | [], r, val, val', _, h => by
    have : val' = val := funext fun y => h y (by simp)
    rw [this]
  | x :: vs, [], _, _, hl, _ => by simp at hl
  | x :: vs, v :: r, val, val', hl, h => by
    show bindR (bind1 val' x v) vs r = bindR (bind1 val x v) vs r
    refine bindR_congr (by simpa using hl) fun y hy => ?_
    unfold bind1
    by_cases e : y = x
    · rw [if_pos e, if_pos e]
    · rw [if_neg e, if_neg e]; exact h y (by simp [e, hy])
theorem bindR_notin : ∀ {vs : List Str} {r : List Int} {val : Str → Int} {y : Str}, y ∉ vs → bindR val vs r y = val y
  | [], r, val, y, _ => by simp [bindR]
  | x :: vs, [], val, y, _ => by simp [bindR]
  | x :: vs, v :: r, val, y, h => by
    show bindR (bind1 val x v) vs r y = val y
    rw [bindR_notin (fun m => h (by simp [m]))]
    unfold bind1
    rw [if_neg (fun e => h (by simp [e]))]
theorem vr_nm {x : Str} (h : x ∈ VR) : x ∈ NM := by
  have : ∀ x ∈ VR, x ∈ NM := by decide
  exact this x h
theorem nr_nm {x : Str} (h : x ∈ NR) : x ∈ NM := by
  have : ∀ x ∈ NR, x ∈ NM := by decide
  exact this x h
/-- here[name] = element -/
theorem ValsAt.put {H H' : Hp} {p : Addr} {VS : Str → Prop} {val : Str → Int} (h : ValsAt H p VS val) (x : Str) (z : Int) (hx : x ∈ NM) :
    ∃ kvs, H p = some (.dK kvs) ∧ kvs.length < sizeLine ∧ (∀ H', H' p = some (.dK (putK kvs (.inr x) (.int z))) → ValsAt H' p (fun y => VS y ∨ y = x) (bind1 val x z)) := by
  obtain ⟨kvs, h1, h2, h3⟩ := h
  refine ⟨kvs, h1, by have := h2.len; rw [sizeLine_eq]; omega, fun H' h' => ⟨_, h', h2.put hx, fun y hy => ?_⟩⟩
  rw [valV_put]
  unfold bind1
  by_cases e : y = x
  · subst e; rw [if_pos rfl, if_pos rfl]
  · have e' : ¬ (Sum.inr y : L2.Key) = Sum.inr x := fun z => e (Sum.inr.inj z)
    rw [if_neg e', if_neg e]
    exact h3 y (hy.resolve_right e)
theorem ValsAt.sub {H : Hp} {p : Addr} {VS VS' : Str → Prop} {val : Str → Int} (h : ValsAt H p VS val) (hs : ∀ x, VS' x → VS x) : ValsAt H p VS' val := let ⟨kvs, h1, h2, h3⟩ := h; ⟨kvs, h1, h2, fun x hx => h3 x (hs x hx)⟩
theorem rowsL_nd (n k : Nat) : (rowsL n k).Nodup := (rowsL_sorted n k).imp fun h e => by rw [e] at h; exact rlt_irrefl _ h
section
variable {X : Cx} {σ : L2.St} {H : Hp} {D : Ends} {tg : Expr} {body : List Stmt} {a b : Addr}
theorem turns_zipT (xs ys : List V) (hl : xs.length = ys.length) (Pv : Nat → L2.St → Hp → Prop) (h0 : Pv 0 σ H) (hq : ∀ i σ H, Pv i σ H → SqT X.K H a xs ∧ SqT X.K H b ys)
    (hs : ∀ (i : Nat) (x y : V) (T : Addr) (σ : L2.St) (H : Hp), xs[i]? = some x → ys[i]? = some y → Pv i σ H → H T = none → GG X tg (.ref T) σ (upd H T (.tup [x, y])) fun σ2 H2 => SS X body { D with nx := Pv (i + 1), ct := Pv (i + 1), bk := D.nx } σ2 H2) (hd : ∀ σ H, Pv xs.length σ H → D.nx σ H) : Turns X tg body D (RZ.ItzT X.K a b) σ H :=
  RZ.for_zipT (g := GG X tg) (tb := SS X body) hl Pv h0 hq hs hd
theorem turns_zipM (xs ys : List V) (hl : xs.length = ys.length) (Pv : Nat → L2.St → Hp → Prop) (h0 : Pv 0 σ H) (hq : ∀ i σ H, Pv i σ H → SqT X.K H a xs ∧ SqL X.K H b ys)
    (hs : ∀ (i : Nat) (x y : V) (T : Addr) (σ : L2.St) (H : Hp), xs[i]? = some x → ys[i]? = some y → Pv i σ H → H T = none → GG X tg (.ref T) σ (upd H T (.tup [x, y])) fun σ2 H2 => SS X body { D with nx := Pv (i + 1), ct := Pv (i + 1), bk := D.nx } σ2 H2) (hd : ∀ σ H, Pv xs.length σ H → D.nx σ H) : Turns X tg body D (ItM X.K a b) σ H := by
  refine ⟨fun i m σ H => m = xs.length - i ∧ i ≤ xs.length ∧ Pv i σ H, ⟨xs.length, rfl, Nat.zero_le _, h0⟩, ?_⟩
  rintro i m σ H ⟨rfl, hi, p⟩
  obtain ⟨qx, qy⟩ := hq i σ H p
  by_cases hlt : i < xs.length
  · have hx : xs[i]? = some xs[i] := List.getElem?_eq_getElem hlt
    have hlt2 : i < ys.length := by omega
    have hy : ys[i]? = some ys[i] := List.getElem?_eq_getElem hlt2
    refine .inr ⟨⟨xs, ys, _, _, qx, qy, hx, hy⟩, Pv (i + 1), fun σ' H' p' => ⟨xs.length - (i + 1), by omega, rfl, hlt, p'⟩, fun v H' y => ?_⟩
    obtain ⟨T, x', y', rfl, hT, rfl, f1, f2⟩ := y
    exact hs i x' y' T σ H (f1 xs qx) (f2 ys qy) p hT
  · have e : i = xs.length := by omega
    subst e
    exact .inl ⟨⟨xs, ys, qx, qy, Nat.le_refl _, by omega, .inl rfl⟩, hd σ H p⟩
end
section
variable {w : World} {K : PySem.W.Frag} {mg : Str → Option Value} {base : Heap} {Cw : Addr}
def spStage (K : PySem.W.Frag) (Cw : Addr) (d : Nat) : Sp := fun vs H Q _ => ∃ W bd Nm V D NS Γ VS, ∃ n : Nat, ∃ ρ val f xs, vs = [.ref W, bd, .ref Nm, .ref V] ∧ WAt Cw H W n D ∧ RelsAt H D NS ρ ∧ ValsAt H V VS val ∧ (∀ x ∈ VR, VS x ∨ x ∈ xs) ∧ FmAt K H f bd ∧ SqS K H Nm xs ∧ VsOk (· ∈ VR) xs ∧
  depth f ≤ d ∧ WF (· ∈ VR) (· ∈ NR) Γ f ∧ GamOk (· ∈ NR) Γ ∧ (∀ t ∈ Γ, NS t.1) ∧ 1 ≤ n ∧ n ≤ 4 ∧ lcost n f ≤ 20000 ∧
  ∀ b rs H', Ex K H H' → H' b = some (.dT (RDk rs)) → rs.Nodup → (∀ r, r ∈ rs ↔ IsRow n xs.length r ∧ Sem (n : Int) f ρ (bindR val xs r)) → Q (.ref b) H'
theorem pow_small {n k : Nat} (hn : n ≤ 4) (hk : k ≤ 3) : n ^ k ≤ 64 := by
  have h2 : k = 0 ∨ k = 1 ∨ k = 2 ∨ k = 3 := by omega
  have := Nat.mul_le_mul hn hn
  have := Nat.mul_le_mul this hn
  rcases h2 with rfl | rfl | rfl | rfl
  · simp
  · simp; omega
  · rw [Nat.pow_two]; omega
  · rw [Nat.pow_succ, Nat.pow_two]; omega
theorem dm_stage (T : TopM K Cw "stage" "World.stage" s_World_stage) (G : Gs K mg) (CW : CWk K Cw) (DR : Dn w K mg base "rows_of" 1 (spRowsOf K)) (d k : Nat) (hk : 1 ≤ k)
    (DT : Dm w K mg base Cw "true" k (spTr K Cw (fun _ => True) d)) : Dm w K mg base Cw "stage" (k + 1) (spStage K Cw d) := by
  refine T.dm sc_World_stage (fun vs H Q E h => ?_) (fun _ _ _ _ _ _ us hl => match us, hl with | [_, _, _, _], _ => rfl) (fun f cd A outer s0 H vs Q E hr h => ?_)
  · obtain ⟨W, bd, Nm, V, D, NS, Γ, VS, n, ρ, val, g, xs, rfl, _⟩ := h; rfl
  · obtain ⟨W, bd, Nm, V, D, NS, Γ, VS, n, ρ, val, g, xs, rfl, ⟨dx, hW⟩, hR, hV, hVS, hF, hX, ⟨hnd, hx1, hx3, hxv⟩, hd, hw, hg, hN, n1, n4, hc, q⟩ := h
    refine ss_cons (s_set 4 ?_ sc_World_stage.nd)
    refine ee_callTy (x := "dict") G.z_dict bt_dict ?_
    walk_at "ge"
    obtain ⟨kvs, hk1, hk2, hk3⟩ := id hV
    refine cc_of call_dictD ⟨V, kvs, rfl, .inl hk1, fun p hp => ?_⟩
    refine ss_cons (s_set 5 (ee_dnewT fun fd hfd => ?_) sc_World_stage.nd)
    have e1 : Ex K H (upd H p (.dK kvs)) := Ex.new hp
    have hpf : fd ≠ p := fun z => by rw [z, upd_same] at hfd; cases hfd
    have hfd0 : H fd = none := by rw [upd_ne hpf] at hfd; exact hfd
    have e2 : Ex K H (upd (upd H p (.dK kvs)) fd (.dT [])) := e1.trans (Ex.new hfd)
    have hp2 : (upd (upd H p (.dK kvs)) fd (.dT [])) p = some (.dK kvs) := by rw [upd_ne (Ne.symm hpf)]; exact upd_same
    have hf2 : (upd (upd H p (.dK kvs)) fd (.dT [])) fd = some (.dT (RDk [])) := upd_same
    generalize (upd (upd H p (.dK kvs)) fd (.dT [])) = H2 at *
    refine ss_cons (s_forT PassesOwn.never rfl (ii_list ?_))
    refine ee_call DR rfl (hr.mono (by omega)) ?_
    refine aa_cons (ee_fld ?_)
    walk_at "ge"
    refine ⟨W, Cw, dx, _, _, rfl, e2.keep _ _ nd_ins hW, CW.cls, CW.size, rfl, ?_⟩
    have hX2 := e2.t hX
    walk_at "ge"
    have hps := pow_small n4 hx3
    refine ⟨n, xs.length, by rw [List.length_map], by omega, by omega, by omega, fun H3 L us e3 _ hL hU => ?_⟩
    refine ⟨L, rfl, ⟨_, SqL.of hL⟩, ?_⟩
    have ndu := nd_allref hU.refs
    have e23 := e2.trans e3
    have hp3 : H3 p = some (.dK kvs) := e3.keep _ _ nd_dK hp2
    have hf3 : H3 fd = some (.dT (RDk [])) := e3.keep _ _ nd_dT hf2
    refine turns_list us (fun i σ H' => ∃ r0 y z rs val', σ = [some (.ref W), some bd, some (.ref Nm), some (.ref V), some (.ref p), some (.ref fd), r0, y, z] ∧ Ex K H H' ∧ H' L = some (.lst us) ∧ RowsAt K H' (rowsL n xs.length) us ∧
      H' fd = some (.dT (RDk rs)) ∧ rs.Nodup ∧ (∀ r, r ∈ rs ↔ r ∈ (rowsL n xs.length).take i ∧ Sem (n : Int) g ρ (bindR val xs r)) ∧ ValsAt H' p VS val' ∧ ∀ y, y ∉ xs → val' y = val y)
      ⟨none, none, none, [], val, rfl, e23, hL, hU, hf3, List.nodup_nil, by simp, ⟨kvs, hp3, hk2, hk3⟩, fun _ _ => rfl⟩ (fun i σ H' _ ⟨_, _, _, _, _, _, _, h, _⟩ => SqL.of h) ?_ ?_
    · rintro i x σ H' hx ⟨r0, y0, z0, rs, val', rfl, e, hL', hU', hf', hrn, hrs, hv', hval'⟩
      obtain ⟨r, hri, hrow⟩ := hU'.2 i x hx
      have hrI : IsRow (n : Int) xs.length r := mem_rowsL.mp (List.mem_of_getElem? hri)
      obtain ⟨pr, rfl, hpr⟩ := id hrow
      refine gg_name 6 ?_ sc_World_stage.nd
      refine ss_cons (s_forT PassesOwn.never rfl (ii_zipT G.z_zip ?_))
      walk_at "ge"
      refine ⟨Nm, pr, _, _, rfl, e.t hX, SqT.of hpr, ?_⟩
      refine turns_zipT (xs.map L2.V.str) (r.map L2.V.int) (by rw [List.length_map, List.length_map, hrI.1]) (fun j σ H2 => ∃ y z, σ = [some (.ref W), some bd, some (.ref Nm), some (.ref V), some (.ref p), some (.ref fd), some (.ref pr), y, z] ∧ Ex K H H2 ∧ H2 L = some (.lst us) ∧ RowsAt K H2 (rowsL n xs.length) us ∧
        H2 fd = some (.dT (RDk rs)) ∧ H2 pr = some (.tup (r.map L2.V.int)) ∧ ValsAt H2 p (fun y => VS y ∨ y ∈ xs.take j) (bindR val' (xs.take j) (r.take j)))
        ⟨y0, z0, rfl, e, hL', hU', hf', hpr, by simpa [bindR] using hv'⟩ (fun j σ H2 ⟨_, _, _, e, _, _, _, h, _⟩ => ⟨e.t hX, SqT.of h⟩) ?_ ?_
      · rintro j xv zv Tp σ H2 hxj hzj ⟨y, z, rfl, e4, hL4, hU4, hf4, hpr4, hv4⟩ hTp
        rw [List.getElem?_map] at hxj hzj
        cases hxs : xs[j]? with
        | none => rw [hxs] at hxj; cases hxj
        | some xx =>
        cases hrz : r[j]? with
        | none => rw [hrz] at hzj; cases hzj
        | some zz =>
        rw [hxs] at hxj; rw [hrz] at hzj
        obtain rfl : L2.V.str xx = xv := Option.some.inj hxj
        obtain rfl : L2.V.int zz = zv := Option.some.inj hzj
        have e5 : Ex K H2 (upd H2 Tp (.tup [.str xx, .int zz])) := Ex.new hTp
        have hTT : (upd H2 Tp (.tup [.str xx, .int zz])) Tp = some (.tup [.str xx, .int zz]) := upd_same
        generalize (upd H2 Tp (.tup [.str xx, .int zz])) = H5 at *
        refine gg_tup rfl (SqT.of hTT) ?_ rfl
        refine ggs_cons (gg_name 7 ?_ sc_World_stage.nd)
        refine ggs_cons (gg_name 8 ?_ sc_World_stage.nd)
        refine ggs_nil ?_
        obtain ⟨kv5, g1, g2, g3⟩ := (hv4.mono e5).put (H' := H5) xx zz (vr_nm (hxv xx (List.mem_of_getElem? hxs)))
        refine ss_cons (s_dput (u1 hr) ?_)
        walk_at "ge"
        refine ⟨p, _, rfl, DPut.k (k := .inr xx) g1 g2, ?_⟩
        refine ss_nil ?_
        have e45 := e4.trans e5
        have dne : fd ≠ p := hpf
        refine ⟨_, _, rfl, e45.mut hp, ?_, ?_, ?_, ?_, ?_⟩
        · rw [upd_ne (ne_of (e5.keep _ _ ndu hL4) g1 (fun z => nomatch z))]; exact e5.keep _ _ ndu hL4
        · refine (hU4.mono e5.tex).mono (TEx.upd g1 (fun _ z => nomatch z) (fun _ _ z => nomatch z))
        · rw [upd_ne dne]; exact e5.keep _ _ nd_dT hf4
        · rw [upd_ne (ne_of (e5.tr hpr4) g1 (fun z => nomatch z))]; exact e5.tr hpr4
        · rw [bindR_take hxs hrz]
          refine (g3 _ upd_same).sub fun y hy => ?_
          rcases hy with hy | hy
          · exact .inl (.inl hy)
          · rw [List.take_add_one, hxs] at hy
            rcases List.mem_append.mp hy with hy | hy
            · exact .inl (.inr hy)
            · exact .inr (by simpa using hy)
      · rintro σ H2 ⟨y, z, rfl, e4, hL4, hU4, hf4, hpr4, hv4⟩
        rw [List.length_map, List.take_length, List.take_of_length_le (by rw [hrI.1]; exact Nat.le_refl _), bindR_congr hrI.1.symm hval'] at hv4
        have hvT : ValsAt H2 p (· ∈ VR) (bindR val xs r) := hv4.sub fun x hx => hVS x hx
        refine ss_cons (s_if (bb_val ?_))
        refine ee_meth DT CW.cls rfl hr ?_
        walk_at "ge"
        refine ⟨W, dx, _, rfl, e4.keep _ _ nd_ins hW, rfl, ?_⟩
        walk_at "ge"
        refine ⟨W, p, bd, g, n, ρ, bindR val xs r, rfl, ⟨D, NS, Γ, ⟨dx, e4.keep _ _ nd_ins hW⟩, hR.mono e4, hvT, fmAt_mono e4.tex _ _ hF, hd, hw, hg, hN, n1, n4, hc⟩, trivial, fun bb H6 e6 hb => ?_⟩
        refine bq ?_
        have e46 := e4.trans e6
        have hrow6 : RowAt K H6 r (.ref pr) := ⟨pr, rfl, e6.tr hpr4⟩
        have hL6 := e6.keep _ _ ndu hL4
        have hU6 := hU4.mono e6.tex
        have hf6 := e6.keep _ _ nd_dT hf4
        have hv6 := hv4.mono e6
        have htk : (rowsL n xs.length).take (i + 1) = (rowsL n xs.length).take i ++ [r] := take_succ_snoc hri
        have hvn : ∀ y, y ∉ xs → bindR val xs r y = val y := fun y hy => bindR_notin hy
        cases bb with
        | true =>
          refine if_tt ?_
          have hrl : rs.length ≤ 10000 := by
            have := few_of_nodup hrn fun r hr => List.mem_of_mem_take ((hrs r).mp hr).1
            rw [rowsL_len] at this; omega
          refine ss_cons (s_dput (u1 hr) ?_)
          walk_at "ge"
          refine ⟨fd, _, rfl, dputR hf6 hrow6 hrl, ?_⟩
          refine ss_nil (ss_nil ?_)
          refine ⟨_, _, _, addR rs r, bindR val xs r, rfl, e46.mut hfd0, ?_, ?_, upd_same, addR_nd hrn, fun r' => ?_, ?_, hvn⟩
          · rw [upd_ne (ne_of hL6 hf6 (fun z => nomatch z))]; exact hL6
          · exact hU6.mono (TEx.upd hf6 (fun _ z => nomatch z) (fun _ _ z => nomatch z))
          · rw [mem_addR, hrs r', htk, List.mem_append, List.mem_singleton]
            constructor
            · rintro (⟨a1, a2⟩ | rfl)
              · exact ⟨.inl a1, a2⟩
              · exact ⟨.inr rfl, hb.mp rfl⟩
            · rintro ⟨a1 | rfl, a2⟩
              · exact .inl ⟨a1, a2⟩
              · exact .inr rfl
          · obtain ⟨kv, g1, g2, g3⟩ := hv6
            exact ⟨kv, by rw [upd_ne (Ne.symm hpf)]; exact g1, g2, fun x hx => g3 x (.inl hx)⟩
        | false =>
          refine if_ff ?_
          refine ss_nil (ss_nil ?_)
          refine ⟨_, _, _, rs, bindR val xs r, rfl, e46, hL6, hU6, hf6, hrn, fun r' => ?_, hv6.sub fun x hx => .inl hx, hvn⟩
          rw [hrs r', htk, List.mem_append, List.mem_singleton]
          constructor
          · rintro ⟨a1, a2⟩; exact ⟨.inl a1, a2⟩
          · rintro ⟨a1 | rfl, a2⟩
            · exact ⟨a1, a2⟩
            · have := hb.mpr a2; cases this
    · rintro σ H' ⟨r0, y0, z0, rs, val', rfl, e, hL', hU', hf', hrn, hrs, hv', hval'⟩
      walk_at "go"
      refine q fd rs H' e hf' hrn fun r => ?_
      rw [hrs r, hU'.1, List.take_length, mem_rowsL]
end
end Sy
namespace Sy
section
variable {w : World} {K : PySem.W.Frag} {mg : Str → Option Value} {base : Heap} {Cw : Addr}
theorem rowsL_zero {n : Nat} (hn : 1 ≤ n) : ∀ k, (rowsL n k)[0]? = some (List.replicate k (0 : Int))
  | 0 => rfl
  | k + 1 => by
    have := rowsL_get (n := n) (k := k) (q := 0) (i := 0) (by omega)
    rw [show 0 * n + 0 = 0 by omega, rowsL_zero hn k] at this
    rw [this]
    show some (List.replicate k (0 : Int) ++ [((0 : Nat) : Int)]) = _
    rw [List.replicate_succ']; rfl
theorem dm_ranged (T : TopM K Cw "ranged" "World.ranged" s_World_ranged) (G : Gs K mg) (CW : CWk K Cw) (DFo : Dn w K mg base "following" 1 (spFollowing K)) (d k : Nat) (hk : 1 ≤ k)
    (DT : Dm w K mg base Cw "true" k (spTr K Cw (fun _ => True) d)) : Dm w K mg base Cw "ranged" (k + 1) (spTr K Cw (fun φ => ∃ s xs f, φ = .quant s xs f) (d + 1)) := by
  refine T.dm sc_World_ranged (fun vs H Q E h => ?_) (fun _ _ _ _ _ _ us hl => match us, hl with | [_, _, _], _ => rfl) (fun f cd A outer s0 H vs Q E hr h => ?_)
  · obtain ⟨W, V, v, φ, n, ρ, val, rfl, _⟩ := h; rfl
  · obtain ⟨W, V, v, φ, n, ρ, val, rfl, hT, ⟨sg, xs, g, rfl⟩, q⟩ := h
    obtain ⟨D, NS, Γ, ⟨dx, hW⟩, hR, hV, hF, hd, hw, hg, hN, n1, n4, hc⟩ := id hT
    obtain ⟨a, b, u, rfl, h1, h2, h3⟩ := id hF
    simp only [WF] at hw
    obtain ⟨⟨hnd, hx1, hx3, hxv⟩, hwg⟩ := hw
    have hsg : decide (qW sg = "some") = sg := by cases sg <;> decide
    have hcg : lcost n g ≤ 20000 := (lcost_small (by omega) hc).1 g (by simp [kids])
    refine ss_cons (s_set 3 ?_ sc_World_ranged.nd)
    refine ee_cmp (ee_ix (ee_var 1 rfl (ee_int (ix_t 0 h1 rfl ?_))))
    walk_at "ge"
    rw [hsg]
    refine ss_cons (s_set 4 (ee_ix (ee_var 1 rfl (ee_int (ix_t 1 h1 rfl ?_)))) sc_World_ranged.nd)
    refine ss_cons (s_set 5 ?_ sc_World_ranged.nd)
    refine ee_callTy (x := "dict") G.z_dict bt_dict ?_
    walk_at "ge"
    obtain ⟨kvs, hk1, hk2, hk3⟩ := id hV
    refine cc_of call_dictD ⟨V, kvs, rfl, .inl hk1, fun p hp => ?_⟩
    have e1 : Ex K H (upd H p (.dK kvs)) := Ex.new hp
    have hp1 : (upd H p (.dK kvs)) p = some (.dK kvs) := upd_same
    have h2' := e1.t h2
    generalize (upd H p (.dK kvs)) = H1 at *
    refine ss_cons (s_lc [("_", 7)] N_World_ranged (defScope s_World_ranged) 6 rfl sc_World_ranged.nd (ii_tup ?_))
    walk_at "ge"
    refine ⟨⟨_, h2'⟩, fun L0 hL0 => ?_⟩
    refine lt_mapT (K := K) (xs.map L2.V.str) (fun i y _ => y = .int 0) (fun _ _ _ _ _ h => h) hL0 h2' (by rw [List.length_map]; omega) (fun ys H h => nd_noref fun x hx a => by
      obtain ⟨j, hj⟩ := List.mem_iff_getElem?.mp hx
      have := h j x hj
      rw [this]; intro z; cases z) ?_ ?_
    · intro i x H2 hx e s2 H0 C cl fp
      refine gg_name 7 ?_ sc_World_ranged.nd
      refine ⟨rfl, Ex.refl, ?_⟩
      intro s1 H01 C1 cl1 fp1
      walk_at "ge"
      exact ⟨Ex.refl, rfl⟩
    · intro ys H2 e2 hL2 hyl hys
      have hyz : ys = (List.replicate xs.length (0 : Int)).map L2.V.int := by
        refine List.ext_getElem? fun i => ?_
        rw [List.length_map] at hyl
        rw [List.getElem?_map, List.getElem?_replicate]
        by_cases hi : i < xs.length
        · have hy : ys[i]? = some (ys[i]'(by omega)) := List.getElem?_eq_getElem _
          rw [if_pos hi, hy, hys i _ hy]; rfl
        · rw [if_neg hi, List.getElem?_eq_none (by omega)]; rfl
      subst hyz
      have e12 := e1.trans e2
      have hp2 := e2.keep _ _ nd_dK hp1
      refine ss_cons (s_while PassesOwn.never ⟨fun m σ H' => ∃ rw y z z7 val', σ = [some (.ref W), some (.ref a), some (.ref V), some (.bl sg), some (.ref b), some (.ref p), some rw, z7, y, z] ∧ Ex K H H' ∧ ValsAt H' p (· ∈ VR) val' ∧ (∀ y, y ∉ xs → val' y = val y) ∧
        ((∃ L r j, rw = .ref L ∧ H' L = some (.lst (r.map L2.V.int)) ∧ (rowsL n xs.length)[j]? = some r ∧ m = (rowsL n xs.length).length - j ∧ ∀ j' r', j' < j → (rowsL n xs.length)[j']? = some r' → (Sem (n : Int) g ρ (bindR val xs r') ↔ sg = false)) ∨
         (rw = .non ∧ m = 0 ∧ ∀ r', r' ∈ rowsL n xs.length → (Sem (n : Int) g ρ (bindR val xs r') ↔ sg = false))),
        ⟨_, _, none, none, none, val, rfl, e12, ⟨kvs, hp2, hk2, hk3⟩, fun _ _ => rfl, .inl ⟨L0, _, 0, rfl, hL2, rowsL_zero n1 _, rfl, fun j' r' hj => by omega⟩⟩, ?_⟩)
      rintro m σ H' ⟨rw, y0, z0, z7, val', rfl, e, hv, hval', hcase⟩
      refine bb_cmp ?_
      walk_at "ge"
      rcases hcase with ⟨L, r, j, rfl, hL, hrj, rfl, hall⟩ | ⟨rfl, rfl, hall⟩
      · refine if_t (by simp) ?_
        have hrI : IsRow (n : Int) xs.length r := mem_rowsL.mp (List.mem_of_getElem? hrj)
        have hjl := (List.getElem?_eq_some_iff.mp hrj).1
        refine ⟨fun σ2 H2 => ∃ rw y z z7 val', σ2 = [some (.ref W), some (.ref a), some (.ref V), some (.bl sg), some (.ref b), some (.ref p), some rw, z7, y, z] ∧ Ex K H H2 ∧ ValsAt H2 p (· ∈ VR) val' ∧ (∀ y, y ∉ xs → val' y = val y) ∧
          ((∃ L r, rw = .ref L ∧ H2 L = some (.lst (r.map L2.V.int)) ∧ (rowsL n xs.length)[j + 1]? = some r ∧ ∀ j' r', j' < j + 1 → (rowsL n xs.length)[j']? = some r' → (Sem (n : Int) g ρ (bindR val xs r') ↔ sg = false)) ∨
           (rw = .non ∧ ∀ r', r' ∈ rowsL n xs.length → (Sem (n : Int) g ρ (bindR val xs r') ↔ sg = false))), ?_, ?_⟩
        · rintro σ2 H2 ⟨rw, y, z, z7, val2, c1, c2, c3, c4, hc5⟩
          rcases hc5 with ⟨L2', r2, d1, d2, d3, d4⟩ | ⟨d1, d2⟩
          · exact ⟨_, by omega, rw, y, z, z7, val2, c1, c2, c3, c4, .inl ⟨L2', r2, j + 1, d1, d2, d3, rfl, d4⟩⟩
          · exact ⟨0, by omega, rw, y, z, z7, val2, c1, c2, c3, c4, .inr ⟨d1, rfl, d2⟩⟩
        refine ss_cons (s_forT PassesOwn.never rfl (ii_zipM G.z_zip ?_))
        walk_at "ge"
        refine ⟨b, L, _, _, rfl, e.t h2, SqL.of hL, ?_⟩
        have ndr : NotDraw (.lst (r.map L2.V.int)) := nd_ints
        refine turns_zipM (xs.map L2.V.str) (r.map L2.V.int) (by rw [List.length_map, List.length_map, hrI.1]) (fun jj σ H2 => ∃ y z, σ = [some (.ref W), some (.ref a), some (.ref V), some (.bl sg), some (.ref b), some (.ref p), some (.ref L), z7, y, z] ∧ Ex K H H2 ∧ H2 L = some (.lst (r.map L2.V.int)) ∧ ValsAt H2 p (· ∈ VR) (bindR val' (xs.take jj) (r.take jj)))
          ⟨y0, z0, rfl, e, hL, by simpa [bindR] using hv⟩ (fun jj σ H2 ⟨_, _, _, e, h, _⟩ => ⟨e.t h2, SqL.of h⟩) ?_ ?_
        · rintro jj xv zv Tp σ H2 hxj hzj ⟨y, z, rfl, e4, hL4, hv4⟩ hTp
          rw [List.getElem?_map] at hxj hzj
          cases hxs : xs[jj]? with
          | none => rw [hxs] at hxj; cases hxj
          | some xx =>
          cases hrz : r[jj]? with
          | none => rw [hrz] at hzj; cases hzj
          | some zz =>
          rw [hxs] at hxj; rw [hrz] at hzj
          obtain rfl : L2.V.str xx = xv := Option.some.inj hxj
          obtain rfl : L2.V.int zz = zv := Option.some.inj hzj
          have e5 : Ex K H2 (upd H2 Tp (.tup [.str xx, .int zz])) := Ex.new hTp
          have hTT : (upd H2 Tp (.tup [.str xx, .int zz])) Tp = some (.tup [.str xx, .int zz]) := upd_same
          generalize (upd H2 Tp (.tup [.str xx, .int zz])) = H5 at *
          refine gg_tup rfl (SqT.of hTT) ?_ rfl
          refine ggs_cons (gg_name 8 ?_ sc_World_ranged.nd)
          refine ggs_cons (gg_name 9 ?_ sc_World_ranged.nd)
          refine ggs_nil ?_
          have hxvr := hxv xx (List.mem_of_getElem? hxs)
          obtain ⟨kv5, g1, g2, g3⟩ := (hv4.mono e5).put (H' := H5) xx zz (vr_nm hxvr)
          refine ss_cons (s_dput (u1 hr) ?_)
          walk_at "ge"
          refine ⟨p, _, rfl, DPut.k (k := .inr xx) g1 g2, ?_⟩
          refine ss_nil ?_
          refine ⟨_, _, rfl, (e4.trans e5).mut hp, ?_, ?_⟩
          · rw [upd_ne (ne_of (e5.keep _ _ ndr hL4) g1 (fun z => nomatch z))]; exact e5.keep _ _ ndr hL4
          · rw [bindR_take hxs hrz]
            exact (g3 _ upd_same).sub fun y hy => .inl hy
        · rintro σ H2 ⟨y, z, rfl, e4, hL4, hv4⟩
          rw [List.length_map, List.take_length, List.take_of_length_le (by rw [hrI.1]; exact Nat.le_refl _), bindR_congr hrI.1.symm hval'] at hv4
          refine ss_cons (s_if (bb_cmp ?_))
          refine ee_meth DT CW.cls rfl hr ?_
          walk_at "ge"
          refine ⟨W, dx, _, rfl, e4.keep _ _ nd_ins hW, rfl, ?_⟩
          refine aa_cons (ee_ix (ee_var 1 rfl (ee_int (ix_t 2 (e4.t h1) rfl ?_))))
          walk_at "ge"
          refine ⟨W, p, u, g, n, ρ, bindR val xs r, rfl, ⟨D, NS, Γ, ⟨dx, e4.keep _ _ nd_ins hW⟩, hR.mono e4, hv4, fmAt_mono e4.tex _ _ h3, by simp only [depth] at hd; omega, hwg, hg, hN, n1, n4, hcg⟩, trivial, fun bb H6 e6 hb => ?_⟩
          have e46 := e4.trans e6
          walk_at "ge"
          refine if_d (fun hq => ?_) (fun hq => ?_)
          · walk_at "go"
            refine q _ _ e46 ?_
            subst hq
            cases bb with
            | true => exact ⟨fun _ => by simp only [Sem]; exact ⟨r, hrI, hb.mp rfl⟩, fun _ => rfl⟩
            | false =>
              refine ⟨(fun z => nomatch z), fun z => ?_⟩
              simp only [Sem] at z
              exact hb.mpr (z r hrI)
          · refine ss_nil (ss_cons (s_set 6 ?_ sc_World_ranged.nd))
            have hL6 := e6.keep _ _ ndr hL4
            have hv6 := hv4.mono e6
            have hvn : ∀ y, y ∉ xs → bindR val xs r y = val y := fun y hy => bindR_notin hy
            have hthis : Sem (n : Int) g ρ (bindR val xs r) ↔ sg = false := by
              rw [← hb]
              cases bb <;> cases sg <;> simp_all
            have hall2 : ∀ j' r', j' < j + 1 → (rowsL n xs.length)[j']? = some r' → (Sem (n : Int) g ρ (bindR val xs r') ↔ sg = false) := fun j' r' hj' hr' => by
              by_cases hjj : j' = j
              · subst hjj; rw [hrj] at hr'; cases hr'; exact hthis
              · exact hall j' r' (by omega) hr'
            refine ee_call DFo rfl (hr.mono (by omega)) ?_
            refine aa_cons (ee_var 6 rfl ?_)
            refine aa_cons (ee_fld ?_)
            walk_at "ge"
            refine ⟨W, Cw, dx, _, _, rfl, e46.keep _ _ nd_ins hW, CW.cls, CW.size, rfl, ?_⟩
            walk_at "ge"
            obtain ⟨nx1, nx2⟩ := nxt_get hrj
            refine ⟨L, r, (n : Int), rfl, SqL.of hL6, by rw [hrI.1]; omega, fun r' L' H7 hnx e7 hL7 => ?_, fun hlast H7 e7 => ?_⟩
            · refine ss_nil ⟨_, _, _, _, bindR val xs r, rfl, e46.trans e7, hv6.mono e7, hvn, .inl ⟨L', r', rfl, hL7, nx1 r' hnx, hall2⟩⟩
            · refine ss_nil ⟨_, _, _, _, bindR val xs r, rfl, e46.trans e7, hv6.mono e7, hvn, .inr ⟨rfl, fun r' hr' => ?_⟩⟩
              obtain ⟨j', hj'⟩ := List.mem_iff_getElem?.mp hr'
              have := (List.getElem?_eq_some_iff.mp hj').1
              have := nx2 hlast
              exact hall2 j' r' (by omega) hj'
      · refine if_f (by simp) ?_
        walk_at "go"
        refine q _ _ e ?_
        cases sg with
        | true =>
          refine ⟨(fun z => nomatch z), fun z => ?_⟩
          simp only [Sem] at z
          obtain ⟨r, hr1, hr2⟩ := z
          have := (hall r (mem_rowsL.mpr hr1)).mp hr2
          cases this
        | false =>
          refine ⟨fun _ => ?_, fun _ => rfl⟩
          simp only [Sem]
          exact fun r hr1 => (hall r (mem_rowsL.mpr hr1)).mpr rfl
end
end Sy
namespace Sy
section
variable {X : Cx} {σ : L2.St} {H : Hp} {elt tg c : Expr} {scope : Scope} {vs : List Nat} {a : Addr} {K : PySem.W.Frag} {L : Addr} {Qd : Hp → Prop}
/-- with a test, over enumerate(xs) -/
theorem lt_ifE (xs : List V) (Pv : Nat → List V → Hp → Prop) (hL : H L = none) (hl : SqL K H a xs) (ndx : NotDraw (.lst xs)) (hz : xs.length ≤ 100000) (h0 : ∀ H', TEx H H' → Pv 0 [] H') (hn : ∀ i ys H, Pv i ys H → ys.length ≤ i ∧ NotDraw (.lst ys))
    (mono : ∀ i ys H H', TEx H H' → Pv i ys H → Pv i ys H')
    (hs : ∀ (i : Nat) (x : V) (ys : List V) (T : Addr) (H2 : Hp), xs[i]? = some x → Ex K H H2 → Pv i ys H2 → H2 T = some (.tup [.int (i : Nat), x]) → GGb X scope tg (.ref T) (wipe σ vs) H2 fun σ2 H3 => wipe σ2 vs = wipe σ vs ∧ Ex K H2 H3 ∧ BBb X scope c σ2 H3 fun b H4 => Ex K H3 H4 ∧ if b = true then EEb X scope elt σ2 H4 fun y H5 => Ex K H4 H5 ∧ Pv (i + 1) (ys ++ [y]) H5 else Pv (i + 1) ys H4)
    (hd : ∀ ys H', Ex K H H' → H' L = some (.lst ys) → Pv xs.length ys H' → Qd H') : LTurns (Ite K a) (GGb X scope tg) (BBb X scope c) (EEb X scope elt) vs σ L H Qd := by
  refine ⟨fun i m H' => m = xs.length - i ∧ i ≤ xs.length ∧ ∃ ys, Ex K H H' ∧ H' L = some (.lst ys) ∧ Pv i ys H', ⟨xs.length, by simp, Nat.zero_le _, [], Ex.new hL, upd_same, h0 _ (TEx.new hL)⟩, ?_⟩
  rintro i m H2 ⟨rfl, hi, ys, e, h1, h2⟩
  by_cases hlt : i < xs.length
  · have hx : xs[i]? = some xs[i] := List.getElem?_eq_getElem hlt
    refine .inr ⟨⟨xs, xs[i], e.l ndx hl, hx⟩, fun H' => ∃ ys, Ex K H H' ∧ H' L = some (.lst ys) ∧ Pv (i + 1) ys H', fun H' p' => ⟨xs.length - (i + 1), by omega, rfl, hlt, p'⟩, ?_⟩
    rintro v H' ⟨T, x, rfl, hT, rfl, hy⟩
    have hxx := hy xs (e.l ndx hl)
    have e2 : Ex K H2 (upd H2 T (.tup [.int (i : Nat), x])) := Ex.new hT
    obtain ⟨hlen, nds⟩ := hn i ys H2 h2
    have h1' := e2.keep _ _ nds h1
    have h2' := mono _ _ _ _ e2.tex h2
    intro s H0 C cl fp
    refine ⟨fun pins s1 u I r => thn ((hs i x ys T _ hxx (e.trans e2) h2' upd_same s H0 C cl fp).run pins s1 u I r) fun _ s2 ⟨σ2, H3, I3, hw, e3, q⟩ => ⟨σ2, H3, I3, hw, ?_⟩⟩
    intro s H0 C cl fp
    refine ⟨fun pins s1 I => thn ((q s H0 C cl fp).run pins s1 I) fun b s2 ⟨H4, I4, e4, q4⟩ => ⟨H4, I4, ?_⟩⟩
    have l4 : H4 L = some (.lst ys) := e4.keep _ _ nds (e3.keep _ _ nds h1')
    cases b with
    | false => exact iteF ⟨ys, ((e.trans e2).trans e3).trans e4, l4, q4⟩
    | true =>
      refine iteT ?_
      intro s H0 C cl fp
      refine ⟨fun pins s1 I => thn ((q4 s H0 C cl fp).run pins s1 I) fun u s2 ⟨y, H5, I5, r5, e5, hy⟩ => ⟨y, H5, I5, r5, ?_⟩⟩
      have l5 : H5 L = some (.lst ys) := e5.keep _ _ nds l4
      exact ⟨ys, l5, by rw [sizeLine_eq]; omega, ys ++ [y], ((((e.trans e2).trans e3).trans e4).trans e5).mut hL, upd_same, mono _ _ _ _ (TEx.upd l5 (fun _ z => nomatch z) (fun _ _ z => nomatch z)) hy⟩
  · have ei : i = xs.length := by omega
    subst ei
    exact .inl ⟨⟨xs, e.l ndx hl, Nat.le_refl _⟩, hd ys H2 e h1 h2⟩
theorem ii_enum {e : Expr} {p pos tpos : Pos} {elts : List Expr} {kk : Nat} {R : It → Hp → Prop} (hm : X.mg "enumerate" = none) (h : AA X [e] σ H fun vs H1 => ∃ a xs, vs = [.ref a] ∧ SqL X.K H1 a xs ∧ R (Ite X.K a) H1)
    (hg : Gl X "enumerate" := by rfl) (hs : starEach [e] X.env = [(false, eval e X.env)] := by rfl) : II X (.Tuple elts kk tpos) (.Call (.Name "enumerate" p) [e] [] pos) σ H R :=
  ii_of (pi_enum (ta := AA X [e]) hg hm AA.pa hs) h
end
theorem bit_tab : ∀ m, m < 16 → ∀ i, i < 4 → ((Builtin.bitAnd (m : Nat) ((1 : Int) * 2 ^ ((i : Nat) : Int).toNat) != 0) = m.testBit i) := by decide +kernel
theorem mask_of (P : Nat → Prop) : ∀ l : Nat, ∃ m, m < 2 ^ l ∧ ∀ j, j < l → (m.testBit j = true ↔ P j)
  | 0 => ⟨0, by simp, fun j hj => by omega⟩
  | l + 1 => by
    obtain ⟨m, h1, h2⟩ := mask_of P l
    have hf : m.testBit l = false := Nat.testBit_lt_two_pow h1
    by_cases h : P l
    · refine ⟨2 ^ l + m, by rw [Nat.pow_succ]; omega, fun j hj => ?_⟩
      by_cases hjl : j = l
      · subst hjl
        rw [Nat.testBit_two_pow_add_eq, hf]; simp [h]
      · rw [Nat.testBit_two_pow_add_gt (by omega)]; exact h2 j (by omega)
    · refine ⟨m, by rw [Nat.pow_succ]; omega, fun j hj => ?_⟩
      by_cases hjl : j = l
      · subst hjl; rw [hf]; simp [h]
      · exact h2 j (by omega)
/-- the world with a name more -/
theorem RelsAt.put {H' : Hp} {D' : Addr} {NS : Str → Prop} {ρ : Str → Rel} {kvs : List (L2.Key × V)} {nm : Str} {b : Addr} {rs : List (List Int)} {S : Rel} (hk : KeyOk kvs) (h : ∀ nm, NS nm → ∃ b rs, valV kvs (.inr nm) = some (.ref b) ∧ H' b = some (.dT (RDk rs)) ∧ ∀ r, r ∈ rs ↔ ρ nm r)
    (hD : H' D' = some (.dK (putK kvs (.inr nm) (.ref b)))) (hb : H' b = some (.dT (RDk rs))) (hS : ∀ r, r ∈ rs ↔ S r) (hn : nm ∈ NM) : RelsAt H' D' (fun x => NS x ∨ x = nm) (updR ρ nm S) := by
  refine ⟨_, hD, hk.put hn, fun x hx => ?_⟩
  rw [valV_put]
  by_cases e : x = nm
  · subst e
    refine ⟨b, rs, by rw [if_pos rfl], hb, fun r => ?_⟩
    rw [hS r]; unfold updR; rw [if_pos rfl]
  · have e' : ¬ (Sum.inr x : L2.Key) = Sum.inr nm := fun z => e (Sum.inr.inj z)
    obtain ⟨b', rs', h1, h2, h3⟩ := h x (hx.resolve_right e)
    refine ⟨b', rs', by rw [if_neg e']; exact h1, h2, fun r => ?_⟩
    rw [h3 r]; unfold updR; rw [if_neg e]
theorem within_ns {Γ : Gm} {NS : Str → Prop} (h : ∀ t ∈ Γ, NS t.1) {nm : Str} {k m : Nat} : ∀ t ∈ within Γ nm k m, (fun x => NS x ∨ x = nm) t.1 := fun t ht => by
  rcases mem_within.mp ht with ⟨h1, _⟩ | rfl
  · exact .inl (h t h1)
  · exact .inr rfl
theorem barred_ns {Γ : Gm} {NS : Str → Prop} (h : ∀ t ∈ Γ, NS t.1) : ∀ t ∈ barred Γ, NS t.1 := fun t ht => by
  obtain ⟨m, h1, _⟩ := mem_barred.mp ht
  have := h _ h1
  exact this
section
variable {w : World} {K : PySem.W.Frag} {mg : Str → Option Value} {base : Heap} {Cw : Addr}
theorem dm_guessed (T : TopM K Cw "guessed" "World.guessed" s_World_guessed) (G : Gs K mg) (CW : CWk K Cw) (DR : Dn w K mg base "rows_of" 1 (spRowsOf K)) (DK : Dn w K mg base "keys_of" 1 (spKeysOf K)) (DN : Dm w K mg base Cw "with_name" 3 (spWithName K Cw)) (d k : Nat) (hk : 3 ≤ k)
    (DT : Dm w K mg base Cw "true" k (spTr K Cw (fun _ => True) d)) : Dm w K mg base Cw "guessed" (k + 1) (spTr K Cw (fun φ => ∃ nm ar f, φ = .guess nm ar f) (d + 1)) := by
  refine T.dm sc_World_guessed (fun vs H Q E h => ?_) (fun _ _ _ _ _ _ us hl => match us, hl with | [_, _, _], _ => rfl) (fun f cd A outer s0 H vs Q E hr h => ?_)
  · obtain ⟨W, V, v, φ, n, ρ, val, rfl, _⟩ := h; rfl
  · obtain ⟨W, V, v, φ, n, ρ, val, rfl, hT, ⟨nm, ar, g, rfl⟩, q⟩ := h
    obtain ⟨D, NS, Γ, ⟨dx, hW⟩, hR, hV, hF, hd, hw, hg, hN, n1, n4, hc⟩ := id hT
    obtain ⟨a, u, rfl, h1, h2⟩ := id hF
    simp only [WF] at hw
    obtain ⟨hnm, har, hwg⟩ := hw
    have hcg : lcost n g ≤ 20000 := (lcost_small (by omega) hc).1 g (by simp [kids])
    refine ss_cons (s_asg ?_)
    refine ee_var 1 rfl ?_
    refine gg_tup rfl h1 ?_ rfl
    refine ggs_cons (gg_name 5 ?_ sc_World_guessed.nd)
    refine ggs_cons (gg_name 6 ?_ sc_World_guessed.nd)
    refine ggs_cons (gg_name 7 ?_ sc_World_guessed.nd)
    refine ggs_cons (gg_name 8 ?_ sc_World_guessed.nd)
    refine ggs_nil ?_
    refine ss_cons (s_set 3 ?_ sc_World_guessed.nd)
    refine ee_call DR rfl (hr.mono (by omega)) ?_
    refine aa_cons (ee_fld ?_)
    walk_at "ge"
    refine ⟨W, Cw, dx, _, _, rfl, hW, CW.cls, CW.size, rfl, ?_⟩
    walk_at "ge"
    have hpow : n ^ ar ≤ 4 := by
      have : ar = 0 ∨ ar = 1 := by omega
      rcases this with rfl | rfl
      · simp
      · simp; omega
    refine ⟨n, ar, rfl, by omega, by omega, by omega, fun H1 L us e1 _ hL hU => ?_⟩
    have ndu := nd_allref hU.refs
    have hul : us.length ≤ 4 := by rw [hU.1, rowsL_len]; exact hpow
    have hRl : (rowsL n ar).length = us.length := hU.1.symm
    refine ss_cons (s_forT PassesOwn.never rfl (ii_range G.z_range ?_))
    refine aa_cons (ee_bin ?_)
    walk_at "ge"
    refine cc_lenL (SqL.of hL) ?_
    refine oo_shl ⟨by omega, by omega, by decide⟩ ?_
    refine aa_nil ?_
    have hpw : (1 * (2 : Int) ^ ((us.length : Nat) : Int).toNat) = ((2 ^ us.length : Nat) : Int) := by
      rw [Int.toNat_natCast, Int.one_mul, Int.natCast_pow]; rfl
    have hp16 : 2 ^ us.length ≤ 16 := by
      have := Nat.pow_le_pow_right (n := 2) (by omega) hul; exact this
    refine ⟨_, rfl, by rw [hpw]; generalize 2 ^ us.length = pw at hp16 ⊢; omega, by rw [hpw]; generalize 2 ^ us.length = pw at hp16 ⊢; omega, ?_⟩
    rw [hpw, Int.toNat_natCast]
    let Sm : Nat → Rel := fun m r => ∃ j, (rowsL n ar)[j]? = some r ∧ m.testBit j = true
    refine turns_range (2 ^ us.length) (fun i σ H' => ∃ y z yr ch, σ = [some (.ref W), some (.ref a), some (.ref V), some (.ref L), ch, some (.str "guess"), some (.str nm), some (.int (ar : Int)), some u, y, z, yr] ∧ Ex K H H' ∧ H' L = some (.lst us) ∧ RowsAt K H' (rowsL n ar) us ∧ ∀ m, m < i → ¬ Sem (n : Int) g (updR ρ nm (Sm m)) val)
      ⟨_, _, _, _, rfl, e1, hL, hU, fun m hm => by omega⟩ ?_ ?_
    · rintro i σ H' hi ⟨y, z, yr, ch, rfl, e, hL', hU', hall⟩
      refine gg_name 4 ?_ sc_World_guessed.nd
      refine ss_cons (s_set 9 ?_ sc_World_guessed.nd)
      refine ee_call DK rfl (hr.mono (by omega)) ?_
      refine aa_cons ?_
      refine ee_lcIf [("at", 10), ("row", 11)] N_World_guessed (defScope s_World_guessed) rfl sc_World_guessed.nd (ii_enum G.z_enumerate ?_)
      walk_at "ge"
      refine ⟨L, us, rfl, SqL.of hL', fun R hR0 => ?_⟩
      refine lt_ifE (K := K) us (fun j ys H2 => ys.length ≤ j ∧ ∃ rs, RowsAt K H2 rs ys ∧ rs.Nodup ∧ ∀ r, r ∈ rs ↔ ∃ t, t < j ∧ (rowsL n ar)[t]? = some r ∧ i.testBit t = true) hR0 (SqL.of hL') ndu (by omega) (fun H' _ => ⟨Nat.zero_le _, [], RowsAt.nil, List.nodup_nil, fun r => ⟨fun h => by simp at h, fun ⟨t, ht, _⟩ => by omega⟩⟩) (fun j ys H ⟨h1, rs, h2, _⟩ => ⟨h1, nd_allref h2.refs⟩) (fun j ys H H' e ⟨h1, rs, h2, h3⟩ => ⟨h1, rs, h2.mono e, h3⟩) ?_ ?_
      · rintro j x ys Tp H2 hx e2 ⟨hyl, rs, hrs1, hrs2, hrs3⟩ hTp s2 H0 C cl fp
        obtain ⟨r, hrj, hrow⟩ := hU'.2 j x hx
        have hjl := (List.getElem?_eq_some_iff.mp hx).1
        refine gg_tup rfl (SqT.of hTp) ?_ rfl
        refine ggs_cons (gg_name 10 ?_ sc_World_guessed.nd)
        refine ggs_cons (gg_name 11 ?_ sc_World_guessed.nd)
        refine ggs_nil ⟨rfl, Ex.refl, ?_⟩
        intro s1 H01 C1 cl1 fp1
        refine bb_tru (ee_bin (ee_var 4 rfl (ee_bin (ee_int (ee_var 10 rfl (oo_shl ⟨by omega, by omega, by decide⟩ (oo_band ?_)))))))
        refine ⟨_, rfl, Ex.refl, ?_⟩
        have hbit := bit_tab i (by omega) j (by omega)
        have hbit2 : ((Builtin.bitAnd (0 + (i : Int)) (1 * 2 ^ ((j : Nat) : Int).toNat) != 0)) = i.testBit j := by rw [Int.zero_add]; exact hbit
        rw [hbit2]
        refine if_c (fun hb => ?_) (fun hb => ?_)
        · intro s1 H01 C1 cl1 fp1
          walk_at "ge"
          refine ⟨Ex.refl, by simp; omega, rs ++ [r], hrs1.snoc (hrow.mono e2.tex), ?_, fun r' => ?_⟩
          · rw [List.nodup_append]
            refine ⟨hrs2, by simp, fun p hp q0 hq0 => ?_⟩
            rw [List.mem_singleton.mp hq0]
            rintro rfl
            obtain ⟨t, ht, ht2, _⟩ := (hrs3 p).mp hp
            obtain ⟨b1, c1⟩ := List.getElem?_eq_some_iff.mp ht2
            obtain ⟨b2, c2⟩ := List.getElem?_eq_some_iff.mp hrj
            exact List.pairwise_iff_getElem.mp (rowsL_nd n ar) t j b1 b2 ht (by rw [c1, c2])
          · rw [List.mem_append, List.mem_singleton, hrs3 r']
            constructor
            · rintro (⟨t, a1, a2, a3⟩ | rfl)
              · exact ⟨t, by omega, a2, a3⟩
              · exact ⟨j, by omega, hrj, hb⟩
            · rintro ⟨t, a1, a2, a3⟩
              by_cases htj : t = j
              · subst htj; rw [hrj] at a2; cases a2; exact .inr rfl
              · exact .inl ⟨t, by omega, a2, a3⟩
        · refine ⟨by omega, rs, hrs1, hrs2, fun r' => ?_⟩
          rw [hrs3 r']
          constructor
          · rintro ⟨t, a1, a2, a3⟩; exact ⟨t, by omega, a2, a3⟩
          · rintro ⟨t, a1, a2, a3⟩
            by_cases htj : t = j
            · subst htj; rw [hb] at a3; cases a3
            · exact ⟨t, by omega, a2, a3⟩
      · rintro ys H2 e2 hR2 ⟨hyl, rs, hrs1, hrs2, hrs3⟩
        refine aa_nil ?_
        refine ⟨R, ys, rs, rfl, .inl (SqL.of hR2), hrs1, hrs2, by rw [← hrs1.1]; omega, fun bk H3 e3 hbk => ?_⟩
        have e23 := e2.trans e3
        have e03 := e.trans e23
        have hS : ∀ r, r ∈ rs ↔ Sm i r := fun r => by
          rw [hrs3 r]
          constructor
          · rintro ⟨t, _, a2, a3⟩; exact ⟨t, a2, a3⟩
          · rintro ⟨t, a2, a3⟩; exact ⟨t, by have := (List.getElem?_eq_some_iff.mp a2).1; omega, a2, a3⟩
        refine ss_cons (s_if (bb_val ?_))
        refine ee_meth DT CW.cls rfl hr ?_
        refine ee_meth DN CW.cls rfl (hr.mono (by omega)) ?_
        walk_at "ge"
        refine ⟨W, dx, _, rfl, e03.keep _ _ nd_ins hW, rfl, ?_⟩
        walk_at "ge"
        obtain ⟨kvs, g1, g2, g3⟩ := hR.mono e03
        refine ⟨W, nm, bk, D, n, kvs, rfl, ⟨dx, e03.keep _ _ nd_ins hW⟩, g1, by have := g2.len; omega, fun W' D' H4 e4 hW4 hD4 => ?_⟩
        obtain ⟨dx4, hW4'⟩ := id hW4
        refine ⟨W', dx4, _, rfl, hW4', rfl, ?_⟩
        walk_at "ge"
        have e04 := e03.trans e4
        have hRel : RelsAt H4 D' (fun x => NS x ∨ x = nm) (updR ρ nm (Sm i)) := RelsAt.put g2 (fun x hx => by
          obtain ⟨b', rs', k1, k2, k3⟩ := g3 x hx
          exact ⟨b', rs', k1, e4.keep _ _ nd_dT k2, k3⟩) hD4 (e4.keep _ _ nd_dT hbk) hS (nr_nm hnm)
        refine ⟨W', V, u, g, n, updR ρ nm (Sm i), val, rfl, ⟨D', _, within Γ nm ar 0, hW4, hRel, hV.mono e04, fmAt_mono e04.tex _ _ h2, by simp only [depth] at hd; omega, hwg, hg.within hnm (by omega), within_ns hN, n1, n4, hcg⟩, trivial, fun bb H5 e5 hb => ?_⟩
        refine bq ?_
        have e05 := e04.trans e5
        have e25 := (e23.trans e4).trans e5
        cases bb with
        | true =>
          refine if_tt ?_
          walk_at "go"
          refine q _ _ e05 ⟨fun _ => ?_, fun _ => rfl⟩
          simp only [Sem]
          refine ⟨Sm i, ?_⟩
          have : (fun r => IsRow (n : Int) ar r ∧ Sm i r) = Sm i := by
            funext r
            refine propext ⟨fun h => h.2, fun h => ⟨?_, h⟩⟩
            obtain ⟨j, hj, _⟩ := h
            exact mem_rowsL.mp (List.mem_of_getElem? hj)
          rw [this]
          exact hb.mp rfl
        | false =>
          refine if_ff ?_
          refine ss_nil (ss_nil ⟨_, _, _, _, rfl, e05, e25.keep _ _ ndu hL', hU'.mono e25.tex, fun m hm => ?_⟩)
          by_cases hmi : m = i
          · subst hmi; exact fun hs => by have := hb.mpr hs; cases this
          · exact hall m (by omega)
    · rintro σ H' ⟨y, z, yr, ch, rfl, e, hL', hU', hall⟩
      walk_at "go"
      refine q _ _ e ⟨(fun z => nomatch z), fun hs => ?_⟩
      simp only [Sem] at hs
      obtain ⟨S, hS⟩ := hs
      obtain ⟨m, hm1, hm2⟩ := mask_of (fun j => ∃ r, (rowsL n ar)[j]? = some r ∧ S r) us.length
      refine absurd ?_ (hall m hm1)
      have : (fun r => IsRow (n : Int) ar r ∧ S r) = Sm m := by
        funext r
        refine propext ⟨fun ⟨h1, h2⟩ => ?_, fun ⟨j, hj, hb⟩ => ?_⟩
        · obtain ⟨j, hj⟩ := List.mem_iff_getElem?.mp (mem_rowsL.mpr h1)
          exact ⟨j, hj, (hm2 j (by have := (List.getElem?_eq_some_iff.mp hj).1; omega)).mpr ⟨r, hj, h2⟩⟩
        · obtain ⟨r', h1, h2⟩ := (hm2 j (by have := (List.getElem?_eq_some_iff.mp hj).1; omega)).mp hb
          rw [hj] at h1; cases h1
          exact ⟨mem_rowsL.mp (List.mem_of_getElem? hj), h2⟩
      rw [← this]; exact hS
end
end Sy
namespace Sy
/-! ### stages: plain facts -/
theorem stg_eq {F : Rel → Rel} {i j : Nat} (h : ∀ r, stg F i r ↔ stg F j r) : stg F i = stg F j := funext fun r => propext (h r)
theorem stg_add {F : Rel → Rel} {i j : Nat} (h : stg F i = stg F j) : ∀ t, stg F (i + t) = stg F (j + t)
  | 0 => h
  | t + 1 => by show F (stg F (i + t)) = F (stg F (j + t)); rw [stg_add h t]
theorem stg_const {F : Rel → Rel} {i : Nat} (h : stg F i = stg F (i + 1)) : ∀ t, stg F (i + t) = stg F i
  | 0 => rfl
  | t + 1 => by
    have := stg_add h t
    rw [show i + 1 + t = i + (t + 1) by omega] at this
    rw [← this]; exact stg_const h t
theorem fix_stable {F : Rel → Rel} {i : Nat} (h : stg F i = stg F (i + 1)) (r : List Int) : fixR F r ↔ stg F i r := by
  constructor
  · rintro ⟨j, hj, hr⟩
    have hj' := stg_eq hj
    have e1 := stg_const h j
    have e2 := stg_const hj' i
    rw [Nat.add_comm] at e2
    rw [← e1, e2]; exact hr
  · exact fun hr => ⟨i, fun q => by rw [← h], hr⟩
theorem fix_cycle {F : Rel → Rel} {i j : Nat} (hj : j ≤ i) (h : stg F (i + 1) = stg F j) (hne : stg F i ≠ stg F (i + 1)) (r : List Int) : ¬ fixR F r := by
  rintro ⟨m, hm, _⟩
  have hm' := stg_eq hm
  have per : ∀ c t, stg F (j + t + c * (i + 1 - j)) = stg F (j + t) := by
    intro c
    induction c with
    | zero => intro t; simp
    | succ c ih =>
      intro t
      have e : j + t + (c + 1) * (i + 1 - j) = (i + 1) + (t + c * (i + 1 - j)) := by rw [Nat.add_mul]; omega
      rw [e, stg_add h, show j + (t + c * (i + 1 - j)) = j + t + c * (i + 1 - j) by omega]
      exact ih t
  have p1 := per m (i - j)
  have p2 := per m (i + 1 - j)
  rw [show j + (i - j) = i by omega] at p1
  rw [show j + (i + 1 - j) = i + 1 by omega] at p2
  have hge : m ≤ m * (i + 1 - j) := Nat.le_mul_of_pos_right m (by omega)
  have c1 := stg_const hm' (i + m * (i + 1 - j) - m)
  have c2 := stg_const hm' (i + 1 + m * (i + 1 - j) - m)
  rw [show m + (i + m * (i + 1 - j) - m) = i + m * (i + 1 - j) by omega] at c1
  rw [show m + (i + 1 + m * (i + 1 - j) - m) = i + 1 + m * (i + 1 - j) by omega] at c2
  exact hne (by rw [← p1, ← p2, c1, c2])
def allSubs {α : Type} : List α → List (List α)
  | [] => [[]]
  | x :: l => allSubs l ++ (allSubs l).map (x :: ·)
theorem allSubs_len {α : Type} : ∀ l : List α, (allSubs l).length = 2 ^ l.length
  | [] => rfl
  | x :: l => by show (allSubs l ++ (allSubs l).map (x :: ·)).length = _; rw [List.length_append, List.length_map, allSubs_len l, List.length_cons, Nat.pow_succ]; omega
theorem filter_sub {α : Type} (p : α → Bool) : ∀ l : List α, l.filter p ∈ allSubs l
  | [] => by simp [allSubs]
  | x :: l => by
    have := filter_sub p l
    show _ ∈ allSubs l ++ (allSubs l).map (x :: ·)
    rw [List.filter_cons]
    split
    · exact List.mem_append_right _ (List.mem_map.mpr ⟨_, this, rfl⟩)
    · exact List.mem_append_left _ this
/-- the rows of S, in order -/
noncomputable def srt (n k : Nat) (S : Rel) : List (List Int) := (rowsL n k).filter fun r => @decide (S r) (Classical.propDecidable _)
theorem mem_srt {n k : Nat} {S : Rel} {r : List Int} : r ∈ srt n k S ↔ IsRow n k r ∧ S r := by
  unfold srt
  rw [List.mem_filter, mem_rowsL]
  exact and_congr_right fun _ => @decide_eq_true_iff (S r) (Classical.propDecidable _)
theorem srt_sub (n k : Nat) (S : Rel) : srt n k S ∈ allSubs (rowsL n k) := filter_sub _ _
theorem srt_of {n k : Nat} {S : Rel} {rs : List (List Int)} (h : ∀ r, r ∈ rs ↔ S r) : ((rowsL n k).filter fun r => decide (r ∈ rs)) = srt n k S := by
  unfold srt
  refine List.filter_congr fun r _ => ?_
  rw [Bool.eq_iff_iff, decide_eq_true_iff, h r]
  exact (@decide_eq_true_iff (S r) (Classical.propDecidable _)).symm
theorem srt_inj {n k : Nat} {S S' : Rel} (hS : ∀ r, S r → IsRow n k r) (hS' : ∀ r, S' r → IsRow n k r) (h : srt n k S = srt n k S') : S = S' := by
  funext r
  refine propext ⟨fun hr => ?_, fun hr => ?_⟩
  · have : r ∈ srt n k S := mem_srt.mpr ⟨hS r hr, hr⟩
    rw [h] at this; exact (mem_srt.mp this).2
  · have : r ∈ srt n k S' := mem_srt.mpr ⟨hS' r hr, hr⟩
    rw [← h] at this; exact (mem_srt.mp this).2
/-- two lists without doubles, of one length, one within the other -/
theorem same_of {α : Type} [DecidableEq α] {a b : List α} (ha : a.Nodup) (hl : a.length = b.length) (h : ∀ x ∈ a, x ∈ b) : ∀ x ∈ b, x ∈ a := fun x hx => by
  by_cases hxa : x ∈ a
  · exact hxa
  · have := few_of_nodup (l := x :: a) (d := b) (List.nodup_cons.mpr ⟨hxa, ha⟩) (fun y hy => by
      rcases List.mem_cons.mp hy with rfl | hy
      · exact hx
      · exact h y hy)
    rw [List.length_cons] at this
    omega
theorem eq_iff_of {a b : List (List Int)} (ha : a.Nodup) (hb : b.Nodup) : (a.length = b.length ∧ ∀ x ∈ a, x ∈ b) ↔ ∀ x, x ∈ a ↔ x ∈ b := by
  constructor
  · rintro ⟨h1, h2⟩ x
    exact ⟨h2 x, same_of ha h1 h2 x⟩
  · intro h
    refine ⟨Nat.le_antisymm (few_of_nodup ha fun x hx => (h x).mp hx) (few_of_nodup hb fun x hx => (h x).mpr hx), fun x hx => (h x).mp hx⟩
/-- the step of a fixpoint -/
def stepF (n : Nat) (ρ : Str → Rel) (val : Str → Int) (nm : Str) (xs : List Str) (f : F) : Rel → Rel := fun S r => IsRow n xs.length r ∧ Sem (n : Int) f (updR ρ nm S) (bindR val xs r)
theorem stepF_row {n : Nat} {ρ : Str → Rel} {val : Str → Int} {nm : Str} {xs : List Str} {f : F} : ∀ i r, stg (stepF n ρ val nm xs f) i r → IsRow n xs.length r
  | 0, _, h => h.elim
  | _ + 1, _, h => h.1
theorem stepF_mono {n : Nat} {ρ : Str → Rel} {val : Str → Int} {nm : Str} {xs : List Str} {f : F} {Γ : Gm} {args : List Str} (h : WF (· ∈ VR) (· ∈ NR) Γ (.fix true nm xs f args)) : ∀ S S', Sub S S' → Sub (stepF n ρ val nm xs f S) (stepF n ρ val nm xs f S') := by
  intro S S' hs r ⟨h1, h2⟩
  refine ⟨h1, ?_⟩
  have hl : LfpOk f := by
    have := lfpOk_of _ _ h
    exact this.kid (by simp [kids])
  have := sem_mono (n := n) f hl nm true (lfp_agr h) (updR ρ nm S) (updR ρ nm S') (bindR val xs r) (fun m hm => by rw [updR_ne hm, updR_ne hm]) (by rw [updR_same, updR_same]; exact hs)
  exact this.1 rfl h2
end Sy
namespace Sy
theorem addS_keys {L : SeenL} {rs ks : List (List Int)} {a : Addr} : ks ∈ (addS L rs a).map (·.1) ↔ ks ∈ L.map (·.1) ∨ ks = rs := by
  unfold addS
  split
  · exact ⟨.inl, fun h => h.elim id fun e => by rw [e]; assumption⟩
  · rw [List.map_append, List.mem_append]; simp
theorem addS_nd {L : SeenL} {rs : List (List Int)} {a : Addr} (h : (L.map (·.1)).Nodup) : ((addS L rs a).map (·.1)).Nodup := by
  unfold addS
  split
  · exact h
  · rename_i hn
    rw [List.map_append, List.nodup_append]
    refine ⟨h, by simp, fun x hx y hy => ?_⟩
    rw [show y = rs by simpa using hy]
    rintro rfl; exact hn hx
theorem addS_len {L : SeenL} {rs : List (List Int)} {a : Addr} : (addS L rs a).length ≤ L.length + 1 := by
  unfold addS; split <;> simp
section
variable {w : World} {K : PySem.W.Frag} {mg : Str → Option Value} {base : Heap} {Cw : Addr}
theorem dm_fixed (T : TopM K Cw "fixed" "World.fixed" s_World_fixed) (G : Gs K mg) (CW : CWk K Cw) (DN : Dm w K mg base Cw "with_name" 3 (spWithName K Cw)) (d k : Nat) (hk : 3 ≤ k)
    (DS : Dm w K mg base Cw "stage" k (spStage K Cw d)) : Dm w K mg base Cw "fixed" (k + 1) (spFixed K Cw (d + 1)) := by
  refine T.dm sc_World_fixed (fun vs H Q E h => ?_) (fun _ _ _ _ _ _ us hl => match us, hl with | [_, _, _], _ => rfl) (fun f cd A outer s0 H vs Q E hr h => ?_)
  · obtain ⟨W, V, v, n, ρ, val, l, nm, xs, g, args, rfl, _⟩ := h; rfl
  · obtain ⟨W, V, v, n, ρ, val, l, nm, xs, g, args, rfl, hT, q⟩ := h
    obtain ⟨D, NS, Γ, ⟨dx, hW⟩, hR, hV, hF, hd, hw, hg, hN, n1, n4, hc⟩ := id hT
    obtain ⟨a, b, c, u, rfl, h1, h2, h3, h4⟩ := id hF
    have hnar : Narrow n (.fix l nm xs g args) := narrow_of (by omega) (by omega) hc fun _ _ _ e => by cases e
    have hwx : VsOk (· ∈ VR) xs ∧ nm ∈ NR ∧ ∃ m Γ', (Γ' = Γ ∨ Γ' = barred Γ) ∧ WF (· ∈ VR) (· ∈ NR) (within Γ' nm xs.length m) g := by
      cases l
      · simp only [WF] at hw; exact ⟨hw.1, hw.2.1, 0, _, .inr rfl, hw.2.2.2.2⟩
      · simp only [WF] at hw; exact ⟨hw.1, hw.2.1, 1, _, .inl rfl, hw.2.2.2.2⟩
    obtain ⟨hvs, hnm, m0, Γ', hΓ', hwg⟩ := hwx
    have hg' : GamOk (· ∈ NR) (within Γ' nm xs.length m0) := by
      have h3 := hvs.2.2.1
      rcases hΓ' with rfl | rfl
      · exact hg.within hnm h3
      · exact hg.barred.within hnm h3
    have hNS' : ∀ t ∈ within Γ' nm xs.length m0, (fun x => NS x ∨ x = nm) t.1 := by
      rcases hΓ' with rfl | rfl
      · exact within_ns hN
      · exact within_ns (barred_ns hN)
    have hcg : lcost n g ≤ 20000 := (lcost_small (by omega) hc).1 g (by simp [kids])
    have hps := pow_small n4 hvs.2.2.1
    have hRl : (rowsL n xs.length).length = n ^ xs.length := rowsL_len n xs.length
    refine ss_cons (s_asg ?_)
    refine ee_var 1 rfl ?_
    refine gg_tup rfl h1 ?_ rfl
    refine ggs_cons (gg_name 5 ?_ sc_World_fixed.nd)
    refine ggs_cons (gg_name 6 ?_ sc_World_fixed.nd)
    refine ggs_cons (gg_name 7 ?_ sc_World_fixed.nd)
    refine ggs_cons (gg_name 8 ?_ sc_World_fixed.nd)
    refine ggs_cons (gg_name 9 ?_ sc_World_fixed.nd)
    refine ggs_nil ?_
    refine ss_cons (s_set 3 (ee_dnewT fun p0 hp0 => ?_) sc_World_fixed.nd)
    refine ss_cons (s_set 4 (ee_newSeen fun sd hsd => ?_) sc_World_fixed.nd)
    have e1 : Ex K H (upd H p0 (.dT [])) := Ex.new hp0
    have hp1 : (upd H p0 (.dT [])) p0 = some (.dT (RDk [])) := upd_same
    have hsd0 : H sd = none := by
      have : sd ≠ p0 := fun z => by rw [z, upd_same] at hsd; cases hsd
      rw [upd_ne this] at hsd; exact hsd
    have e2 : Ex K (upd H p0 (.dT [])) (upd (upd H p0 (.dT [])) sd (SeenO P w sd [])) := Ex.new hsd
    have hp2 := e2.keep _ _ nd_dT hp1
    have hs2 : (upd (upd H p0 (.dT [])) sd (SeenO P w sd [])) sd = some (SeenO P w sd []) := upd_same
    have e12 := e1.trans e2
    let St : Nat → Rel := stg (stepF n ρ val nm xs g)
    have hSr : ∀ i r, St i r → IsRow n xs.length r := fun i r => stepF_row i r
    refine ss_cons (s_while PassesOwn.never ⟨fun m σ H' => ∃ i nw L x10 x11 rs, σ = [some (.ref W), some (.ref a), some (.ref V), some (.ref nw), some (.ref sd), some (.str (fW l)), some (.str nm), some (.ref b), some u, some (.ref c), x10, x11] ∧ Ex K H H' ∧ H' nw = some (.dT (RDk rs)) ∧ rs.Nodup ∧ (∀ r, r ∈ rs ↔ St i r) ∧
      H' sd = some (SeenO P w sd L) ∧ (∀ p ∈ L, KeyAt K H' p.1 p.2) ∧ (L.map (·.1)).Nodup ∧ (∀ ks, ks ∈ L.map (·.1) ↔ ∃ j, 1 ≤ j ∧ j ≤ i ∧ ks = srt n xs.length (St j)) ∧ L.length ≤ i ∧
      (if l = true then m + cnt n xs.length (St i) = (rowsL n xs.length).length ∧ i ≤ cnt n xs.length (St i) else m + L.length = 2 ^ (rowsL n xs.length).length ∧ L.length = i),
      ?_, ?_⟩)
    · refine ⟨if l = true then (rowsL n xs.length).length - cnt n xs.length (St 0) else 2 ^ (rowsL n xs.length).length, 0, p0, [], _, _, [], rfl, e12, hp2, List.nodup_nil, fun r => ⟨fun h => by simp at h, fun h => h.elim⟩, hs2, by simp, List.nodup_nil, fun ks => ⟨fun h => by simp at h, fun ⟨j, h1, h2, _⟩ => by omega⟩, Nat.zero_le _, ?_⟩
      cases l
      · simp
      · simp only [if_true]
        have := cnt_le n xs.length (St 0)
        omega
    rintro m σ H' ⟨i, nw, L, x10, x11, rs, rfl, e, hnw, hrn, hrs, hsd', hL, hLn, hLk, hLl, hm⟩
    walk_at "ge"
    have h2e := e.t h2
    refine ⟨fun σ' H' => ∃ m', m' < m ∧ ∃ i nw L x10 x11 rs, σ' = [some (.ref W), some (.ref a), some (.ref V), some (.ref nw), some (.ref sd), some (.str (fW l)), some (.str nm), some (.ref b), some u, some (.ref c), x10, x11] ∧ Ex K H H' ∧ H' nw = some (.dT (RDk rs)) ∧ rs.Nodup ∧ (∀ r, r ∈ rs ↔ St i r) ∧
      H' sd = some (SeenO P w sd L) ∧ (∀ p ∈ L, KeyAt K H' p.1 p.2) ∧ (L.map (·.1)).Nodup ∧ (∀ ks, ks ∈ L.map (·.1) ↔ ∃ j, 1 ≤ j ∧ j ≤ i ∧ ks = srt n xs.length (St j)) ∧ L.length ≤ i ∧
      (if l = true then m' + cnt n xs.length (St i) = (rowsL n xs.length).length ∧ i ≤ cnt n xs.length (St i) else m' + L.length = 2 ^ (rowsL n xs.length).length ∧ L.length = i), fun σ' H' h => h, ?_⟩
    -- after = ..
    refine ss_cons (s_set 10 ?_ sc_World_fixed.nd)
    refine ee_meth DS CW.cls rfl hr ?_
    refine ee_meth DN CW.cls rfl (hr.mono (by omega)) ?_
    walk_at "ge"
    refine ⟨W, dx, _, rfl, e.keep _ _ nd_ins hW, rfl, ?_⟩
    walk_at "ge"
    obtain ⟨kvs, g1, g2, g3⟩ := hR.mono e
    refine ⟨W, nm, nw, D, n, kvs, rfl, ⟨dx, e.keep _ _ nd_ins hW⟩, g1, by have := g2.len; omega, fun W' D' H4 e4 hW4 hD4 => ?_⟩
    obtain ⟨dx4, hW4'⟩ := id hW4
    refine ⟨W', dx4, _, rfl, hW4', rfl, ?_⟩
    have e04 := e.trans e4
    have hRel : RelsAt H4 D' (fun x => NS x ∨ x = nm) (updR ρ nm (St i)) := RelsAt.put g2 (fun x hx => by
      obtain ⟨b', rs', k1, k2, k3⟩ := g3 x hx
      exact ⟨b', rs', k1, e4.keep _ _ nd_dT k2, k3⟩) hD4 (e4.keep _ _ nd_dT hnw) hrs (nr_nm hnm)
    walk_at "ge"
    refine ⟨W', u, b, V, D', _, within Γ' nm xs.length m0, (· ∈ VR), n, updR ρ nm (St i), val, g, xs, rfl, hW4, hRel, hV.mono e04, fun x hx => .inl hx, fmAt_mono e04.tex _ _ h3, e04.t h2, hvs, by simp only [depth] at hd; omega, hwg, hg', hNS', n1, n4, hcg, fun af rs2 H5 e5 haf hrn2 hrs2 => ?_⟩
    have e45 := e4.trans e5
    have e05 := e.trans e45
    have hrs2' : ∀ r, r ∈ rs2 ↔ St (i + 1) r := hrs2
    have hnw5 := e45.keep _ _ nd_dT hnw
    have hsd5 := e45.keep _ _ nd_ext hsd'
    have hL5 : ∀ p ∈ L, KeyAt K H5 p.1 p.2 := fun p hp => (hL p hp).mono e45.tex
    refine ss_cons (s_if (bb_cmp (ee_var 10 rfl (ee_var 3 rfl (oo_eqRD hr haf hnw5 fun bb hbb => ?_)))))
    refine bq ?_
    have hst : bb = true ↔ St i = St (i + 1) := by
      rw [hbb, eq_iff_of hrn2 hrn]
      constructor
      · intro h
        exact stg_eq fun r => by
          have := h r
          rw [hrs2' r, hrs r] at this
          exact this.symm
      · intro h r
        rw [hrs2' r, hrs r, h]
    refine if_c (fun hb => ?_) (fun hb => ?_)
    · refine ss_cons (s_ret (ee_var 3 rfl ?_))
      refine q nw rs H5 e05 hnw5 fun r => ?_
      rw [hrs r]
      exact (fix_stable (hst.mp hb) r).symm
    · have hne : St i ≠ St (i + 1) := fun z => by have := hst.mpr z; rw [hb] at this; cases this
      refine ss_nil (ss_cons (s_set 11 ?_ sc_World_fixed.nd))
      refine ee_callTy (x := "tuple") G.z_tuple bt_tuple ?_
      refine aa_cons ?_
      refine ee_callB (x := "sorted") G.z_sorted bt_sorted ?_
      refine aa_cons (ee_var 10 rfl ?_)
      refine aa_nil ?_
      have hrl2 : rs2.length ≤ 64 := by
        have := few_of_nodup hrn2 fun r hr => mem_rowsL.mpr (hSr (i + 1) r ((hrs2' r).mp hr))
        omega
      refine cc_sortedD rfl haf (RDk_keys rs2) hrn2 (fun r hr => hSr (i + 1) r ((hrs2' r).mp hr)) (by omega) (fun p ys hp hys => ?_)
      rw [srt_of hrs2'] at hys
      refine aa_nil ?_
      have e6 : Ex K H5 (upd H5 p (.lst ys)) := Ex.new hp
      have hys6 := hys.mono e6.tex
      refine cc_tupL (SqL.of upd_same) (fun kp hkp => ?_)
      have e7 : Ex K (upd H5 p (.lst ys)) (upd (upd H5 p (.lst ys)) kp (.tup ys)) := Ex.new hkp
      have hkey : KeyAt K (upd (upd H5 p (.lst ys)) kp (.tup ys)) (srt n xs.length (St (i + 1))) kp := ⟨ys, upd_same, hys6.mono e7.tex⟩
      have e67 := e6.trans e7
      have e07 := e05.trans e67
      have hsd7 := e67.keep _ _ nd_ext hsd5
      have haf7 := e67.keep _ _ nd_dT haf
      have hL7 : ∀ s ∈ L, KeyAt K (upd (upd H5 p (.lst ys)) kp (.tup ys)) s.1 s.2 := fun p' hp' => (hL5 p' hp').mono e67.tex
      generalize (upd (upd H5 p (.lst ys)) kp (.tup ys)) = H7 at *
      have hi1 : srt n xs.length (St (i + 1)) ∈ L.map (·.1) → ∃ j, 1 ≤ j ∧ j ≤ i ∧ St (i + 1) = St j := fun h => by
        obtain ⟨j, a1, a2, a3⟩ := (hLk _).mp h
        exact ⟨j, a1, a2, srt_inj (hSr _) (hSr _) a3⟩
      have hLz : L.length ≤ 5000 := by
        cases l with
        | true =>
          rw [if_pos rfl] at hm
          omega
        | false =>
          have h12 : (n : Int) ^ xs.length ≤ 12 := hnar
          have h12' : n ^ xs.length ≤ 12 := by exact_mod_cast h12
          have := few_of_nodup (d := allSubs (rowsL n xs.length)) hLn fun ks hks => by
            obtain ⟨j, _, _, rfl⟩ := (hLk ks).mp hks
            exact srt_sub _ _ _
          rw [allSubs_len, List.length_map, hRl] at this
          have := Nat.pow_le_pow_right (n := 2) (by omega) h12'
          omega
      have tail : (l = false → srt n xs.length (St (i + 1)) ∉ L.map (·.1)) → ∀ De : Ends, (∀ (σ' : L2.St) (H' : Hp), (∃ m', m' < m ∧ ∃ i nw L x10 x11 rs, σ' = [some (.ref W), some (.ref a), some (.ref V), some (.ref nw), some (.ref sd), some (.str (fW l)), some (.str nm), some (.ref b), some u, some (.ref c), x10, x11] ∧ Ex K H H' ∧ H' nw = some (.dT (RDk rs)) ∧ rs.Nodup ∧ (∀ r, r ∈ rs ↔ St i r) ∧ H' sd = some (SeenO P w sd L) ∧ (∀ p ∈ L, KeyAt K H' p.1 p.2) ∧ (L.map (·.1)).Nodup ∧ (∀ ks, ks ∈ L.map (·.1) ↔ ∃ j, 1 ≤ j ∧ j ≤ i ∧ ks = srt n xs.length (St j)) ∧ L.length ≤ i ∧ (if l = true then m' + cnt n xs.length (St i) = (rowsL n xs.length).length ∧ i ≤ cnt n xs.length (St i) else m' + L.length = 2 ^ (rowsL n xs.length).length ∧ L.length = i)) → De.nx σ' H') → SS (Cxd w K mg base N_World_fixed "World.fixed" s_World_fixed f cd A outer s0 H E) (match (defBody s_World_fixed).getD 3 (.Pass ⟨0, 0, 0, 0⟩) with | .While _ bd _ _ => bd.drop 4 | _ => [])
          De
          [some (.ref W), some (.ref a), some (.ref V), some (.ref nw), some (.ref sd), some (.str (fW l)), some (.str nm), some (.ref b), some u, some (.ref c), some (.ref af), some (.ref kp)] H7 := fun hnew De hDe => by
        refine ss_cons (s_asg (ee_bl (gg_sub ?_)))
        walk_at "ge"
        refine pst_seen hr hsd7 hL7 hkey (by omega) ?_
        refine ss_cons (s_set 3 (ee_var 10 rfl ?_) sc_World_fixed.nd)
        have tx : TEx H7 (upd H7 sd (SeenO P w sd (addS L (srt n xs.length (St (i + 1))) kp))) := TEx.upd hsd7 (fun _ z => nomatch z) (fun _ _ z => nomatch z)
        have hkeys : ∀ ks, ks ∈ (addS L (srt n xs.length (St (i + 1))) kp).map (·.1) ↔ ∃ j, 1 ≤ j ∧ j ≤ i + 1 ∧ ks = srt n xs.length (St j) := fun ks => by
          rw [addS_keys, hLk ks]
          constructor
          · rintro (⟨j, a1, a2, a3⟩ | rfl)
            · exact ⟨j, a1, by omega, a3⟩
            · exact ⟨i + 1, by omega, Nat.le_refl _, rfl⟩
          · rintro ⟨j, a1, a2, a3⟩
            by_cases hji : j = i + 1
            · subst hji; exact .inr a3
            · exact .inl ⟨j, a1, by omega, a3⟩
        have hfin : ∃ m', m' < m ∧ (if l = true then m' + cnt n xs.length (St (i + 1)) = (rowsL n xs.length).length ∧ i + 1 ≤ cnt n xs.length (St (i + 1)) else m' + (addS L (srt n xs.length (St (i + 1))) kp).length = 2 ^ (rowsL n xs.length).length ∧ (addS L (srt n xs.length (St (i + 1))) kp).length = i + 1) := by
          cases l with
          | true =>
            simp only [if_true] at hm ⊢
            have hmo := stepF_mono (n := n) (ρ := ρ) (val := val) hw
            have hgr := stg_grow hmo i
            have hex : ∃ r, IsRow n xs.length r ∧ St (i + 1) r ∧ ¬ St i r := Classical.byContradiction fun z => hne (funext fun r => propext ⟨hgr r, fun h => Classical.byContradiction fun h' => z ⟨r, hSr _ r h, h, h'⟩⟩)
            have h5 : cnt n xs.length (St i) < cnt n xs.length (St (i + 1)) := cnt_lt hgr hex
            have h6 : cnt n xs.length (St (i + 1)) ≤ (rowsL n xs.length).length := cnt_le n xs.length (St (i + 1))
            exact ⟨(rowsL n xs.length).length - cnt n xs.length (St (i + 1)), by omega, by omega, by omega⟩
          | false =>
            simp only [Bool.false_eq_true, if_false] at hm ⊢
            have hl2 : (addS L (srt n xs.length (St (i + 1))) kp).length = L.length + 1 := by
              unfold addS; rw [if_neg (hnew rfl)]; simp
            have hb2 := few_of_nodup (d := allSubs (rowsL n xs.length)) (addS_nd (a := kp) (rs := srt n xs.length (St (i + 1))) hLn) fun ks hks => by
              obtain ⟨j, _, _, rfl⟩ := (hkeys ks).mp hks
              exact srt_sub _ _ _
            rw [allSubs_len, List.length_map] at hb2
            exact ⟨2 ^ (rowsL n xs.length).length - (addS L (srt n xs.length (St (i + 1))) kp).length, by omega, by omega, by omega⟩
        obtain ⟨m', hm1, hm2⟩ := hfin
        refine ss_nil (hDe _ _ ⟨m', hm1, i + 1, af, _, _, _, rs2, rfl, e07.mut hsd0, ?_, hrn2, hrs2', upd_same, ?_, addS_nd hLn, hkeys, ?_, hm2⟩)
        · rw [upd_ne (ne_of haf7 hsd7 (fun z => nomatch z))]; exact haf7
        · intro s hs
          unfold addS at hs
          split at hs
          · exact (hL7 s hs).mono tx
          · rcases List.mem_append.mp hs with hs | hs
            · exact (hL7 s hs).mono tx
            · rw [List.mem_singleton.mp hs]; exact hkey.mono tx
        · have := addS_len (L := L) (rs := srt n xs.length (St (i + 1))) (a := kp)
          omega
      refine ss_cons (s_if ?_)
      cases l with
      | true =>
        walk_at "ge"
        exact ss_nil (tail (fun z => by cases z) _ fun σ' H' h => h)
      | false =>
        walk_at "ge"
        refine oo_inSeen hr hsd7 hL7 hkey ?_
        refine bq ?_
        refine if_d (fun hin => ?_) (fun hin => ?_)
        · refine ss_cons (s_ret (ee_dnewT fun z hz => ?_))
          obtain ⟨j, a1, a2, a3⟩ := hi1 hin
          refine q z [] _ (e07.trans (Ex.new hz)) upd_same fun r => ⟨fun h => by simp at h, fun h => absurd h (fix_cycle a2 a3 hne r)⟩
        · exact ss_nil (tail (fun _ => hin) _ fun σ' H' h => h)
end
end Sy
namespace Sy
section
variable {w : World} {K : PySem.W.Frag} {mg : Str → Option Value} {base : Heap} {Cw : Addr}
theorem dm_reached (T : TopM K Cw "reached" "World.reached" s_World_reached) (G : Gs K mg) (CW : CWk K Cw) (DR : Dn w K mg base "rows_of" 1 (spRowsOf K)) (d k : Nat) (hk : 1 ≤ k)
    (DT : Dm w K mg base Cw "true" k (spTr K Cw (fun _ => True) d)) : Dm w K mg base Cw "reached" (k + 1) (spTr K Cw (fun φ => ∃ xs f args, φ = .tc xs f args) (d + 1)) := by
  refine T.dm sc_World_reached (fun vs H Q E h => ?_) (fun _ _ _ _ _ _ us hl => match us, hl with | [_, _, _], _ => rfl) (fun f cd A outer s0 H vs Q E hr h => ?_)
  · obtain ⟨W, V, v, φ, n, ρ, val, rfl, _⟩ := h; rfl
  · obtain ⟨W, V, v, φ, n, ρ, val, rfl, hT, ⟨xs, g, args, rfl⟩, q⟩ := h
    obtain ⟨D, NS, Γ, ⟨dx, hW⟩, hR, hV, hF, hd, hw, hg, hN, n1, n4, hc⟩ := id hT
    obtain ⟨a, b, c, u, rfl, h1, h2, h3, h4⟩ := id hF
    simp only [WF] at hw
    obtain ⟨⟨hnd, hx1, hx3, hxv⟩, hx2, ha2, hav, hwg⟩ := hw
    obtain ⟨x0, x1, rfl⟩ : ∃ x0 x1, xs = [x0, x1] := by
      match xs, hx2 with
      | [x0, x1], _ => exact ⟨x0, x1, rfl⟩
    obtain ⟨y0, y1, rfl⟩ : ∃ y0 y1, args = [y0, y1] := by
      match args, ha2 with
      | [y0, y1], _ => exact ⟨y0, y1, rfl⟩
    have hcg : lcost n g ≤ 20000 := (lcost_small (by omega) hc).1 g (by simp [kids])
    refine ss_cons (s_asg ?_)
    refine ee_var 1 rfl ?_
    refine gg_tup rfl h1 ?_ rfl
    refine ggs_cons (gg_name 11 ?_ sc_World_reached.nd)
    refine ggs_cons (gg_name 12 ?_ sc_World_reached.nd)
    refine ggs_cons (gg_name 13 ?_ sc_World_reached.nd)
    refine ggs_cons (gg_name 14 ?_ sc_World_reached.nd)
    refine ggs_nil ?_
    refine ss_cons (s_set 3 ?_ sc_World_reached.nd)
    refine ee_bin (ee_callB (x := "len") G.z_len bt_len (aa_cons (ee_var 12 rfl (aa_nil (cc_lenT h2 (ee_int ?_))))))
    refine oo_fdiv (by decide) (by decide) ?_
    rw [show ((([x0, x1].map L2.V.str).length : Nat) : Int) / 2 = ((1 : Nat) : Int) from by show (2 : Int) / 2 = 1; decide]
    refine ss_cons (s_set 4 ?_ sc_World_reached.nd)
    refine ee_callTy (x := "dict") G.z_dict bt_dict ?_
    walk_at "ge"
    obtain ⟨kvs, hk1, hk2, hk3⟩ := id hV
    refine cc_of call_dictD ⟨V, kvs, rfl, .inl hk1, fun p hp => ?_⟩
    have e1 : Ex K H (upd H p (.dK kvs)) := Ex.new hp
    have hp1 : (upd H p (.dK kvs)) p = some (.dK kvs) := upd_same
    have hV1 := hV.mono e1
    have h4' := e1.t h4
    generalize (upd H p (.dK kvs)) = H1 at *
    refine ss_cons (s_lc [("name", 16)] N_World_reached (defScope s_World_reached) 5 rfl sc_World_reached.nd (ii_tup ?_))
    refine ee_var 14 rfl ?_
    refine ⟨c, rfl, ⟨_, h4'⟩, fun L hL => ?_⟩
    refine lt_mapT (K := K) ([y0, y1].map L2.V.str) (fun i y H2 => ∃ x, [y0, y1][i]? = some x ∧ y = .int (val x)) (fun _ _ _ _ _ h => h) hL h4' (by simp) (fun ys H h => nd_noref fun x hx a => by
      obtain ⟨j, hj⟩ := List.mem_iff_getElem?.mp hx
      obtain ⟨s, _, rfl⟩ := h j x hj
      intro z; cases z) ?_ ?_
    · intro i x H2 hx e s2 H0 C cl fp
      obtain ⟨y, hy, rfl⟩ : ∃ y, [y0, y1][i]? = some y ∧ x = L2.V.str y := by
        rw [List.getElem?_map] at hx
        cases hy : [y0, y1][i]? with
        | none => rw [hy] at hx; cases hx
        | some y => rw [hy] at hx; exact ⟨y, rfl, (Option.some.inj hx).symm⟩
      refine gg_name 16 ?_ sc_World_reached.nd
      refine ⟨rfl, Ex.refl, ?_⟩
      intro s1 H01 C1 cl1 fp1
      refine ee_dget (u1 hr) (ee_var 2 rfl (ee_var 16 rfl ?_))
      exact ⟨V, _, rfl, (hV1.mono e).get (hav y (List.mem_of_getElem? hy)), Ex.refl, y, hy, rfl⟩
    · intro ys H2 e2 hL2 hyl hys
      obtain rfl := ints_get hyl hys
      have hL2' : H2 L = some (.lst [.int (val y0), .int (val y1)]) := hL2
      have ndL : NotDraw (.lst [L2.V.int (val y0), L2.V.int (val y1)]) := nd_ints (ns := [val y0, val y1])
      have e02 := e1.trans e2
      have hp2 := e2.keep _ _ nd_dK hp1
      -- goal = tuple(ends[half:])
      refine ss_cons (s_set 6 ?_ sc_World_reached.nd)
      refine ee_callTy (x := "tuple") G.z_tuple bt_tuple ?_
      refine aa_cons (ee_slice (ee_var 5 rfl (op_some (ee_var 3 rfl ⟨_, rfl, op_none ?_⟩))))
      refine sl_l (SqL.of hL2') (fun l1 hl1 => ?_)
      refine aa_nil ?_
      refine cc_tupL (SqL.of upd_same) (fun gt hgt => ?_)
      have e3 : Ex K H2 (upd H2 l1 (.lst (cutV [.int (val y0), .int (val y1)] (some ((1 : Nat) : Int)) none))) := Ex.new hl1
      have e4 := e3.trans (Ex.new (K := K) (o := .tup (cutV [.int (val y0), .int (val y1)] (some ((1 : Nat) : Int)) none)) hgt)
      have hgoal : (upd (upd H2 l1 (.lst (cutV [.int (val y0), .int (val y1)] (some ((1 : Nat) : Int)) none))) gt (.tup (cutV [.int (val y0), .int (val y1)] (some ((1 : Nat) : Int)) none))) gt = some (.tup ([val y1].map L2.V.int)) := upd_same
      have hL4 := e4.keep _ _ ndL hL2'
      generalize (upd (upd H2 l1 (.lst (cutV [.int (val y0), .int (val y1)] (some ((1 : Nat) : Int)) none))) gt (.tup (cutV [.int (val y0), .int (val y1)] (some ((1 : Nat) : Int)) none))) = H4 at *
      -- seen
      refine ss_cons (s_set 7 (ee_disp1 hr fun sd hsd => ?_) sc_World_reached.nd)
      have e5 : Ex K H4 (upd H4 sd (.dT [])) := Ex.new hsd
      have hL5 := e5.keep _ _ ndL hL4
      have hsd5 : (upd H4 sd (.dT [])) sd = some (.dT []) := upd_same
      generalize hH5 : (upd H4 sd (.dT [])) = H5 at *
      refine ee_callTy (x := "tuple") G.z_tuple bt_tuple ?_
      refine aa_cons (ee_slice (ee_var 5 rfl (op_none (op_some (ee_var 3 rfl ⟨_, rfl, ?_⟩)))))
      refine sl_l (SqL.of hL5) (fun l2 hl2 => ?_)
      refine aa_nil ?_
      refine cc_tupL (SqL.of upd_same) (fun st hst => ?_)
      have e6 : Ex K H5 (upd H5 l2 (.lst (cutV [.int (val y0), .int (val y1)] none (some ((1 : Nat) : Int))))) := Ex.new hl2
      have e7 := e6.trans (Ex.new (K := K) (o := .tup (cutV [.int (val y0), .int (val y1)] none (some ((1 : Nat) : Int)))) hst)
      have hst7 : (upd (upd H5 l2 (.lst (cutV [.int (val y0), .int (val y1)] none (some ((1 : Nat) : Int))))) st (.tup (cutV [.int (val y0), .int (val y1)] none (some ((1 : Nat) : Int))))) st = some (.tup ([val y0].map L2.V.int)) := upd_same
      have hsd7 := e7.keep _ _ nd_dT hsd5
      have hL7 := e7.keep _ _ ndL hL5
      generalize (upd (upd H5 l2 (.lst (cutV [.int (val y0), .int (val y1)] none (some ((1 : Nat) : Int))))) st (.tup (cutV [.int (val y0), .int (val y1)] none (some ((1 : Nat) : Int))))) = H7 at *
      refine ⟨hsd7, [val y0], ⟨st, rfl, hst7⟩, ?_⟩
      have e57 : Ex K H4 (upd H7 sd (.dT (RDk [[val y0]]))) := (e5.trans e7).mut hsd
      have hsd8 : (upd H7 sd (.dT (RDk [[val y0]]))) sd = some (.dT (RDk [[val y0]])) := upd_same
      have hL8 : (upd H7 sd (.dT (RDk [[val y0]]))) L = some (.lst [.int (val y0), .int (val y1)]) := by rw [upd_ne (ne_of hL7 hsd7 (fun z => nomatch z))]; exact hL7
      generalize (upd H7 sd (.dT (RDk [[val y0]]))) = H8 at *
      have e08 := (e02.trans e4).trans e57
      have hsd0 : H sd = none := (e02.trans e4).there _ hsd
      have hgoal8 := e57.tr hgoal
      have hp8 := (e4.trans e57).keep _ _ nd_dK hp2
      -- queue
      refine ss_cons (s_set 8 (ee_lst ?_) sc_World_reached.nd)
      refine aa_cons ?_
      refine ee_callTy (x := "tuple") G.z_tuple bt_tuple ?_
      refine aa_cons (ee_slice (ee_var 5 rfl (op_none (op_some (ee_var 3 rfl ⟨_, rfl, ?_⟩)))))
      refine sl_l (SqL.of hL8) (fun l3 hl3 => ?_)
      refine aa_nil ?_
      refine cc_tupL (SqL.of upd_same) (fun st2 hst2 => ?_)
      have e9 := (Ex.new (K := K) (o := .lst (cutV [.int (val y0), .int (val y1)] none (some ((1 : Nat) : Int)))) hl3).trans (Ex.new (K := K) (o := .tup (cutV [.int (val y0), .int (val y1)] none (some ((1 : Nat) : Int)))) hst2)
      have hst9 : (upd (upd H8 l3 (.lst (cutV [.int (val y0), .int (val y1)] none (some ((1 : Nat) : Int))))) st2 (.tup (cutV [.int (val y0), .int (val y1)] none (some ((1 : Nat) : Int))))) st2 = some (.tup ([val y0].map L2.V.int)) := upd_same
      generalize (upd (upd H8 l3 (.lst (cutV [.int (val y0), .int (val y1)] none (some ((1 : Nat) : Int))))) st2 (.tup (cutV [.int (val y0), .int (val y1)] none (some ((1 : Nat) : Int))))) = H9 at *
      refine aa_nil ⟨szk (by simp), fun qa hqa => ?_⟩
      have e10 : Ex K H9 (upd H9 qa (.lst [.ref st2])) := Ex.new hqa
      have hq10 : (upd H9 qa (.lst [.ref st2])) qa = some (.lst [.ref st2]) := upd_same
      have hR10 : RowsAt K (upd H9 qa (.lst [.ref st2])) [[val y0]] [.ref st2] := RowsAt.nil.snoc (r := [val y0]) ⟨st2, rfl, e10.tr hst9⟩
      have hqa0 : H qa = none := (e08.trans e9).there _ hqa
      generalize (upd H9 qa (.lst [.ref st2])) = H10 at *
      have e810 := e9.trans e10
      have e010 := e08.trans e810
      refine ss_cons (s_set 9 ?_ sc_World_reached.nd)
      refine ee_call DR rfl (hr.mono (by omega)) ?_
      refine aa_cons (ee_fld ?_)
      walk_at "ge"
      refine ⟨W, Cw, dx, _, _, rfl, e010.keep _ _ nd_ins hW, CW.cls, CW.size, rfl, ?_⟩
      walk_at "ge"
      refine ⟨n, 1, rfl, by omega, by rw [Nat.pow_one]; omega, by omega, fun H11 Lr us e11 hLrn hLr hU => ?_⟩
      have ndu := nd_allref hU.refs
      refine ss_cons (s_set 10 (ee_int ?_) sc_World_reached.nd)
      have e011 := e010.trans e11
      have ndq : NotDraw (.lst [L2.V.ref st2]) := nd_allref (by simp)
      let Ed : List Int → List Int → Prop := fun r r' => IsRow (n : Int) 1 r' ∧ Sem (n : Int) g ρ (bindR val [x0, x1] (r ++ r'))
      have hpK := (e810.trans e11).keep _ _ nd_dK hp8
      have hsd11 := (e810.trans e11).keep _ _ nd_dT hsd8
      have hgoal11 := (e810.trans e11).tr hgoal8
      have hq11 := e11.keep _ _ ndq hq10
      have hR11 := hR10.mono e11.tex
      have hrows : (rowsL n 1).length = n := by rw [rowsL_len, Nat.pow_one]
      refine ss_cons (s_while PassesOwn.never ⟨fun m σ H' => ∃ (at' : Nat) (ss : List (List Int)) (qs : List L2.V) (x15 x16 x17 : Option L2.V) (val' : Str → Int), σ = [some (.ref W), some (.ref a), some (.ref V), some (.int ((1 : Nat) : Int)), some (.ref p), some (.ref L), some (.ref gt), some (.ref sd), some (.ref qa), some (.ref Lr), some (.int (at' : Int)), some (.str "tc"), some (.ref b), some u, some (.ref c), x15, x16, x17] ∧ Ex K H H' ∧ H' sd = some (.dT (RDk ss)) ∧ ss.Nodup ∧ H' qa = some (.lst qs) ∧ RowsAt K H' ss qs ∧
          [val y0] ∈ ss ∧ (∀ r ∈ ss, Rch Ed [val y0] r) ∧ (∀ r ∈ ss, r = [val y0] ∨ r ∈ rowsL n 1) ∧ at' ≤ ss.length ∧ (∀ t r, t < at' → ss[t]? = some r → ∀ r', Ed r r' → r' ∈ ss) ∧ ValsAt H' p (· ∈ VR) val' ∧ (∀ y, y ∉ [x0, x1] → val' y = val y) ∧ H' Lr = some (.lst us) ∧ RowsAt K H' (rowsL n 1) us ∧ H' gt = some (.tup ([val y1].map L2.V.int)) ∧ m + at' = n + 2,
        ⟨n + 2, 0, [[val y0]], _, none, none, none, val, rfl, e011, hsd11, by simp, hq11, hR11, by simp, fun r hr => by rw [List.mem_singleton.mp hr]; exact .refl, fun r hr => .inl (List.mem_singleton.mp hr), Nat.zero_le _, fun t r ht => by omega, ⟨kvs, hpK, hk2, hk3⟩, fun _ _ => rfl, hLr, hU, hgoal11, rfl⟩, ?_⟩)
      rintro m σ H' ⟨at', ss, qs, x15, x16, x17, val', rfl, e, hsd', hsn, hq', hR', hin, hrch, hsub, hat, hcl, hv', hval', hLr', hU', hgt', hm⟩
      have hql := hR'.1
      have hgrow : RowAt K H' [val y1] (.ref gt) := ⟨gt, rfl, hgt'⟩
      have hssl : ss.length ≤ n + 1 := by
        have := few_of_nodup (d := [val y0] :: rowsL n 1) hsn fun r hr => by
          rcases hsub r hr with h | h
          · rw [h]; simp
          · simp [h]
        rw [List.length_cons, hrows] at this; exact this
      have ans : ∀ R : Bool → Prop, True := fun _ => trivial
      refine bb_bw (bw_and (bb_cmp (ee_var 10 rfl (ee_callB (x := "len") G.z_len bt_len (aa_cons (ee_var 8 rfl (aa_nil (cc_lenL (SqL.of hq') (oo_lt ?_)))))))))
      refine bq ?_
      have fin : (ss.length ≤ at' ∨ [val y1] ∈ ss) → SS (Cxd w K mg base N_World_reached "World.reached" s_World_reached f cd A outer s0 H E) ((defBody s_World_reached).drop 10) { nx := fun _ H' => Q .non H', rt := Q } [some (.ref W), some (.ref a), some (.ref V), some (.int ((1 : Nat) : Int)), some (.ref p), some (.ref L), some (.ref gt), some (.ref sd), some (.ref qa), some (.ref Lr), some (.int (at' : Int)), some (.str "tc"), some (.ref b), some u, some (.ref c), x15, x16, x17] H' := fun hor => by
        refine ss_cons (s_ret (ee_din (u1 hr) (ee_var 6 rfl (ee_var 7 rfl ⟨sd, _, rfl, dgetR hsd' hgrow, ?_⟩))))
        refine q _ _ e ?_
        have key : [val y1] ∈ ss ↔ Rch Ed [val y0] [val y1] := by
          refine ⟨hrch _, fun hreach => ?_⟩
          rcases hor with hge | h
          · have clo : ∀ r, Rch Ed [val y0] r → r ∈ ss := fun r hr => by
              induction hr with
              | refl => exact hin
              | step _ hE ih =>
                obtain ⟨t, ht⟩ := List.mem_iff_getElem?.mp ih
                exact hcl t _ (by have := (List.getElem?_eq_some_iff.mp ht).1; omega) ht _ hE
            exact clo _ hreach
          · exact h
        have hsem : Sem (n : Int) (Fm.tc [x0, x1] g [y0, y1]) ρ val ↔ Rch Ed [val y0] [val y1] := by
          have e1 : ([x0, x1] : List Str).length / 2 = 1 := by simp
          rw [Sem, e1]
          exact Iff.rfl
        rw [hsem, ← key]
        by_cases hmem : [val y1] ∈ ss
        · rw [if_pos hmem]; simp [hmem]
        · rw [if_neg hmem]; simp [hmem]
      refine if_d (fun hlt => ?_) (fun hge => ?_)
      · refine bw_and1 (bb_dnotin (u1 hr) (ee_var 6 rfl (ee_var 7 rfl ⟨sd, _, rfl, dgetR hsd' hgrow, ?_⟩)))
        by_cases hmem : [val y1] ∈ ss
        · rw [if_pos hmem]
          exact if_f rfl (fin (.inr hmem))
        · rw [if_neg hmem]
          refine if_t rfl ?_
          obtain ⟨q0, hq0⟩ : ∃ q0, qs[at']? = some q0 := ⟨_, List.getElem?_eq_getElem (by omega)⟩
          obtain ⟨r0, hr0, hq0r⟩ := hR'.2 at' q0 hq0
          have hr0m : r0 ∈ ss := List.mem_of_getElem? hr0
          let Iv : Nat → L2.St → Hp → Prop := fun i σ H' => ∃ (ss : List (List Int)) (qs : List L2.V) (x15 x16 x17 : Option L2.V) (val' : Str → Int), σ = [some (.ref W), some (.ref a), some (.ref V), some (.int ((1 : Nat) : Int)), some (.ref p), some (.ref L), some (.ref gt), some (.ref sd), some (.ref qa), some (.ref Lr), some (.int (at' : Int)), some (.str "tc"), some (.ref b), some u, some (.ref c), x15, x16, x17] ∧ Ex K H H' ∧ H' sd = some (.dT (RDk ss)) ∧ ss.Nodup ∧ H' qa = some (.lst qs) ∧ RowsAt K H' ss qs ∧
            [val y0] ∈ ss ∧ (∀ r ∈ ss, Rch Ed [val y0] r) ∧ (∀ r ∈ ss, r = [val y0] ∨ r ∈ rowsL n 1) ∧ ss[at']? = some r0 ∧ (∀ t r, t < at' → ss[t]? = some r → ∀ r', Ed r r' → r' ∈ ss) ∧ (∀ r' ∈ (rowsL n 1).take i, Ed r0 r' → r' ∈ ss) ∧ ValsAt H' p (· ∈ VR) val' ∧ (∀ y, y ∉ [x0, x1] → val' y = val y) ∧ H' Lr = some (.lst us) ∧ RowsAt K H' (rowsL n 1) us ∧ H' gt = some (.tup ([val y1].map L2.V.int))
          refine ⟨fun σ H' => ∃ m', m' < m ∧ ∃ (at' : Nat) (ss : List (List Int)) (qs : List L2.V) (x15 x16 x17 : Option L2.V) (val' : Str → Int), σ = [some (.ref W), some (.ref a), some (.ref V), some (.int ((1 : Nat) : Int)), some (.ref p), some (.ref L), some (.ref gt), some (.ref sd), some (.ref qa), some (.ref Lr), some (.int (at' : Int)), some (.str "tc"), some (.ref b), some u, some (.ref c), x15, x16, x17] ∧ Ex K H H' ∧ H' sd = some (.dT (RDk ss)) ∧ ss.Nodup ∧ H' qa = some (.lst qs) ∧ RowsAt K H' ss qs ∧
          [val y0] ∈ ss ∧ (∀ r ∈ ss, Rch Ed [val y0] r) ∧ (∀ r ∈ ss, r = [val y0] ∨ r ∈ rowsL n 1) ∧ at' ≤ ss.length ∧ (∀ t r, t < at' → ss[t]? = some r → ∀ r', Ed r r' → r' ∈ ss) ∧ ValsAt H' p (· ∈ VR) val' ∧ (∀ y, y ∉ [x0, x1] → val' y = val y) ∧ H' Lr = some (.lst us) ∧ RowsAt K H' (rowsL n 1) us ∧ H' gt = some (.tup ([val y1].map L2.V.int)) ∧ m' + at' = n + 2, fun σ' H' h => h, ?_⟩
          refine ss_cons (s_forT PassesOwn.never rfl (ii_list (ee_var 9 rfl ⟨Lr, rfl, ⟨_, SqL.of hLr'⟩, ?_⟩)))
          refine turns_list us Iv ⟨ss, qs, x15, x16, x17, val', rfl, e, hsd', hsn, hq', hR', hin, hrch, hsub, hr0, hcl, fun r' h => by simp at h, hv', hval', hLr', hU', hgt'⟩ (fun i σ H' _ ⟨_, _, _, _, _, _, _, _, _, _, _, _, _, _, _, _, _, _, _, _, h, _⟩ => SqL.of h) ?_ ?_
          · rintro i x σ H2 hx ⟨ss2, qs2, z15, z16, z17, val2, rfl, e2', hsd2, hsn2, hq2, hR2, hin2, hrch2, hsub2, hr02, hcl2, hcm2, hv2, hval2, hLr2, hU2, hgt2⟩
            obtain ⟨r, hri, hrow⟩ := hU2.2 i x hx
            have hrm : r ∈ rowsL n 1 := List.mem_of_getElem? hri
            have hrI : IsRow (n : Int) 1 r := mem_rowsL.mp hrm
            obtain ⟨pr, rfl, hpr⟩ := id hrow
            have htk : (rowsL n 1).take (i + 1) = (rowsL n 1).take i ++ [r] := take_succ_snoc hri
            refine gg_name 15 ?_ sc_World_reached.nd
            refine ss_cons (s_if (bb_dnotin (u1 hr) (ee_var 15 rfl (ee_var 7 rfl ⟨sd, _, rfl, dgetR hsd2 hrow, ?_⟩))))
            by_cases hrs : r ∈ ss2
            · rw [if_pos hrs]
              refine if_f rfl (ss_nil (ss_nil ⟨ss2, qs2, _, z16, z17, val2, rfl, e2', hsd2, hsn2, hq2, hR2, hin2, hrch2, hsub2, hr02, hcl2, fun r' h hE => ?_, hv2, hval2, hLr2, hU2, hgt2⟩))
              rw [htk] at h
              rcases List.mem_append.mp h with h | h
              · exact hcm2 r' h hE
              · rw [List.mem_singleton.mp h]; exact hrs
            · rw [if_neg hrs]
              refine if_t rfl ?_
              obtain ⟨q2, hq2at⟩ : ∃ q2, qs2[at']? = some q2 := ⟨_, List.getElem?_eq_getElem (by rw [hR2.1]; exact (List.getElem?_eq_some_iff.mp hr02).1)⟩
              obtain ⟨r0', hr0', hq2r⟩ := hR2.2 at' q2 hq2at
              obtain rfl : r0 = r0' := Option.some.inj (hr02.symm.trans hr0')
              obtain ⟨pq, rfl, hpq⟩ := id hq2r
              have hr0l : r0.length = 1 := by
                rcases hsub2 r0 (List.mem_of_getElem? hr02) with h | h
                · rw [h]; rfl
                · exact (mem_rowsL.mp h).1
              have hrl := hrI.1
              refine ss_cons (s_forT PassesOwn.never rfl (ii_zipT G.z_zip ?_))
              refine aa_cons (ee_var 12 rfl (aa_cons (ee_bin (ee_ix (ee_var 8 rfl (ee_var 10 rfl (ix_l at' (SqL.of hq2) hq2at (ee_var 15 rfl ?_))))))))
              refine oo_tcatE hpq hpr (by rw [List.length_map, List.length_map]; omega) (fun tp H3 e3 htp => ?_)
              rw [← List.map_append] at htp
              have ndu := nd_allref hU2.refs
              have ndq2 := nd_allref hR2.refs
              have e23 := e2'.trans e3
              refine aa_nil ⟨b, tp, _, _, rfl, e23.t h2, SqT.of htp, ?_⟩
              have hlen : (r0 ++ r).length = 2 := by rw [List.length_append]; omega
              refine turns_zipT ([x0, x1].map L2.V.str) ((r0 ++ r).map L2.V.int) (by rw [List.length_map, List.length_map, hlen]; rfl) (fun j σ H4 => ∃ y z, σ = [some (.ref W), some (.ref a), some (.ref V), some (.int ((1 : Nat) : Int)), some (.ref p), some (.ref L), some (.ref gt), some (.ref sd), some (.ref qa), some (.ref Lr), some (.int (at' : Int)), some (.str "tc"), some (.ref b), some u, some (.ref c), some (.ref pr), y, z] ∧ Ex K H H4 ∧ H4 sd = some (.dT (RDk ss2)) ∧ H4 qa = some (.lst qs2) ∧ RowsAt K H4 ss2 qs2 ∧
                H4 Lr = some (.lst us) ∧ RowsAt K H4 (rowsL n 1) us ∧ H4 gt = some (.tup ([val y1].map L2.V.int)) ∧ H4 tp = some (.tup ((r0 ++ r).map L2.V.int)) ∧ H4 pr = some (.tup (r.map L2.V.int)) ∧ ValsAt H4 p (· ∈ VR) (bindR val2 ([x0, x1].take j) ((r0 ++ r).take j)))
                ⟨z16, z17, rfl, e23, e3.keep _ _ nd_dT hsd2, e3.keep _ _ ndq2 hq2, hR2.mono e3.tex, e3.keep _ _ ndu hLr2, hU2.mono e3.tex, e3.tr hgt2, htp, e3.tr hpr, by simpa [bindR] using hv2.mono e3⟩ (fun j σ H4 ⟨_, _, _, e, _, _, _, _, _, _, h, _⟩ => ⟨e.t h2, SqT.of h⟩) ?_ ?_
              · rintro j xv zv Tp σ H4 hxj hzj ⟨y, z, rfl, e4, hsd4, hq4, hR4, hLr4, hU4, hgt4, htp4, hpr4, hv4⟩ hTp
                rw [List.getElem?_map] at hxj hzj
                cases hxs : [x0, x1][j]? with
                | none => rw [hxs] at hxj; cases hxj
                | some xx =>
                cases hrz : (r0 ++ r)[j]? with
                | none => rw [hrz] at hzj; cases hzj
                | some zz =>
                rw [hxs] at hxj; rw [hrz] at hzj
                obtain rfl : L2.V.str xx = xv := Option.some.inj hxj
                obtain rfl : L2.V.int zz = zv := Option.some.inj hzj
                have e5 : Ex K H4 (upd H4 Tp (.tup [.str xx, .int zz])) := Ex.new hTp
                have hTT : (upd H4 Tp (.tup [.str xx, .int zz])) Tp = some (.tup [.str xx, .int zz]) := upd_same
                generalize (upd H4 Tp (.tup [.str xx, .int zz])) = H5 at *
                refine gg_tup rfl (SqT.of hTT) ?_ rfl
                refine ggs_cons (gg_name 16 ?_ sc_World_reached.nd)
                refine ggs_cons (gg_name 17 ?_ sc_World_reached.nd)
                refine ggs_nil ?_
                have hxx := hxv xx (List.mem_of_getElem? hxs)
                obtain ⟨kv5, g1, g2, g3⟩ := (hv4.mono e5).put (H' := H5) xx zz (vr_nm hxx)
                refine ss_cons (s_dput (u1 hr) (ee_var 17 rfl (ee_var 4 rfl (ee_var 16 rfl ?_))))
                refine ⟨p, _, rfl, DPut.k (k := .inr xx) g1 g2, ?_⟩
                refine ss_nil ?_
                have e45 := e4.trans e5
                have tx : TEx H5 (upd H5 p (.dK (putK kv5 (.inr xx) (.int zz)))) := TEx.upd g1 (fun _ z => nomatch z) (fun _ _ z => nomatch z)
                have hsd5 := e5.keep _ _ nd_dT hsd4
                have hq5 := e5.keep _ _ ndq2 hq4
                have hLr5 := e5.keep _ _ ndu hLr4
                refine ⟨_, _, rfl, e45.mut hp, ?_, ?_, (hR4.mono e5.tex).mono tx, ?_, (hU4.mono e5.tex).mono tx, ?_, ?_, ?_, ?_⟩
                · rw [upd_ne (ne_of hsd5 g1 (fun z => nomatch z))]; exact hsd5
                · rw [upd_ne (ne_of hq5 g1 (fun z => nomatch z))]; exact hq5
                · rw [upd_ne (ne_of hLr5 g1 (fun z => nomatch z))]; exact hLr5
                · rw [upd_ne (ne_of (e5.tr hgt4) g1 (fun z => nomatch z))]; exact e5.tr hgt4
                · rw [upd_ne (ne_of (e5.tr htp4) g1 (fun z => nomatch z))]; exact e5.tr htp4
                · rw [upd_ne (ne_of (e5.tr hpr4) g1 (fun z => nomatch z))]; exact e5.tr hpr4
                · rw [bindR_take hxs hrz]
                  exact (g3 _ upd_same).sub fun y hy => .inl hy
              · rintro σ H4 ⟨y, z, rfl, e4, hsd4, hq4, hR4, hLr4, hU4, hgt4, htp4, hpr4, hv4⟩
                rw [List.length_map, List.take_length, List.take_of_length_le (by rw [hlen]; exact Nat.le_refl _), bindR_congr (by rw [hlen]; rfl) hval2] at hv4
                refine ss_cons (s_if (bb_val ?_))
                refine ee_meth DT CW.cls rfl hr ?_
                refine ee_var 0 rfl ?_
                refine ⟨W, dx, _, rfl, e4.keep _ _ nd_ins hW, rfl, ?_⟩
                refine aa_cons (ee_var 13 rfl (aa_cons (ee_var 4 rfl (aa_nil ?_))))
                refine ⟨W, p, u, g, n, ρ, bindR val [x0, x1] (r0 ++ r), rfl, ⟨D, NS, Γ, ⟨dx, e4.keep _ _ nd_ins hW⟩, hR.mono e4, hv4, fmAt_mono e4.tex _ _ h3, by simp only [depth] at hd; omega, hwg, hg, hN, n1, n4, hcg⟩, trivial, fun bb H6 e6 hb => ?_⟩
                refine bq ?_
                have e46 := e4.trans e6
                have hrow6 : RowAt K H6 r (.ref pr) := ⟨pr, rfl, e6.tr hpr4⟩
                have hsd6 := e6.keep _ _ nd_dT hsd4
                have hq6 := e6.keep _ _ ndq2 hq4
                have hR6 := hR4.mono e6.tex
                have hLr6 := e6.keep _ _ ndu hLr4
                have hU6 := hU4.mono e6.tex
                have hgt6 := e6.tr hgt4
                have hv6 := hv4.mono e6
                have hvn : ∀ y, y ∉ [x0, x1] → bindR val [x0, x1] (r0 ++ r) y = val y := fun y hy => bindR_notin hy
                have hEd : bb = true ↔ Ed r0 r := hb.trans ⟨fun h => ⟨hrI, h⟩, fun h => h.2⟩
                cases bb with
                | true =>
                  refine if_tt ?_
                  have hrl : ss2.length ≤ 10000 := by
                    have := few_of_nodup (d := [val y0] :: rowsL n 1) hsn2 fun r hr => by
                      rcases hsub2 r hr with h | h
                      · rw [h]; simp
                      · simp [h]
                    rw [List.length_cons, hrows] at this; omega
                  have hql2 := hR6.1
                  refine ss_cons (s_dput (u1 hr) (ee_bl (ee_var 7 rfl (ee_var 15 rfl ?_))))
                  refine ⟨sd, _, rfl, dputR hsd6 hrow6 hrl, ?_⟩
                  have tx7 : TEx H6 (upd H6 sd (.dT (RDk (addR ss2 r)))) := TEx.upd hsd6 (fun _ z => nomatch z) (fun _ _ z => nomatch z)
                  have e07 := e46.mut (p := sd) (o := .dT (RDk (addR ss2 r))) hsd0
                  have hq7 : (upd H6 sd (.dT (RDk (addR ss2 r)))) qa = some (.lst qs2) := by rw [upd_ne (ne_of hq6 hsd6 (fun z => nomatch z))]; exact hq6
                  have hLr7 : (upd H6 sd (.dT (RDk (addR ss2 r)))) Lr = some (.lst us) := by rw [upd_ne (ne_of hLr6 hsd6 (fun z => nomatch z))]; exact hLr6
                  have hsd7 : (upd H6 sd (.dT (RDk (addR ss2 r)))) sd = some (.dT (RDk (addR ss2 r))) := upd_same
                  have hgt7 : (upd H6 sd (.dT (RDk (addR ss2 r)))) gt = some (.tup ([val y1].map L2.V.int)) := by rw [upd_ne (ne_of hgt6 hsd6 (fun z => nomatch z))]; exact hgt6
                  have hv7 : ValsAt (upd H6 sd (.dT (RDk (addR ss2 r)))) p (· ∈ VR) (bindR val [x0, x1] (r0 ++ r)) := by
                    obtain ⟨kv, g1, g2, g3⟩ := hv6
                    exact ⟨kv, by rw [upd_ne (ne_of g1 hsd6 (fun z => nomatch z))]; exact g1, g2, g3⟩
                  have hR7 := hR6.mono tx7
                  have hU7 := hU6.mono tx7
                  have hrow7 := hrow6.mono tx7
                  have hadd : addR ss2 r = ss2 ++ [r] := by unfold addR; rw [if_neg hrs]
                  have hsn7 := addR_nd (r := r) hsn2
                  generalize (upd H6 sd (.dT (RDk (addR ss2 r)))) = H7 at *
                  rw [hadd] at hsd7 hsn7
                  refine ss_cons (s_expr (ee_append (ee_var 8 rfl ⟨qa, rfl, ⟨_, SqL.of hq7⟩, ee_var 15 rfl ⟨qs2, hq7, by rw [sizeLine_eq]; omega, ?_⟩⟩)))
                  have tx8 : TEx H7 (upd H7 qa (.lst (qs2 ++ [.ref pr]))) := TEx.upd hq7 (fun _ z => nomatch z) (fun _ _ z => nomatch z)
                  refine ss_nil (ss_nil (ss_nil ⟨ss2 ++ [r], qs2 ++ [.ref pr], _, _, _, _, rfl, e07.mut hqa0, ?_, hsn7, upd_same, (hR7.snoc hrow7).mono tx8, by simp [hin2], ?_, ?_, ?_, ?_, ?_, ?_, hvn, ?_, hU7.mono tx8, ?_⟩))
                  · rw [upd_ne (ne_of hsd7 hq7 (fun z => nomatch z))]; exact hsd7
                  · intro r' h
                    rcases List.mem_append.mp h with h | h
                    · exact hrch2 r' h
                    · rw [List.mem_singleton.mp h]; exact .step (hrch2 r0 (List.mem_of_getElem? hr02)) (hEd.mp rfl)
                  · intro r' h
                    rcases List.mem_append.mp h with h | h
                    · exact hsub2 r' h
                    · rw [List.mem_singleton.mp h]; exact .inr hrm
                  · rw [List.getElem?_append_left (List.getElem?_eq_some_iff.mp hr02).1]; exact hr02
                  · intro t r1 ht h r' hE
                    have htl : t < ss2.length := by have := (List.getElem?_eq_some_iff.mp hr02).1; omega
                    rw [List.getElem?_append_left htl] at h
                    exact List.mem_append.mpr (.inl (hcl2 t r1 ht h r' hE))
                  · intro r' h hE
                    rw [htk] at h
                    rcases List.mem_append.mp h with h | h
                    · exact List.mem_append.mpr (.inl (hcm2 r' h hE))
                    · exact List.mem_append.mpr (.inr h)
                  · obtain ⟨kv, g1, g2, g3⟩ := hv7
                    exact ⟨kv, by rw [upd_ne (ne_of g1 hq7 (fun z => nomatch z))]; exact g1, g2, g3⟩
                  · have hne : Lr ≠ qa := fun z => by
                      have h0 := e010.keep _ _ nd_ins hW
                      have := hLrn
                      rw [z] at this
                      rw [hq10] at this; cases this
                    rw [upd_ne hne]; exact hLr7
                  · rw [upd_ne (ne_of hgt7 hq7 (fun z => nomatch z))]; exact hgt7
                | false =>
                  refine if_ff ?_
                  refine ss_nil (ss_nil (ss_nil ⟨ss2, qs2, _, _, _, _, rfl, e46, hsd6, hsn2, hq6, hR6, hin2, hrch2, hsub2, hr02, hcl2, fun r' h hE => ?_, hv6, hvn, hLr6, hU6, hgt6⟩))
                  rw [htk] at h
                  rcases List.mem_append.mp h with h | h
                  · exact hcm2 r' h hE
                  · rw [List.mem_singleton.mp h] at hE; have := hEd.mpr hE; cases this
          · rintro σ H2 ⟨ss2, qs2, z15, z16, z17, val2, rfl, e2', hsd2, hsn2, hq2, hR2, hin2, hrch2, hsub2, hr02, hcl2, hcm2, hv2, hval2, hLr2, hU2, hgt2⟩
            have hatl := (List.getElem?_eq_some_iff.mp hr02).1
            have hssl2 : ss2.length ≤ n + 1 := by
              have := few_of_nodup (d := [val y0] :: rowsL n 1) hsn2 fun r hr => by
                rcases hsub2 r hr with h | h
                · rw [h]; simp
                · simp [h]
              rw [List.length_cons, hrows] at this; exact this
            refine ss_cons (s_aug 10 rfl ?_ sc_World_reached.nd)
            refine ee_int ?_
            refine io_add ?_
            refine ss_nil ⟨m - 1, by omega, at' + 1, ss2, qs2, z15, z16, z17, val2, rfl, e2', hsd2, hsn2, hq2, hR2, hin2, hrch2, hsub2, hatl, fun t r1 ht h r' hE => ?_, hv2, hval2, hLr2, hU2, hgt2, by omega⟩
            by_cases hta : t = at'
            · subst hta
              obtain rfl : r0 = r1 := Option.some.inj (hr02.symm.trans h)
              refine hcm2 r' ?_ hE
              rw [hU2.1, List.take_length]; exact mem_rowsL.mpr hE.1
            · exact hcl2 t r1 (by omega) h r' hE
      · exact if_f rfl (fin (.inl (by omega)))
end
end Sy
namespace Sy
section
variable {w : World} {K : PySem.W.Frag} {mg : Str → Option Value} {base : Heap} {Cw Cs : Addr}
/-- World.true on formulas of any depth -/
structure WTop (K : PySem.W.Frag) (mg : Str → Option Value) (Cw : Addr) : Prop where
  tr : TopM K Cw "true" "World.true" s_World_true
  jo : TopM K Cw "joined" "World.joined" s_World_joined
  ra : TopM K Cw "ranged" "World.ranged" s_World_ranged
  gu : TopM K Cw "guessed" "World.guessed" s_World_guessed
  re : TopM K Cw "reached" "World.reached" s_World_reached
  st : TopM K Cw "stage" "World.stage" s_World_stage
  fi : TopM K Cw "fixed" "World.fixed" s_World_fixed
  wn : TopM K Cw "with_name" "World.with_name" s_World_with_name
  wi : TopK K mg "World" Cw "World.__init__" s_World_init
  ro : Top K mg "rows_of" s_rows_of
  ke : Top K mg "keys_of" s_keys_of
  fo : Top K mg "following" s_following
theorem dm_trueAll (T : WTop K mg Cw) (G : Gs K mg) (CW : CWk K Cw) : ∀ d, Dm w K mg base Cw "true" (3 * d + 3) (spTr K Cw (fun _ => True) d)
  | 0 => by
    refine T.tr.dm (k := 2) sc_World_true (fun vs H Q E h => ?_) (fun _ _ _ _ _ _ us hl => match us, hl with | [_, _, _], _ => rfl) (fun f cd A outer s0 H vs Q E hr h => ?_)
    · obtain ⟨W, V, v, φ, n, ρ, val, rfl, _⟩ := h; rfl
    · obtain ⟨W, V, v, φ, n, ρ, val, rfl, ⟨D, NS, Γ, _, _, _, _, hd, _⟩, _⟩ := h
      have := depth_pos φ
      omega
  | d + 1 => by
    have DT := dm_trueAll T G CW d
    have DR : Dn w K mg base "rows_of" 1 (spRowsOf K) := dn_rows_of T.ro G
    have DN : Dm w K mg base Cw "with_name" 3 (spWithName K Cw) := dm_with_name T.wn G CW (dk_world T.wi CW)
    have DS := dm_stage T.st G CW DR d (3 * d + 3) (by omega) DT
    refine dm_true T.tr G CW d (3 * d + 5) (by omega) (DT.mono (by omega)) ((dm_joined T.jo G CW d (3 * d + 3) DT).mono (by omega)) ((dm_ranged T.ra G CW (dn_following T.fo G) d (3 * d + 3) (by omega) DT).mono (by omega))
      ((dm_guessed T.gu G CW DR (dn_keys_of T.ke G) DN d (3 * d + 3) (by omega) DT).mono (by omega)) ((dm_reached T.re G CW DR d (3 * d + 3) (by omega) DT).mono (by omega)) (dm_fixed T.fi G CW DN d (3 * d + 4) (by omega) DS)
theorem dm_stageAll (T : WTop K mg Cw) (G : Gs K mg) (CW : CWk K Cw) (d : Nat) : Dm w K mg base Cw "stage" (3 * d + 4) (spStage K Cw d) :=
  dm_stage T.st G CW (dn_rows_of T.ro G) d (3 * d + 3) (by omega) (dm_trueAll T G CW d)
end
end Sy
namespace Sy
/-- what is known of the class Structure -/
structure CSk (K : PySem.W.Frag) (Cs : Addr) : Prop where
  cls : Cls K Cs
  size : NoAttr K Cs "size"
  rels : NoAttr K Cs "relations"
/-- a structure of n elements with these relations -/
def StAt (K : PySem.W.Frag) (Cs : Addr) (H : Hp) (S : Addr) (n : Nat) (rels : List RelT) : Prop := ∃ dx L us, H S = some (.ins Cs dx [("size", .int n), ("relations", .ref L)]) ∧ H L = some (.lst us) ∧ LAt (RelAt K H) rels us
theorem lat_ref {K : PySem.W.Frag} {H : Hp} {rels : List RelT} {us : List V} (h : LAt (RelAt K H) rels us) : NotDraw (.lst us) := nd_allref fun x hx => by
  obtain ⟨i, hi⟩ := List.mem_iff_getElem?.mp hx
  obtain ⟨t, _, a, _, _, e, _⟩ := h.2 i x hi
  exact ⟨a, e⟩
theorem LAt.mono' {K : PySem.W.Frag} {H H' : Hp} (e : TEx H H') {rels : List RelT} {us : List V} (h : LAt (RelAt K H) rels us) : LAt (RelAt K H') rels us := ⟨h.1, fun i u hu => let ⟨t, h1, h2⟩ := h.2 i u hu; ⟨t, h1, h2.mono e⟩⟩
theorem StAt.mono {K : PySem.W.Frag} {Cs : Addr} {H H' : Hp} {S : Addr} {n : Nat} {rels : List RelT} (e : Ex K H H') (h : StAt K Cs H S n rels) : StAt K Cs H' S n rels :=
  let ⟨dx, L, us, h1, h2, h3⟩ := h
  ⟨dx, L, us, e.keep _ _ nd_ins h1, e.keep _ _ (lat_ref h3) h2, h3.mono' e.tex⟩
def NOk (n : Nat) (rels : List RelT) : Prop := WOk n rels ∧ ∀ t ∈ rels, t.2.2.Nodup
/-- what the names of a structure mean -/
def relOf (rels : List RelT) : Str → Rel := fun nm r => ∃ t ∈ rels, t.1 = nm ∧ r ∈ t.2.2
theorem WOk.three {n : Nat} {rels : List RelT} (h : WOk n rels) : ∃ r0 r1 r2 : List (List Int), rels = ([("e", 2, r0), ("p", 1, r1), ("q", 0, r2)] : List RelT) := by
  obtain ⟨h, _⟩ := h
  match rels, h with
  | [(a0, b0, r0), (a1, b1, r1), (a2, b2, r2)], h =>
    unfold SIG at h
    simp only [List.map_cons, List.map_nil, List.cons.injEq, Prod.mk.injEq] at h
    obtain ⟨⟨rfl, rfl⟩, ⟨rfl, rfl⟩, ⟨rfl, rfl⟩, _⟩ := h
    exact ⟨r0, r1, r2, rfl⟩
theorem WOk.uniq {n : Nat} {rels : List RelT} (h : WOk n rels) {t t' : RelT} (ht : t ∈ rels) (ht' : t' ∈ rels) (e : t.1 = t'.1) : t = t' := by
  obtain ⟨r0, r1, r2, rfl⟩ := h.three
  simp only [List.mem_cons, List.not_mem_nil, or_false] at ht ht'
  rcases ht with rfl | rfl | rfl <;> rcases ht' with rfl | rfl | rfl <;> first | rfl | exact absurd e (by dsimp only; decide)
theorem WOk.nm {n : Nat} {rels : List RelT} (h : WOk n rels) {t : RelT} (ht : t ∈ rels) : t.1 ∈ NM ∧ (t.1, t.2.1) ∈ SIG ∧ t.2.1 ≤ 2 := by
  obtain ⟨r0, r1, r2, rfl⟩ := h.three
  simp only [List.mem_cons, List.not_mem_nil, or_false] at ht
  rcases ht with rfl | rfl | rfl
  · exact ⟨by dsimp only; decide, by dsimp only; decide, Nat.le_refl _⟩
  · exact ⟨by dsimp only; decide, by dsimp only; decide, by show 1 ≤ 2; omega⟩
  · exact ⟨by dsimp only; decide, by dsimp only; decide, by show 0 ≤ 2; omega⟩
section
variable {w : World} {K : PySem.W.Frag} {mg : Str → Option Value} {base : Heap} {Cs : Addr}
def spRelsOf (K : PySem.W.Frag) (Cs : Addr) : Sp := fun vs H Q _ => ∃ S n rels, vs = [.ref S] ∧ StAt K Cs H S n rels ∧ NOk n rels ∧ ∀ D H', Ex K H H' → RelsAt H' D (fun x => ∃ t ∈ rels, t.1 = x) (relOf rels) → Q (.ref D) H'
theorem dn_relations_of (T : Top K mg "relations_of" s_relations_of) (G : Gs K mg) (CS : CSk K Cs) (DK : Dn w K mg base "keys_of" 1 (spKeysOf K)) : Dn w K mg base "relations_of" 2 (spRelsOf K Cs) := by
  refine T.dn sc_relations_of (fun vs H Q E h => ?_) (fun _ _ _ _ _ _ us hl => match us, hl with | [_], _ => rfl) (fun f cd A outer s0 H vs Q E hr h => ?_)
  · obtain ⟨S, n, rels, rfl, _⟩ := h; rfl
  · obtain ⟨S, n, rels, rfl, ⟨dx, L, us, hS, hL, hU⟩, hN, q⟩ := h
    refine ss_cons (s_set 1 (ee_dnewK fun D hD => ?_) sc_relations_of.nd)
    have e1 : Ex K H (upd H D (.dK [])) := Ex.new hD
    have hD1 : (upd H D (.dK [])) D = some (.dK []) := upd_same
    generalize (upd H D (.dK [])) = H1 at *
    have ndu := lat_ref hU
    refine ss_cons (s_forT PassesOwn.never rfl (ii_list (ee_fld ?_)))
    walk_at "ge"
    refine ⟨S, Cs, dx, _, _, rfl, e1.keep _ _ nd_ins hS, CS.cls, CS.rels, rfl, ?_⟩
    refine ⟨L, rfl, ⟨_, SqL.of (e1.keep _ _ ndu hL)⟩, ?_⟩
    refine turns_list us (fun i σ H' => ∃ x y z kvs, σ = [some (.ref S), some (.ref D), x, y, z] ∧ Ex K H H' ∧ H' D = some (.dK kvs) ∧ KeyOk kvs ∧ ∀ t ∈ rels.take i, ∃ b, valV kvs (.inr t.1) = some (.ref b) ∧ H' b = some (.dT (RDk t.2.2)))
      ⟨none, none, none, [], rfl, e1, hD1, KeyOk.nil, by simp⟩ (fun i σ H' _ ⟨_, _, _, _, _, e, _⟩ => SqL.of (e.keep _ _ ndu hL)) ?_ ?_
    · rintro i x σ H' hx ⟨x2, x3, x4, kvs, rfl, e, hD', hk, hp⟩
      obtain ⟨t, hti, a, b, vs, rfl, ha, hb, hrw⟩ := hU.2 i x hx
      have htm : t ∈ rels := List.mem_of_getElem? hti
      refine gg_tup rfl (e.t ha) ?_ rfl
      refine ggs_cons (gg_name 2 ?_ sc_relations_of.nd)
      refine ggs_cons (gg_name 3 ?_ sc_relations_of.nd)
      refine ggs_cons (gg_name 4 ?_ sc_relations_of.nd)
      refine ggs_nil ?_
      refine ss_cons (s_dput (u1 hr) ?_)
      refine ee_call DK rfl (hr.mono (by omega)) ?_
      walk_at "ge"
      have hok := (hN.1.2 t htm).2.1
      refine ⟨b, vs, t.2.2, rfl, .inr (e.t hb), hrw.mono e.tex, hN.2 t htm, by omega, fun b2 H2 e2 hb2 => ?_⟩
      walk_at "ge"
      have hD2 := e2.keep _ _ nd_dK hD'
      refine ⟨D, _, rfl, DPut.k (k := .inr t.1) hD2 (by have := hk.len; rw [sizeLine_eq]; omega), ?_⟩
      refine ss_nil ?_
      refine ⟨_, _, _, _, rfl, (e.trans e2).mut hD, upd_same, hk.put (hN.1.nm htm).1, fun t' ht' => ?_⟩
      have keepT : ∀ {c : Addr} {rs : List (List Int)}, H2 c = some (.dT (RDk rs)) → (upd H2 D (.dK (putK kvs (.inr t.1) (.ref b2)))) c = some (.dT (RDk rs)) := fun {c rs} hc => by
        rw [upd_ne (ne_of hc hD2 (fun z => nomatch z))]; exact hc
      rw [take_succ_snoc hti, List.mem_append, List.mem_singleton] at ht'
      by_cases he : t'.1 = t.1
      · have htt : t' = t := by
          rcases ht' with h | h
          · exact hN.1.uniq (List.mem_of_mem_take h) htm he
          · exact h
        subst htt
        refine ⟨b2, ?_, keepT hb2⟩
        rw [valV_put, if_pos rfl]
      · rcases ht' with h | h
        · obtain ⟨b', g1, g2⟩ := hp t' h
          refine ⟨b', ?_, keepT (e2.keep _ _ nd_dT g2)⟩
          rw [valV_put, if_neg (fun z => he (Sum.inr.inj z))]; exact g1
        · exact absurd (by rw [h]) he
    · rintro σ H' ⟨x2, x3, x4, kvs, rfl, e, hD', hk, hp⟩
      walk_at "go"
      refine q D H' e ⟨kvs, hD', hk, fun nm hnm => ?_⟩
      obtain ⟨t, ht, rfl⟩ := hnm
      obtain ⟨b, g1, g2⟩ := hp t (by rw [hU.1, List.take_length]; exact ht)
      refine ⟨b, t.2.2, g1, g2, fun r => ⟨fun hr => ⟨t, ht, rfl, hr⟩, fun ⟨t', ht', e', hr'⟩ => ?_⟩⟩
      rw [hN.1.uniq ht ht' e'.symm]; exact hr'
end
end Sy
namespace Sy
/-- a dict of the module with these texts and numbers -/
def KDic (K : PySem.W.Frag) (w : World) (a : Addr) (xs : List (Str × Int)) : Prop := (a == sysModules) = false ∧ ∃ es n, K.lookup a = some ⟨.type "dict", none, .dict es n, #[]⟩ ∧ PySem.W.KeysLit w.params es.toList ∧ ∀ p ∈ xs, ∃ u, PySem.W.nsIn K a p.1 = some (some u) ∧ RelV (.int p.2) u
section
variable {X : Cx} {σ : L2.St} {H : Hp} {Q : VK} {a : Addr} {o e : Expr} {apos pos : Pos} {QB : BK}
theorem ee_kdget {xs : List (Str × Int)} (kd : KDic X.K X.w a xs) (h : EE X o σ H fun x H1 => x = .ref a ∧ EE X e σ H1 fun y H2 => ∃ p ∈ xs, y = .str p.1 ∧ Q (.int p.2) H2)
    (hbase : attributeBase o "get" X.env (eval o X.env) = eval o X.env := by rfl)
    (hfew : ((backTo pos (starEach [e] X.env)).all (fun x => !x.1) && (backToKw pos (keywordEach [] X.env)).all (fun x => x.1.isSome)
      && decide (([e] : List Expr).length + ([] : List Keyword).length + (if ([] : List Keyword).isEmpty then 0 else 1) < 30)) = true := by rfl)
    (hline : (apos.endLine == pos.line) = true := by rfl) (htr : backTo pos (starEach [e] X.env) = [(false, eval e X.env)] := by rfl) :
    EE X (.Call (.Attribute o "get" apos) [e] [] pos) σ H Q := by
  obtain ⟨low, es, n, hl, hk, hx⟩ := kd
  refine ⟨fun pins s I => ?_⟩
  refine wpAny_Call_method hbase hfew hline PySem.F.plainAttrs_dict PySem.F.slot_dict_get PySem.F.type_dict_get (thn (h.run pins s I) fun u s1 ⟨x, H1, I1, rx, ex, q1⟩ => ?_)
  subst ex
  obtain rfl : u = Value.ref a := rx
  have hm := PySem.W.mapOf_K (prog := X.prog) (w := X.w) I1.kIn hl hk
  refine ⟨hm.typeIs, fun b q => ?_, ?_⟩
  · cases q; exact ⟨_, I1.kIn _ _ hl, rfl⟩
  rw [htr]
  refine Calls.callWith_builtin rfl (Calls.evalArgs_plain (Calls.spliced_cons (thn (q1.run pins s1 I1) fun iv s2 ⟨y, H2, I2, ry, p, hp, ey, q2⟩ => Calls.spliced_nil ?_)))
  subst ey
  obtain ⟨t, rfl⟩ := (show ∃ t, iv = Value.str p.1 t from ry)
  obtain ⟨u, e1, e2⟩ := hx p hp
  have hm2 := PySem.W.mapOf_K (prog := X.prog) (w := X.w) I2.kIn hl hk
  refine call_meetsIn PySem.F.slot_dict_get hm2.typeIs PySem.F.entry_dict_get (PySem.F.args_dict_get_2 _ _) (meets_dict_get (strKind X.prog X.w) a (strKind_is X.prog X.w p.1 t) low) ⟨_, hm2, ?_⟩
  rw [PySem.W.find_K hl e1]
  exact ⟨.int p.2, H2, I2.tok _, e2, q2⟩
/-- a tuple as a test -/
theorem tru_t {K : PySem.W.Frag} {xs : List V} (h : SqT K H a xs) : TruV K (.ref a) H (!xs.isEmpty) := .inr (.inl ⟨xs, h, rfl⟩)
end
end Sy
namespace Sy
theorem nodup_len {xs ks : List Str} (h : xs.Nodup) (h' : ks.Nodup) (hm : ∀ x, x ∈ ks ↔ x ∈ xs) : ks.length = xs.length :=
  Nat.le_antisymm (few_of_nodup h' fun x hx => (hm x).mp hx) (few_of_nodup h fun x hx => (hm x).mpr hx)
theorem vo_nd {xs : List Str} (h : VsOk (· ∈ VR) xs) : xs.Nodup ∧ xs.length ≤ 3 ∧ ∀ x ∈ xs, x ∈ NM := ⟨h.1, h.2.2.1, fun x hx => vr_nm (h.2.2.2 x hx)⟩
/-- the lengths of formulas by their words -/
def LENS : List (Str × Int) := [("rel", 3), ("eq", 3), ("less", 3), ("not", 2), ("and", 2), ("or", 2), ("some", 3), ("all", 3), ("lfp", 5), ("pfp", 5), ("tc", 4), ("guess", 4)]
def LENk (w : World) (K : PySem.W.Frag) (mg : Str → Option Value) : Prop := ∃ a, mg "LENGTHS" = some (.ref a) ∧ KDic K w a LENS
section
variable {w : World} {K : PySem.W.Frag} {mg : Str → Option Value} {base : Heap}
def spAreVars (K : PySem.W.Frag) : Sp := fun vs H Q _ => ∃ a xs, ∃ lo hi : Int, vs = [.ref a, .int lo, .int hi] ∧ SqS K H a xs ∧ lo ≤ xs.length ∧ (xs.length : Int) ≤ hi ∧ (∀ x ∈ xs, x ∈ NM) ∧ xs.Nodup ∧ ∀ H', Ex K H H' → Q (.bl true) H'
theorem dn_are_variables (T : Top K mg "are_variables" s_are_variables) (G : Gs K mg) (DN : Dn w K mg base "are_names" 2 (spAreNames K)) : Dn w K mg base "are_variables" 3 (spAreVars K) := by
  refine T.dn sc_are_variables (fun vs H Q E h => ?_) (fun _ _ _ _ _ _ us hl => match us, hl with | [_, _, _], _ => rfl) (fun f cd A outer s H vs Q E hr h => ?_)
  · obtain ⟨a, xs, lo, hi, rfl, _⟩ := h; rfl
  · obtain ⟨a, xs, lo, hi, rfl, ha, hlo, hhi, hnm, hnd, q⟩ := h
    refine ss_cons (s_ret (ee_and ?_))
    refine ee_call DN rfl hr ?_
    walk_at "ge"
    refine ⟨a, xs, lo, hi, rfl, ha, hlo, hhi, hnm, ?_⟩
    have h8 : xs.length ≤ 8 := few_of_nodup (d := NM) hnd hnm
    refine ⟨true, rfl, iteT (ee_one (ee_cmp (ee_callB (x := "len") G.z_len bt_len (aa_cons (ee_callTy (x := "set") G.z_set bt_set (aa_cons (ee_var 0 rfl (aa_nil ?_))))))))⟩
    refine cc_setXT rfl ha (by omega) fun p ks hp hks hm => ?_
    have hkl := nodup_len hnd hks hm
    have e1 : Ex K H (upd H p (SetXO P w p ks)) := Ex.new hp
    refine aa_nil (cc_lenX upd_same (by omega) ?_)
    refine ee_callB (x := "len") G.z_len bt_len (aa_cons (ee_var 0 rfl (aa_nil (cc_lenT (e1.t ha) (oo_eqi ?_)))))
    rw [show decide ((ks.length : Int) = (((xs.map V.str).length : Nat) : Int)) = true from decide_eq_true (by rw [List.length_map, hkl])]
    exact q _ e1
def spWell (K : PySem.W.Frag) : Sp := fun vs H Q _ => ∃ v φ, vs = [v] ∧ FmAt K H φ v ∧ Wf φ ∧ ∀ H', Ex K H H' → Q (.bl true) H'
theorem dn_is_well_made (T : Top K mg "is_well_made" s_is_well_made) (G : Gs K mg) (LK : LENk w K mg) (DI : Dn w K mg base "is_name" 1 spIsName) (DB : Dn w K mg base "is_below" 2 spIsBelow) (DN : Dn w K mg base "are_names" 2 (spAreNames K)) (DV : Dn w K mg base "are_variables" 3 (spAreVars K)) :
    Dn w K mg base "is_well_made" 4 (spWell K) := by
  refine T.dn sc_is_well_made (fun vs H Q E h => ?_) (fun _ _ _ _ _ _ us hl => match us, hl with | [_], _ => rfl) (fun f cd A outer s H vs Q E hr h => ?_)
  · obtain ⟨v, φ, rfl, _⟩ := h; rfl
  · obtain ⟨v, φ, rfl, hF, ⟨Γ, hg, hw⟩, q⟩ := h
    obtain ⟨aL, hLm, hLk⟩ := LK
    obtain ⟨t1, hPL⟩ := G.c_PLACES
    obtain ⟨t2, hBR⟩ := G.c_BRANCHES
    obtain ⟨t3, hST⟩ := G.c_STEPS
    obtain ⟨t4, hGU⟩ := G.c_GUESSED
    obtain ⟨aq, hQ, hQs⟩ := G.c_QUANTIFIERS
    obtain ⟨af, hX, hXs⟩ := G.c_FIXED
    have hqs := hQs H
    have hxs := hXs H
    -- the head, for a tuple with a word
    have head : ∀ (a : Addr) (wd : Str) (us : List V), SqT K H a (.str wd :: us) → (wd, ((us.length + 1 : Nat) : Int)) ∈ LENS →
      SS (Cxd w K mg base N_is_well_made "is_well_made" s_is_well_made f cd A outer s H E) ((defBody s_is_well_made).drop 3) { nx := fun _ H' => Q .non H', rt := Q } [some (.ref a), some (.str wd)] H →
      SS (Cxd w K mg base N_is_well_made "is_well_made" s_is_well_made f cd A outer s H E) (defBody s_is_well_made) { nx := fun _ H' => Q .non H', rt := Q } [some (.ref a), none] H := fun a wd us ha hl rest => by
      refine ss_cons (s_if (bb_bw (bw_or (bb_not (bb_val (ee_callB (x := "isinstance") G.z_isinstance bt_isinstance ?_))))))
      refine aa_cons (ee_var 0 rfl (aa_cons (ee_blt (x := "tuple") (v := .ty "tuple") G.z_tuple bt_tuple rfl (aa_nil (isi_tup ha k_tt ?_)))))
      refine bq (if_f rfl ?_)
      refine bw_or (bb_not (bb_tru (ee_var 0 rfl ⟨_, tru_t ha, ?_⟩)))
      refine if_f rfl ?_
      refine bw_or1 (bb_not (bb_val (ee_callB (x := "isinstance") G.z_isinstance bt_isinstance ?_)))
      refine aa_cons (ee_ix (ee_var 0 rfl (ee_int (ix_t 0 ha rfl ?_))))
      walk_at "ge"
      refine ss_nil (ss_cons (s_set 1 (ee_ix (ee_var 0 rfl (ee_int (ix_t 0 ha rfl ?_)))) sc_is_well_made.nd))
      refine ss_cons (s_if (bb_cmp ?_))
      refine ee_kdget (a := aL) hLk ?_
      refine ee_glob (v := .ref aL) (u := .ref aL) hLm rfl ?_
      refine ⟨rfl, ee_var 1 rfl ⟨_, hl, rfl, ?_⟩⟩
      refine ee_callB (x := "len") G.z_len bt_len (aa_cons (ee_var 0 rfl (aa_nil (cc_lenT ha (oo_nei ?_)))))
      refine bq ?_
      refine if_f (by simp) (ss_nil ?_)
      exact rest
    have names : ∀ (b : Addr) (xs : List Str) (lo hi : Int), SqS K H b xs → lo ≤ xs.length → (xs.length : Int) ≤ hi → (∀ x ∈ xs, x ∈ VR) → ∀ Q' : VK, Q' (.bl true) H → spAreNames K [.ref b, .int lo, .int hi] H Q' E0 := fun b xs lo hi hb hlo hhi hv Q' q' =>
      ⟨b, xs, lo, hi, rfl, hb, hlo, hhi, fun x hx => vr_nm (hv x hx), q'⟩
    have vars : ∀ (b : Addr) (xs : List Str) (lo hi : Int), SqS K H b xs → VsOk (· ∈ VR) xs → lo ≤ xs.length → (xs.length : Int) ≤ hi → ∀ Q' : VK, (∀ H', Ex K H H' → Q' (.bl true) H') → spAreVars K [.ref b, .int lo, .int hi] H Q' E0 := fun b xs lo hi hb hv hlo hhi Q' q' =>
      ⟨b, xs, lo, hi, rfl, hb, hlo, hhi, (vo_nd hv).2.2, hv.1, q'⟩
    cases φ with
    | rel nm args =>
      obtain ⟨a, b, rfl, h1, h2⟩ := hF
      simp only [WF] at hw
      obtain ⟨⟨m, _, hΓ⟩, hav⟩ := hw
      have h3 : args.length ≤ 3 := (hg.nm _ hΓ).2
      refine head a "rel" _ h1 (by show (("rel" : Str), (3 : Int)) ∈ LENS; decide) ?_
      walk_at "go"
      refine ee_call DI rfl (hr.mono (by omega)) ?_
      walk_at "ge"
      refine ⟨nm, rfl, nr_nm (hg.nm _ hΓ).1, true, rfl, iteT ?_⟩
      walk_at "go"
      refine ee_call DN rfl (hr.mono (by omega)) ?_
      walk_at "ge"
      exact names b args 0 6 h2 (by omega) (by omega) hav _ (q _ Ex.refl)
    | eq x y =>
      obtain ⟨a, rfl, h1⟩ := hF
      simp only [WF] at hw
      refine head a "eq" _ h1 (by show (("eq" : Str), (3 : Int)) ∈ LENS; decide) ?_
      walk_at "go"
      refine ee_call DI rfl (hr.mono (by omega)) ?_
      walk_at "ge"
      refine ⟨x, rfl, vr_nm hw.1, true, rfl, iteT ?_⟩
      walk_at "go"
      refine ee_call DI rfl (hr.mono (by omega)) ?_
      walk_at "ge"
      exact ⟨y, rfl, vr_nm hw.2, q _ Ex.refl⟩
    | less x y =>
      obtain ⟨a, rfl, h1⟩ := hF
      simp only [WF] at hw
      refine head a "less" _ h1 (by show (("less" : Str), (3 : Int)) ∈ LENS; decide) ?_
      walk_at "go"
      refine ee_call DI rfl (hr.mono (by omega)) ?_
      walk_at "ge"
      refine ⟨x, rfl, vr_nm hw.1, true, rfl, iteT ?_⟩
      walk_at "go"
      refine ee_call DI rfl (hr.mono (by omega)) ?_
      walk_at "ge"
      exact ⟨y, rfl, vr_nm hw.2, q _ Ex.refl⟩
    | not g =>
      obtain ⟨a, u, rfl, h1, h2⟩ := hF
      refine head a "not" _ h1 (by show (("not" : Str), (2 : Int)) ∈ LENS; decide) ?_
      walk_at "go"
      exact q _ Ex.refl
    | join sg fs =>
      obtain ⟨a, b, us, rfl, h1, h2, h3⟩ := hF
      simp only [WF] at hw
      have hl := (fmsAt_get h3).1
      cases sg
      · refine head a "and" _ h1 (by show (("and" : Str), (2 : Int)) ∈ LENS; decide) ?_
        rw [show jW false = "and" from rfl] at h1
        walk_at "go"
        rw [decide_eq_true (by omega : ((us.length : Nat) : Int) ≤ 40)]
        exact q _ Ex.refl
      · refine head a "or" _ h1 (by show (("or" : Str), (2 : Int)) ∈ LENS; decide) ?_
        rw [show jW true = "or" from rfl] at h1
        walk_at "go"
        rw [decide_eq_true (by omega : ((us.length : Nat) : Int) ≤ 40)]
        exact q _ Ex.refl
    | quant sg vs g =>
      obtain ⟨a, b, u, rfl, h1, h2, h3⟩ := hF
      simp only [WF] at hw
      obtain ⟨n1, n2, n3, n4⟩ := id hw.1
      cases sg
      · refine head a "all" _ h1 (by show (("all" : Str), (3 : Int)) ∈ LENS; decide) ?_
        rw [show qW false = "all" from rfl] at h1
        walk_at "go"
        refine ee_call DV rfl (hr.mono (by omega)) ?_
        walk_at "ge"
        exact vars b vs 1 6 h2 hw.1 (by omega) (by omega) _ fun H' e => q _ e
      · refine head a "some" _ h1 (by show (("some" : Str), (3 : Int)) ∈ LENS; decide) ?_
        rw [show qW true = "some" from rfl] at h1
        walk_at "go"
        refine ee_call DV rfl (hr.mono (by omega)) ?_
        walk_at "ge"
        exact vars b vs 1 6 h2 hw.1 (by omega) (by omega) _ fun H' e => q _ e
    | fix l nm vs g args =>
      obtain ⟨a, b, c, u, rfl, h1, h2, h3, h4⟩ := hF
      have hwx : VsOk (· ∈ VR) vs ∧ nm ∈ NR ∧ args.length = vs.length ∧ ∀ x ∈ args, x ∈ VR := by
        cases l
        · simp only [WF] at hw; exact ⟨hw.1, hw.2.1, hw.2.2.1, hw.2.2.2.1⟩
        · simp only [WF] at hw; exact ⟨hw.1, hw.2.1, hw.2.2.1, hw.2.2.2.1⟩
      obtain ⟨hv, hn, hal, hav⟩ := hwx
      obtain ⟨n1, n2, n3, n4⟩ := id hv
      cases l
      all_goals
        first | refine head a "pfp" _ h1 (by show (("pfp" : Str), (5 : Int)) ∈ LENS; decide) ?_ | refine head a "lfp" _ h1 (by show (("lfp" : Str), (5 : Int)) ∈ LENS; decide) ?_
        first | rw [show fW true = "lfp" from rfl] at h1 | rw [show fW false = "pfp" from rfl] at h1
        walk_at "go"
        refine ee_call DI rfl (hr.mono (by omega)) ?_
        walk_at "ge"
        refine ⟨nm, rfl, nr_nm hn, ?_⟩
        walk_at "ge"
        refine ee_call DV rfl (hr.mono (by omega)) ?_
        walk_at "ge"
        refine vars b vs 1 6 h2 hv (by omega) (by omega) _ fun H1 e1 => ?_
        have h1' := e1.t h1
        have h2' := e1.t h2
        have h4' := e1.t h4
        walk_at "go"
        refine ee_call DN rfl (hr.mono (by omega)) ?_
        walk_at "ge"
        refine ⟨c, args, _, _, rfl, h4', by rw [List.length_map]; omega, by rw [List.length_map]; omega, fun x hx => vr_nm (hav x hx), q _ e1⟩
    | tc vs g args =>
      obtain ⟨a, b, c, u, rfl, h1, h2, h3, h4⟩ := hF
      simp only [WF] at hw
      obtain ⟨hv, hl2, ha2, hav, _⟩ := hw
      obtain ⟨n1, n2, n3, n4⟩ := id hv
      refine head a "tc" _ h1 (by show (("tc" : Str), (4 : Int)) ∈ LENS; decide) ?_
      walk_at "go"
      refine ee_call DV rfl (hr.mono (by omega)) ?_
      walk_at "ge"
      refine vars b vs 2 8 h2 hv (by omega) (by omega) _ fun H1 e1 => ?_
      have h1' := e1.t h1
      have h2' := e1.t h2
      have h4' := e1.t h4
      walk_at "ge"
      rw [List.length_map, hl2]
      refine oo_mod (by decide) ?_
      walk_at "go"
      refine ee_call DN rfl (hr.mono (by omega)) ?_
      walk_at "ge"
      exact ⟨c, args, _, _, rfl, h4', by rw [List.length_map]; omega, by rw [List.length_map]; omega, fun x hx => vr_nm (hav x hx), q _ e1⟩
    | guess nm k g =>
      obtain ⟨a, u, rfl, h1, h2⟩ := hF
      simp only [WF] at hw
      refine head a "guess" _ h1 (by show (("guess" : Str), (4 : Int)) ∈ LENS; decide) ?_
      walk_at "go"
      refine ee_call DI rfl (hr.mono (by omega)) ?_
      walk_at "ge"
      refine ⟨nm, rfl, nr_nm hw.1, true, rfl, iteT ?_⟩
      walk_at "go"
      refine ee_call DB rfl (hr.mono (by omega)) ?_
      walk_at "ge"
      refine ⟨k, 3 + 1, rfl, ?_⟩
      rw [decide_eq_true (by omega : (0 : Int) ≤ (k : Int) ∧ (k : Int) < 3 + 1)]
      exact q _ Ex.refl
end
end Sy
namespace Sy
section
variable {X : Cx} {σ : L2.St} {H : Hp} {Q : VK} {D : Ends} {o e g : Expr} {apos pos tpos : Pos} {f : Str}
theorem s_fldaug (h : EE X o σ H fun x H1 => ∃ a C dx fs v, x = .ref a ∧ H1 a = some (.ins C dx fs) ∧ Cls X.K C ∧ NoAttr X.K C f ∧ fs.lookup f = some v ∧
    EE X e σ H1 fun y H2 => ∃ i j, v = .int i ∧ y = .int j ∧ ∃ dx' fs', H2 a = some (.ins C dx' fs') ∧ fs'.length < 1000 ∧ D.nx σ (upd H2 a (.ins C dx' (putF f (.int (i + j)) fs')))) : S1 X (.AugAssign (.Attribute o f tpos) .Add e pos) D σ H := s1_of (ps_fldaug EE.pe EE.pe in_add) h
theorem ee_setdef (h : EE X o σ H fun x H1 => ∃ a, x = .ref a ∧ IsD H1 a ∧ EE X e σ H1 fun y H2 => EE X g σ H2 fun z H3 => ∃ (kvs : List (L2.Key × V)) (k : L2.Key), H3 a = some (.dK kvs) ∧ y = kV k ∧ kvs.length < sizeLine ∧
    (∀ v, valV kvs k = some v → Q v H3) ∧ (valV kvs k = none → Q z (upd H3 a (.dK (putK kvs k z)))))
    (hbase : attributeBase o "setdefault" X.env (eval o X.env) = eval o X.env := by rfl)
    (hfew : ((backTo pos (starEach [e, g] X.env)).all (fun x => !x.1) && (backToKw pos (keywordEach [] X.env)).all (fun x => x.1.isSome)
      && decide (([e, g] : List Expr).length + ([] : List Keyword).length + (if ([] : List Keyword).isEmpty then 0 else 1) < 30)) = true := by rfl)
    (hline : (apos.endLine == pos.line) = true := by rfl) (htr : backTo pos (starEach [e, g] X.env) = [(false, eval e X.env), (false, eval g X.env)] := by rfl) :
    EE X (.Call (.Attribute o "setdefault" apos) [e, g] [] pos) σ H Q := ee_of (pe_dsetd EE.pe EE.pe EE.pe ⟨hbase, hfew, hline, htr⟩) h
end
/-- what is known of the class Look -/
structure CLk (K : PySem.W.Frag) (Cl : Addr) : Prop where
  cls : Cls K Cl
  count : NoAttr K Cl "count"
  found : NoAttr K Cl "found"
def LkAt (Cl : Addr) (H : Hp) (a F : Addr) (c : Int) (kvs : List (L2.Key × V)) : Prop := ∃ dx, H a = some (.ins Cl dx [("count", .int c), ("found", .ref F)]) ∧ H F = some (.dK kvs)
def FdOk (kvs : List (L2.Key × V)) : Prop := KeyOk kvs ∧ ∀ nm v, valV kvs (.inr nm) = some v → ∃ k : Nat, (nm, k) ∈ SIG ∧ v = .int k
def BdOk (Γ : Gm) (bk : List (L2.Key × V)) : Prop := KeyOk bk ∧ ∀ t ∈ Γ, valV bk (.inr t.1) = some (.int t.2.1) ∨ (valV bk (.inr t.1) = none ∧ (t.1, t.2.1) ∈ SIG)
/-- all but two things stay -/
def Kp (a F : Addr) (H H' : Hp) : Prop := ∀ b o, b ≠ a → b ≠ F → NotDraw o → H b = some o → H' b = some o
theorem Kp.trans {a F : Addr} {H H1 H2 : Hp} (h : Kp a F H H1) (h' : Kp a F H1 H2) : Kp a F H H2 := fun b o h1 h2 n e => h' b o h1 h2 n (h b o h1 h2 n e)
theorem LkAt.ne {Cl : Addr} {H : Hp} {a F : Addr} {c : Int} {kvs : List (L2.Key × V)} (h : LkAt Cl H a F c kvs) {b : Addr} {o : HO} (hb : H b = some o) (n1 : ∀ C dx fs, o ≠ .ins C dx fs) : b ≠ a := fun z => by
  obtain ⟨dx, h1, _⟩ := h
  rw [z, h1] at hb; exact n1 _ _ _ (Option.some.inj hb).symm
theorem Kp.tex {Cl : Addr} {H H' : Hp} {a F : Addr} {c : Int} {kvs : List (L2.Key × V)} (k : Kp a F H H') (h : LkAt Cl H a F c kvs) : TEx H H' := by
  obtain ⟨dx, h1, h2⟩ := id h
  refine ⟨fun b xs hb => k b _ (h.ne hb fun _ _ _ z => nomatch z) (fun z => ?_) nd_tup hb, fun b o u hb => k b _ (h.ne hb fun _ _ _ z => nomatch z) (fun z => ?_) nd_frz hb⟩
  · rw [z, h2] at hb; cases hb
  · rw [z, h2] at hb; cases hb
/-- a look that began at Hs, behind H0 -/
structure LSt (K : PySem.W.Frag) (Cl : Addr) (H0 Hs : Hp) (a F : Addr) (c : Int) (kvs : List (L2.Key × V)) (H : Hp) : Prop where
  ex : Ex K H0 H
  kp : Kp a F Hs H
  at_ : LkAt Cl H a F c kvs
theorem LSt.step {K : PySem.W.Frag} {Cl : Addr} {H0 Hs H H' : Hp} {a F : Addr} {c : Int} {kvs : List (L2.Key × V)} (s : LSt K Cl H0 Hs a F c kvs H) (e : Ex K H H') : LSt K Cl H0 Hs a F c kvs H' :=
  ⟨s.ex.trans e, fun b o h1 h2 n h => e.keep b o n (s.kp b o h1 h2 n h), let ⟨dx, h1, h2⟩ := s.at_; ⟨dx, e.keep _ _ nd_ins h1, e.keep _ _ nd_dK h2⟩⟩
theorem oname_nm {φ : F} {Γ : Gm} {nm : Str} {k : Nat} (h : WF (· ∈ VR) (· ∈ NR) Γ φ) (e : oname φ = some (nm, k)) : nm ∈ NM := by
  cases φ with
  | fix l nm' vs f args =>
    simp only [oname, Option.some.injEq, Prod.mk.injEq] at e
    obtain ⟨rfl, _⟩ := e
    cases l <;> (simp only [WF] at h; exact nr_nm h.2.1)
  | guess nm' k' f =>
    simp only [oname, Option.some.injEq, Prod.mk.injEq] at e
    obtain ⟨rfl, _⟩ := e
    simp only [WF] at h; exact nr_nm h.1
  | _ => simp only [oname] at e; cases e
theorem bd_within {Γ : Gm} {bk : List (L2.Key × V)} {nm : Str} {k m : Nat} (h : BdOk Γ bk) (hn : nm ∈ NM) : BdOk (within Γ nm k m) (putK bk (.inr nm) (.int k)) := by
  refine ⟨h.1.put hn, fun t ht => ?_⟩
  rcases mem_within.mp ht with ⟨h1, h2⟩ | rfl
  · rw [valV_put, if_neg (fun z => h2 (Sum.inr.inj z))]
    exact h.2 t h1
  · exact .inl (by rw [valV_put, if_pos rfl])
theorem bd_turned {Γ : Gm} {bk : List (L2.Key × V)} (h : BdOk Γ bk) : BdOk (turned Γ) bk := ⟨h.1, fun t ht => let ⟨m, h1, _⟩ := mem_turned.mp ht; h.2 (t.1, t.2.1, m) h1⟩
theorem bd_barred {Γ : Gm} {bk : List (L2.Key × V)} (h : BdOk Γ bk) : BdOk (barred Γ) bk := ⟨h.1, fun t ht => let ⟨m, h1, _⟩ := mem_barred.mp ht; h.2 (t.1, t.2.1, m) h1⟩
theorem bd_put {φ : F} {Γ : Gm} {bk : List (L2.Key × V)} {nm : Str} {k : Nat} (h : BdOk Γ bk) (e : oname φ = some (nm, k)) (hn : nm ∈ NM) : BdOk (sub Γ φ) (putK bk (.inr nm) (.int k)) := by
  cases φ with
  | fix l nm' vs f args =>
    simp only [oname, Option.some.injEq, Prod.mk.injEq] at e
    obtain ⟨rfl, rfl⟩ := e
    cases l
    · exact bd_within (bd_barred h) hn
    · exact bd_within h hn
  | guess nm' k' f =>
    simp only [oname, Option.some.injEq, Prod.mk.injEq] at e
    obtain ⟨rfl, rfl⟩ := e
    exact bd_within h hn
  | _ => simp only [oname] at e; cases e
theorem bd_same {φ : F} {Γ : Gm} {bk : List (L2.Key × V)} (h : BdOk Γ bk) (e : oname φ = none) : BdOk (sub Γ φ) bk := by
  cases φ with
  | not f => exact bd_turned h
  | fix l nm' vs f args => simp only [oname] at e; cases e
  | guess nm' k' f => simp only [oname] at e; cases e
  | _ => exact h
section
variable {w : World} {K : PySem.W.Frag} {mg : Str → Option Value} {base : Heap} {Cl : Addr}
def spLInit (K : PySem.W.Frag) (Cl : Addr) : Sp := fun vs H Q _ => ∃ x dx, vs = [.ref x] ∧ H x = some (.ins Cl dx []) ∧ ∀ F H', (∀ H0, Ex K H0 H → H0 x = none → Ex K H0 H' ∧ H0 F = none) → F ≠ x → LkAt Cl H' x F 0 [] → Q .non H'
theorem dk_look (T : TopK K mg "Look" Cl "Look.__init__" s_Look_init) (CL : CLk K Cl) : Dk w K mg base "Look" Cl 1 (spLInit K Cl) := by
  refine T.dk sc_Look_init (fun vs H Q E h => ?_) (fun _ _ _ _ _ _ us hl => match us, hl with | [_], _ => rfl) (fun f cd A outer s H vs Q E hr h => ?_)
  · obtain ⟨x, dx, rfl, _⟩ := h; rfl
  · obtain ⟨x, dx, rfl, hx, q⟩ := h
    refine ss_cons (s_fld (ee_int ?_))
    walk_at "ge"
    refine ⟨x, Cl, dx, [], rfl, hx, CL.cls, CL.count, by decide, ?_⟩
    refine ss_cons (s_fld (ee_dnewK fun F hF => ?_))
    have hFx : F ≠ x := fun z => by rw [z, upd_same] at hF; cases hF
    walk_at "ge"
    refine ⟨x, Cl, dx, [("count", .int 0)], rfl, by rw [upd_ne (Ne.symm hFx)]; exact upd_same, CL.cls, CL.found, by simp, ?_⟩
    refine ss_nil ?_
    refine q F _ (fun H0 e0 h0 => ⟨((e0.mut h0).trans (Ex.new hF)).mut h0, ?_⟩) hFx ⟨dx, upd_same, ?_⟩
    · exact (e0.mut h0).there _ hF
    · rw [upd_ne hFx]; exact upd_same
def spLRel (K : PySem.W.Frag) (Cl : Addr) : Sp := fun vs H Q _ => ∃ a nm B F c kvs bk Γ m, ∃ k : Nat, ∃ H0 Hs, vs = [.ref a, .str nm, .int k, .ref B] ∧ LSt K Cl H0 Hs a F c kvs H ∧ H0 a = none ∧ H0 F = none ∧ FdOk kvs ∧ H B = some (.dK bk) ∧ BdOk Γ bk ∧ (nm, k, m) ∈ Γ ∧
  ∀ H' kvs', LSt K Cl H0 Hs a F c kvs' H' → Kp a F H H' → FdOk kvs' → Q .non H'
theorem sig_uniq {nm : Str} {k k' : Nat} (h : (nm, k) ∈ SIG) (h' : (nm, k') ∈ SIG) : k = k' := by
  unfold SIG at h h'
  simp only [List.mem_cons, List.not_mem_nil, or_false, Prod.mk.injEq] at h h'
  rcases h with ⟨rfl, rfl⟩ | ⟨rfl, rfl⟩ | ⟨rfl, rfl⟩ <;> rcases h' with ⟨e, rfl⟩ | ⟨e, rfl⟩ | ⟨e, rfl⟩ <;> first | rfl | (revert e; decide)
theorem sig_nm {nm : Str} {k : Nat} (h : (nm, k) ∈ SIG) : nm ∈ NM := by
  unfold SIG at h
  simp only [List.mem_cons, List.not_mem_nil, or_false, Prod.mk.injEq] at h
  rcases h with ⟨rfl, rfl⟩ | ⟨rfl, rfl⟩ | ⟨rfl, rfl⟩ <;> decide
theorem dm_rel (T : TopM K Cl "rel" "Look.rel" s_Look_rel) (CL : CLk K Cl) : Dm w K mg base Cl "rel" 1 (spLRel K Cl) := by
  refine T.dm sc_Look_rel (fun vs H Q E h => ?_) (fun _ _ _ _ _ _ us hl => match us, hl with | [_, _, _, _], _ => rfl) (fun f cd A outer s H vs Q E hr h => ?_)
  · obtain ⟨a, nm, B, F, c, kvs, bk, Γ, m, k, H0, Hs, rfl, _⟩ := h; rfl
  · obtain ⟨a, nm, B, F, c, kvs, bk, Γ, m, k, H0, Hs, rfl, ls, ha0, hF0, hfd, hB, hbd, hΓ, q⟩ := h
    obtain ⟨dx, ha, hF⟩ := ls.at_
    have hg : DGet H B (.str nm) (valV bk (.inr nm)) := DGet.k (k := .inr nm) hB
    refine ss_cons (s_if (bb_din (u1 hr) (ee_var 1 rfl (ee_var 3 rfl ⟨B, _, rfl, hg, ?_⟩))))
    rcases hbd.2 _ hΓ with hv | ⟨hv, hs⟩
    · rw [hv] at hg ⊢
      refine if_t rfl ?_
      refine ss_cons (s_if (bb_cmp (ee_dget (u1 hr) (ee_var 3 rfl (ee_var 1 rfl ⟨B, _, rfl, hg, ee_var 2 rfl (oo_nei ?_)⟩)))))
      refine bq ?_
      refine if_f (by simp) (ss_nil (ss_nil (ss_nil ?_)))
      exact q H kvs ls (fun b o _ _ _ h => h) hfd
    · rw [hv] at hg ⊢
      refine if_f rfl ?_
      refine ss_cons (s_if (bb_cmp (ee_setdef (ee_fld ?_))))
      walk_at "ge"
      refine ⟨a, Cl, dx, _, _, rfl, ha, CL.cls, CL.found, rfl, F, rfl, .inl ⟨_, .inl hF⟩, ?_⟩
      refine ee_var 1 rfl (ee_var 2 rfl ⟨kvs, .inr nm, hF, rfl, by have := hfd.1.len; rw [sizeLine_eq]; omega, fun v hvv => ?_, fun hnone => ?_⟩)
      · obtain ⟨k', hk', rfl⟩ := hfd.2 nm v hvv
        obtain rfl := sig_uniq hk' hs
        refine ee_var 2 rfl (oo_nei ?_)
        refine bq ?_
        refine if_f (by simp) (ss_nil (ss_nil (ss_nil ?_)))
        exact q H kvs ls (fun b o _ _ _ h => h) hfd
      · refine ee_var 2 rfl (oo_nei ?_)
        refine bq ?_
        refine if_f (by simp) (ss_nil (ss_nil (ss_nil ?_)))
        have hFa : a ≠ F := ne_of ha hF (fun z => nomatch z)
        refine q _ _ ⟨ls.ex.mut hF0, fun b o h1 h2 n h => by rw [upd_ne h2]; exact ls.kp b o h1 h2 n h, dx, by rw [upd_ne hFa]; exact ha, upd_same⟩ (fun b o h1 h2 n h => by rw [upd_ne h2]; exact h) ⟨hfd.1.put (sig_nm hs), fun nm' v hv' => ?_⟩
        rw [valV_put] at hv'
        by_cases e : (Sum.inr nm' : L2.Key) = .inr nm
        · rw [if_pos e] at hv'
          have := Sum.inr.inj e
          subst this
          exact ⟨k, hs, (Option.some.inj hv').symm⟩
        · rw [if_neg e] at hv'
          exact hfd.2 nm' v hv'
end
end Sy
namespace Sy
theorem partss_append : ∀ (xs ys : List F), partss (xs ++ ys) = partss xs + partss ys
  | [], ys => by simp [partss]
  | x :: xs, ys => by simp [partss, partss_append xs ys]; omega
theorem partss_take {fs : List F} {i : Nat} {g : F} (h : fs[i]? = some g) : partss (fs.take (i + 1)) = partss (fs.take i) + parts g := by
  rw [take_succ_snoc h, partss_append]; simp [partss]
theorem partss_take_le : ∀ (fs : List F) (i : Nat), partss (fs.take i) ≤ partss fs
  | [], i => by simp
  | f :: fs, 0 => by simp [partss]
  | f :: fs, i + 1 => by simp [partss]; exact partss_take_le fs i
section
variable {w : World} {K : PySem.W.Frag} {mg : Str → Option Value} {base : Heap} {Cl : Addr}
theorem LSt.tex {H0 Hs H : Hp} {a F : Addr} {c c' : Int} {kvs kvs' : List (L2.Key × V)} (s : LSt K Cl H0 Hs a F c kvs H) (h : LkAt Cl Hs a F c' kvs') : TEx Hs H := s.kp.tex h
def spGo (K : PySem.W.Frag) (Cl : Addr) (d : Nat) : Sp := fun vs H Q _ => ∃ a v B F φ c kvs bk Γ H0, ∃ dp : Int, vs = [.ref a, v, .ref B, .int dp] ∧ Ex K H0 H ∧ LkAt Cl H a F c kvs ∧ H0 a = none ∧ H0 F = none ∧ FdOk kvs ∧ H B = some (.dK bk) ∧ B ≠ F ∧ BdOk Γ bk ∧
  FmAt K H φ v ∧ depth φ ≤ d ∧ WF (· ∈ VR) (· ∈ NR) Γ φ ∧ GamOk (· ∈ NR) Γ ∧ 0 ≤ c ∧ c + parts φ ≤ 2000 ∧ dp + d ≤ 40 ∧
  ∀ H' kvs', LSt K Cl H0 H a F (c + parts φ) kvs' H' → FdOk kvs' → Q .non H'
theorem dm_go (T : TopM K Cl "go" "Look.go" s_Look_go) (G : Gs K mg) (CL : CLk K Cl) (DW : Dn w K mg base "is_well_made" 4 (spWell K)) (DR : Dm w K mg base Cl "rel" 1 (spLRel K Cl)) (DO : Dn w K mg base "own_name" 1 (spOName K)) (DI : Dn w K mg base "inner" 1 (spInner K))
    (DA : ∀ d, Dn w K mg base "agrees" (d + 2) (spAgr K d)) : ∀ d, Dm w K mg base Cl "go" (d + 5) (spGo K Cl d)
  | 0 => by
    refine T.dm sc_Look_go (fun vs H Q E h => ?_) (fun _ _ _ _ _ _ us hl => match us, hl with | [_, _, _, _], _ => rfl) (fun f cd A outer s H vs Q E hr h => ?_)
    · obtain ⟨a, v, B, F, φ, c, kvs, bk, Γ, H0, dp, rfl, _⟩ := h; rfl
    · obtain ⟨a, v, B, F, φ, c, kvs, bk, Γ, H0, dp, rfl, _, _, _, _, _, _, _, _, _, hd, _⟩ := h
      have := depth_pos φ; omega
  | d + 1 => by
    have ih := dm_go T G CL DW DR DO DI DA d
    refine T.dm sc_Look_go (fun vs H Q E h => ?_) (fun _ _ _ _ _ _ us hl => match us, hl with | [_, _, _, _], _ => rfl) (fun f cd A outer s H vs Q E hr h => ?_)
    · obtain ⟨a, v, B, F, φ, c, kvs, bk, Γ, H0, dp, rfl, _⟩ := h; rfl
    · obtain ⟨a, v, B, F, φ, c, kvs, bk, Γ, H0, dp, rfl, e0, hlk, ha0, hF0, hfd, hB, hBF, hbd, hFm, hd, hw, hg, hc0, hcl, hdp, q⟩ := h
      obtain ⟨t1, hMO⟩ := G.c_MOST_syntax
      obtain ⟨t2, hDE⟩ := G.c_DEEPEST
      obtain ⟨dx, ha, hF⟩ := id hlk
      have hpk := parts_kids φ
      have hBa : B ≠ a := hlk.ne hB (fun _ _ _ z => nomatch z)
      have hFa : F ≠ a := hlk.ne hF (fun _ _ _ z => nomatch z)
      obtain ⟨ta, tus, rfl, htu⟩ := fmAt_tup hFm
      -- count
      refine ss_cons (s_fldaug (ee_var 0 rfl ⟨a, Cl, dx, _, _, rfl, ha, CL.cls, CL.count, rfl, ee_int ⟨c, 1, rfl, rfl, dx, _, ha, by simp, ?_⟩⟩))
      have ls1 : LSt K Cl H0 H a F (c + 1) kvs (upd H a (.ins Cl dx [("count", .int (c + 1)), ("found", .ref F)])) :=
        ⟨e0.mut ha0, fun b o h1 h2 n h => by rw [upd_ne h1]; exact h, dx, upd_same, by rw [upd_ne hFa]; exact hF⟩
      have hB1 : (upd H a (.ins Cl dx [("count", .int (c + 1)), ("found", .ref F)])) B = some (.dK bk) := by rw [upd_ne hBa]; exact hB
      rw [show putF "count" (V.int (c + 1)) ([("count", V.int c), ("found", V.ref F)] : List (Str × V)) = ([("count", V.int (c + 1)), ("found", V.ref F)] : List (Str × V)) from rfl]
      generalize (upd H a (.ins Cl dx [("count", .int (c + 1)), ("found", .ref F)])) = H1 at *
      obtain ⟨dx1, ha1, hF1⟩ := id ls1.at_
      refine ss_cons (s_if (bb_bw (bw_or (bb_cmp (ee_fld ?_)))))
      walk_at "ge"
      refine ⟨a, Cl, dx1, _, _, rfl, ha1, CL.cls, CL.count, rfl, ?_⟩
      refine ee_glob (v := .int _) (u := .int _ _) hMO ⟨_, rfl⟩ (oo_gt ?_)
      refine bq (if_f (decide_eq_false (by omega)) ?_)
      refine bw_or1 (bb_cmp (ee_var 3 rfl (ee_glob (v := .int _) (u := .int _ _) hDE ⟨_, rfl⟩ (oo_gt ?_))))
      have hdpos := depth_pos φ
      refine bq (if_f (decide_eq_false (by omega)) (ss_nil ?_))
      -- well made
      refine ss_cons (s_if (bb_not (bb_val ?_)))
      refine ee_call DW rfl (hr.mono (by omega)) ?_
      walk_at "ge"
      refine ⟨_, φ, rfl, fmAt_mono (ls1.tex hlk) _ _ hFm, ⟨Γ, hg, hw⟩, fun H2 e2 => ?_⟩
      refine bq (if_f rfl (ss_nil ?_))
      have ls2 := ls1.step e2
      have hB2 := e2.keep _ _ nd_dK hB1
      have htx2 := ls2.tex hlk
      have htu2 := htx2.t htu
      -- the tail behind the symbols
      have tail : ∀ (B' : Addr) (bk' : List (L2.Key × V)) (kvs3 : List (L2.Key × V)) (H3 : Hp) (u : L2.V), LSt K Cl H0 H a F (c + 1) kvs3 H3 → FdOk kvs3 → H3 B' = some (.dK bk') → B' ≠ F → BdOk (sub Γ φ) bk' →
          SS (Cxd w K mg base N_Look_go "Look.go" s_Look_go f cd A outer s H E) ((defBody s_Look_go).drop 6) { nx := fun _ H' => Q .non H', rt := Q } [some (.ref a), some (.ref ta), some (.ref B'), some (.int dp), some u, none] H3 := fun B' bk' kvs3 H3 u ls3 hfd3 hB3 hBF' hbd' => by
        have hFm3 := fmAt_mono (ls3.tex hlk) _ _ hFm
        refine ss_cons (s_forT PassesOwn.never rfl (ii_tup ?_))
        refine ee_call DI rfl (hr.mono (by omega)) ?_
        walk_at "ge"
        refine ⟨_, φ, rfl, hFm3, fun H4 b us e4 hb hus => ?_⟩
        refine ⟨b, rfl, ⟨_, hb⟩, ?_⟩
        have ls4 := ls3.step e4
        have hlk4 := ls4.at_
        have husl := fmsAt_get hus
        refine turns_tup us (fun i σ H' => ∃ y kvs5, σ = [some (.ref a), some (.ref ta), some (.ref B'), some (.int dp), some u, y] ∧ LSt K Cl H0 H4 a F (c + 1 + partss ((kids φ).take i)) kvs5 H' ∧ FdOk kvs5)
          ⟨none, kvs3, rfl, ⟨ls4.ex, fun b o _ _ _ h => h, by simpa [partss] using hlk4⟩, hfd3⟩ (fun i σ H' _ ⟨_, _, _, ls5, _⟩ => (ls5.tex hlk4).t hb) ?_ ?_
        · rintro i x σ H' hx ⟨y, kvs5, rfl, ls5, hfd5⟩
          obtain ⟨g, hgi, hgx⟩ := husl.2 i x hx
          have hgk : g ∈ kids φ := List.mem_of_getElem? hgi
          have hpt := partss_take hgi
          have hple := partss_take_le (kids φ) (i + 1)
          have hB5 : H' B' = some (.dK bk') := ls5.kp _ _ (hlk4.ne (e4.keep _ _ nd_dK hB3) (fun _ _ _ z => nomatch z)) hBF' nd_dK (e4.keep _ _ nd_dK hB3)
          refine gg_name 5 ?_ sc_Look_go.nd
          refine ss_cons (s_expr ?_)
          refine ee_meth ih CL.cls rfl hr ?_
          obtain ⟨dx5, ha5, hF5⟩ := id ls5.at_
          refine ee_var 0 rfl ⟨a, dx5, _, rfl, ha5, rfl, ?_⟩
          refine aa_cons (ee_var 5 rfl (aa_cons (ee_var 2 rfl (aa_cons (ee_bin (ee_var 3 rfl (ee_int (oo_add (aa_nil ?_)))))))))
          refine ⟨a, x, B', F, g, _, kvs5, bk', sub Γ φ, H0, dp + 1, rfl, ls5.ex, ls5.at_, ha0, hF0, hfd5, hB5, hBF', hbd', fmAt_mono (ls5.tex hlk4) _ _ hgx, by have := depth_kid hgk; omega, hw.kid hgk, hw.gam hg, by omega, by omega, by omega, fun H6 kvs6 ls6 hfd6 => ?_⟩
          refine ss_nil ⟨_, kvs6, rfl, ⟨ls6.ex, ls5.kp.trans ls6.kp, ?_⟩, hfd6⟩
          have e : c + 1 + ((partss ((kids φ).take (i + 1)) : Nat) : Int) = c + 1 + (partss ((kids φ).take i) : Nat) + (parts g : Nat) := by omega
          rw [e]; exact ls6.at_
        · rintro σ H' ⟨y, kvs5, rfl, ls5, hfd5⟩
          rw [husl.1, List.take_length] at ls5
          have e9 : c + ((parts φ : Nat) : Int) = c + 1 + (partss (kids φ) : Nat) := by omega
          have ls5' : LSt K Cl H0 H a F (c + parts φ) kvs5 H' := ⟨ls5.ex, ls4.kp.trans ls5.kp, by rw [e9]; exact ls5.at_⟩
          have htu5 := (ls5'.tex hlk).t htu
          refine ss_cons (s_if (bb_bw (bw_and (bb_cmp (ee_ix (ee_var 1 rfl (ee_int (ix_t 0 htu5 rfl ?_))))))))
          refine ee_str (oo_eqs ?_)
          refine bq ?_
          refine if_d (fun hlf => ?_) (fun hlf => ?_)
          · obtain ⟨nm, vs, g, args, rfl⟩ : ∃ nm vs g args, φ = .fix true nm vs g args := Classical.byContradiction fun z => word_lfp (fun nm vs g args e => z ⟨nm, vs, g, args, e⟩) hlf
            obtain ⟨a', b1, c1, u1', ea, g1, g2, g3, g4⟩ := hFm
            cases ea
            have g1' := (ls5'.tex hlk).t g1
            refine bw_and1 (bb_not (bb_val ?_))
            refine ee_call (DA d) rfl (hr.mono (by omega)) ?_
            refine aa_cons (ee_ix (ee_var 1 rfl (ee_int (ix_t 3 g1' rfl (aa_cons (ee_ix (ee_var 1 rfl (ee_int (ix_t 1 g1' rfl (aa_cons (ee_bl (aa_nil ?_))))))))))))
            refine ⟨u1', g, nm, true, rfl, fmAt_mono (ls5'.tex hlk) _ _ g3, by simp only [depth] at hd; omega, lfp_agr hw, fun H7 e7 => ?_⟩
            refine bq (if_f rfl (ss_nil (ss_nil ?_)))
            exact q _ _ (ls5'.step e7) hfd5
          · refine if_f rfl (ss_nil (ss_nil ?_))
            exact q _ _ ls5' hfd5
      -- own name
      have mid : ∀ (kvs3 : List (L2.Key × V)) (H3 : Hp), LSt K Cl H0 H a F (c + 1) kvs3 H3 → FdOk kvs3 → H3 B = some (.dK bk) →
          SS (Cxd w K mg base N_Look_go "Look.go" s_Look_go f cd A outer s H E) ((defBody s_Look_go).drop 4) { nx := fun _ H' => Q .non H', rt := Q } [some (.ref a), some (.ref ta), some (.ref B), some (.int dp), none, none] H3 := fun kvs3 H3 ls3 hfd3 hB3 => by
        refine ss_cons (s_set 4 ?_ sc_Look_go.nd)
        refine ee_call DO rfl (hr.mono (by omega)) ?_
        walk_at "ge"
        refine ⟨_, φ, rfl, fmAt_mono (ls3.tex hlk) _ _ hFm, fun H4 u e4 hu => ?_⟩
        have ls4 := ls3.step e4
        have hB4 := e4.keep _ _ nd_dK hB3
        cases hon : oname φ with
        | none =>
          rw [hon] at hu
          obtain rfl : u = .non := hu
          refine ss_cons (s_if (bb_cmp (ee_var 4 rfl (ee_non (oo_notN ?_)))))
          refine bq (if_f rfl (ss_nil ?_))
          exact tail B bk kvs3 H4 _ ls4 hfd3 hB4 hBF (bd_same hbd hon)
        | some p =>
          obtain ⟨nm, k⟩ := p
          rw [hon] at hu
          obtain ⟨ao, rfl, ho⟩ := hu
          refine ss_cons (s_if (bb_cmp (ee_var 4 rfl (ee_non (oo_notN ?_)))))
          refine bq (if_t rfl ?_)
          refine ss_cons (s_set 2 ?_ sc_Look_go.nd)
          refine ee_callTy (x := "dict") G.z_dict bt_dict (aa_cons (ee_var 2 rfl (aa_nil ?_)))
          refine cc_of call_dictD ⟨B, bk, rfl, .inl hB4, fun p hp => ?_⟩
          have e5 : Ex K H4 (upd H4 p (.dK bk)) := Ex.new hp
          have ho5 := e5.t ho
          refine ss_cons (s_dput (u1 hr) (ee_ix (ee_var 4 rfl (ee_int (ix_t 1 ho5 rfl (ee_var 2 rfl (ee_ix (ee_var 4 rfl (ee_int (ix_t 0 ho5 rfl ?_)))))))))) 
          refine ⟨p, _, rfl, DPut.k (kvs := bk) (k := .inr nm) upd_same (by have := hbd.1.len; rw [sizeLine_eq]; omega), ?_⟩
          rw [upd_upd]
          have e6 : Ex K H4 (upd H4 p (.dK (putK bk (.inr nm) (.int k)))) := Ex.new hp
          have hnm := oname_nm hw hon
          refine ss_nil ?_
          have hpF : p ≠ F := fun z => by have := ls4.at_; obtain ⟨_, _, h2⟩ := this; rw [z, h2] at hp; cases hp
          exact tail p _ kvs3 _ _ (ls4.step e6) hfd3 upd_same hpF (bd_put hbd hon hnm)
      refine ss_cons (s_if (bb_cmp (ee_ix (ee_var 1 rfl (ee_int (ix_t 0 htu2 rfl (ee_str (oo_eqs ?_))))))))
      refine bq ?_
      refine if_d (fun hre => ?_) (fun hre => ?_)
      · obtain ⟨nm, args, rfl⟩ : ∃ nm args, φ = .rel nm args := Classical.byContradiction fun z => word_rel (fun nm args e => z ⟨nm, args, e⟩) hre
        obtain ⟨a', b1, ea, g1, g2⟩ := id hFm
        cases ea
        have g1' := htx2.t g1
        have g2' := htx2.t g2
        obtain ⟨dx2, ha2, hF2⟩ := id ls2.at_
        simp only [WF] at hw
        obtain ⟨⟨m, hm1, hΓ⟩, hav⟩ := id hw
        refine ss_cons (s_expr ?_)
        refine ee_meth DR CL.cls rfl (hr.mono (by omega)) ?_
        refine ee_var 0 rfl ⟨a, dx2, _, rfl, ha2, rfl, ?_⟩
        refine aa_cons (ee_ix (ee_var 1 rfl (ee_int (ix_t 1 g1' rfl (aa_cons ?_)))))
        refine ee_callB (x := "len") G.z_len bt_len (aa_cons (ee_ix (ee_var 1 rfl (ee_int (ix_t 2 g1' rfl (aa_nil (cc_lenT g2' (aa_cons (ee_var 2 rfl (aa_nil ?_))))))))))
        rw [List.length_map]
        refine ⟨a, nm, B, F, c + 1, kvs, bk, Γ, m, args.length, H0, H, rfl, ls2, ha0, hF0, hfd, hB2, hbd, hΓ, fun H3 kvs3 ls3 kp3 hfd3 => ?_⟩
        refine ss_nil ?_
        exact mid kvs3 H3 ls3 hfd3 (kp3 _ _ hBa hBF nd_dK hB2)
      · refine ss_nil ?_
        exact mid kvs H2 ls2 hfd hB2
end
end Sy
namespace Sy
theorem g0_ok (m : Nat) : GamOk (· ∈ NR) (G0.take m) := by
  have h : ∀ t ∈ G0.take m, t ∈ G0 := fun t ht => List.mem_of_mem_take ht
  refine ⟨fun nm a m1 a' m1' h1 h2 => ?_, fun t ht => ?_⟩
  · have g1 := h _ h1
    have g2 := h _ h2
    unfold G0 at g1 g2
    simp only [List.mem_cons, List.not_mem_nil, or_false, Prod.mk.injEq] at g1 g2
    rcases g1 with ⟨rfl, rfl, rfl⟩ | ⟨rfl, rfl, rfl⟩ | ⟨rfl, rfl, rfl⟩ <;> rcases g2 with ⟨e, rfl, rfl⟩ | ⟨e, rfl, rfl⟩ | ⟨e, rfl, rfl⟩ <;> first | exact ⟨rfl, rfl⟩ | (revert e; decide)
  · have g1 := h t ht
    unfold G0 at g1
    simp only [List.mem_cons, List.not_mem_nil, or_false] at g1
    rcases g1 with rfl | rfl | rfl
    · exact ⟨by decide, by decide⟩
    · exact ⟨by decide, by decide⟩
    · exact ⟨by decide, by decide⟩
theorem g0_bd (m : Nat) : BdOk (G0.take m) [] := ⟨KeyOk.nil, fun t ht => .inr ⟨rfl, by
  have g1 : t ∈ G0 := List.mem_of_mem_take ht
  unfold G0 at g1
  simp only [List.mem_cons, List.not_mem_nil, or_false] at g1
  rcases g1 with rfl | rfl | rfl <;> decide⟩⟩
/-- a name with its arity -/
def pairD (p : Str × Nat) : PyData := .tuple [.str p.1, .int p.2]
theorem pair_shaped {p : Str × Nat} (h : p ∈ SIG) : SeqAt.shaped (pairD p) = true := by
  unfold SIG at h
  simp only [List.mem_cons, List.not_mem_nil, or_false] at h
  rcases h with rfl | rfl | rfl <;> decide +kernel
theorem pairs_shaped : SeqAt.shaped (.list (SIG.map pairD)) = true := by decide +kernel
theorem pair_in {p : Str × Nat} (h : p ∈ SIG) : ((SIG.map pairD).any fun z => PyData.eqv z (pairD p)) = true := by
  unfold SIG at h
  simp only [List.mem_cons, List.not_mem_nil, or_false] at h
  rcases h with rfl | rfl | rfl <;> decide +kernel
/-- the values of a formula's variables, each below n -/
def ValOk (n : Nat) (val : Str → Int) : Prop := ∀ x ∈ VR, 0 ≤ val x ∧ val x < n
section
variable {w : World} {K : PySem.W.Frag} {mg : Str → Option Value} {base : Heap} {Cl Cs : Addr}
def spLooked (K : PySem.W.Frag) (Cl : Addr) (d : Nat) : Sp := fun vs H Q _ => ∃ v φ m, vs = [v] ∧ FmAt K H φ v ∧ depth φ ≤ d ∧ WF (· ∈ VR) (· ∈ NR) (G0.take m) φ ∧ ∀ H' a F c kvs, Ex K H H' → LkAt Cl H' a F c kvs → FdOk kvs → Q (.ref a) H'
theorem dn_looked (T : Top K mg "looked" s_looked) (CL : CLk K Cl) (DL : Dk w K mg base "Look" Cl 1 (spLInit K Cl)) (d : Nat) (hd4 : d ≤ 4) (DG : Dm w K mg base Cl "go" (d + 5) (spGo K Cl d)) : Dn w K mg base "looked" (d + 6) (spLooked K Cl d) := by
  refine T.dn sc_looked (fun vs H Q E h => ?_) (fun _ _ _ _ _ _ us hl => match us, hl with | [_], _ => rfl) (fun f cd A outer s H vs Q E hr h => ?_)
  · obtain ⟨v, φ, m, rfl, _⟩ := h; rfl
  · obtain ⟨v, φ, m, rfl, hF, hd, hw, q⟩ := h
    refine ss_cons (s_set 1 (ee_make0 DL rfl (hr.mono (by omega)) ?_) sc_looked.nd)
    intro x dx hx hdx hne
    refine ⟨x, dx, rfl, upd_same, fun F H1 hex hFx hlk => ⟨rfl, ?_⟩⟩
    obtain ⟨e1, hF0⟩ := hex H ((Ex.new hdx).mut hx) hx
    obtain ⟨dx1, h1, h2⟩ := id hlk
    refine ss_cons (s_expr ?_)
    refine ee_meth DG CL.cls rfl hr ?_
    refine ee_var 1 rfl ⟨x, dx1, _, rfl, h1, rfl, aa_cons (ee_var 0 rfl (aa_cons (ee_dnewK fun B hB => aa_cons (ee_int (aa_nil ?_)))))⟩
    have e2 : Ex K H1 (upd H1 B (.dK [])) := Ex.new hB
    have hBF : B ≠ F := fun z => by rw [z, h2] at hB; cases hB
    have hp := parts_le d φ _ hw hd
    have h4 : 4 ^ d ≤ 256 := Nat.le_trans (Nat.pow_le_pow_right (by omega) hd4) (by decide)
    refine ⟨x, v, B, F, φ, 0, [], [], G0.take m, H, 1, rfl, e1.trans e2, ⟨dx1, e2.keep _ _ nd_ins h1, e2.keep _ _ nd_dK h2⟩, hx, hF0, ⟨KeyOk.nil, fun nm v h => by cases h⟩, upd_same, hBF, g0_bd m, fmAt_mono (e1.trans e2).tex _ _ hF, hd, hw, g0_ok m, Int.le_refl _, by omega, by omega, fun H3 kvs3 ls3 hfd3 => ?_⟩
    refine ss_cons (s_ret (ee_var 1 rfl ?_))
    exact q H3 x F _ kvs3 ls3.ex ls3.at_ hfd3
def spFree (K : PySem.W.Frag) (d : Nat) : Sp := fun vs H Q _ => ∃ v φ, vs = [v] ∧ FmAt K H φ v ∧ depth φ ≤ d ∧ Wf φ ∧ ∀ H' L, ∀ ys : List Str, Ex K H H' → H' L = some (.lst (ys.map V.str)) → (∀ x ∈ ys, x ∈ VR) → Q (.ref L) H'
theorem oargs_vr {φ : F} (h : Wf φ) : ∀ x ∈ oargs φ, x ∈ VR := by
  obtain ⟨Γ, _, hw⟩ := h
  cases φ with
  | rel nm args => simp only [WF] at hw; exact hw.2
  | eq x y => simp only [WF] at hw; intro z hz; simp only [oargs, List.mem_cons, List.not_mem_nil, or_false] at hz; exact hz.elim (fun e => e ▸ hw.1) (fun e => e ▸ hw.2)
  | less x y => simp only [WF] at hw; intro z hz; simp only [oargs, List.mem_cons, List.not_mem_nil, or_false] at hz; exact hz.elim (fun e => e ▸ hw.1) (fun e => e ▸ hw.2)
  | fix l nm vs f args => cases l <;> (simp only [WF] at hw; exact hw.2.2.2.1)
  | tc vs f args => simp only [WF] at hw; exact hw.2.2.2.1
  | _ => intro z hz; simp [oargs] at hz
theorem oargs_len {φ : F} (h : Wf φ) : (oargs φ).length ≤ 3 := by
  obtain ⟨Γ, hg, hw⟩ := h
  cases φ with
  | rel nm args => simp only [WF] at hw; obtain ⟨⟨m, _, h⟩, _⟩ := hw; exact (hg.nm _ h).2
  | fix l nm vs f args => cases l <;> (simp only [WF] at hw; have := hw.1.2.2.1; have := hw.2.2.1; simp only [oargs]; omega)
  | tc vs f args => simp only [WF] at hw; have := hw.2.2.1; simp only [oargs]; omega
  | _ => simp [oargs]
theorem dn_free_of (T : Top K mg "free_of" s_free_of) (G : Gs K mg) (DA : Dn w K mg base "own_arguments" 1 (spOArgs K)) (DI : Dn w K mg base "inner" 1 (spInner K)) (DV : Dn w K mg base "own_variables" 1 (spOVars K)) : ∀ d, Dn w K mg base "free_of" (d + 2) (spFree K d)
  | 0 => by
    refine T.dn sc_free_of (fun vs H Q E h => ?_) (fun _ _ _ _ _ _ us hl => match us, hl with | [_], _ => rfl) (fun f cd A outer s H vs Q E hr h => ?_)
    · obtain ⟨v, φ, rfl, _⟩ := h; rfl
    · obtain ⟨v, φ, rfl, _, hd, _⟩ := h
      have := depth_pos φ; omega
  | d + 1 => by
    have ih := dn_free_of T G DA DI DV d
    refine T.dn sc_free_of (fun vs H Q E h => ?_) (fun _ _ _ _ _ _ us hl => match us, hl with | [_], _ => rfl) (fun f cd A outer s H vs Q E hr h => ?_)
    · obtain ⟨v, φ, rfl, _⟩ := h; rfl
    · obtain ⟨v, φ, rfl, hF, hd, hw, q⟩ := h
      refine ss_cons (s_set 1 (ee_callTy (x := "set") G.z_set bt_set (aa_cons ?_)) sc_free_of.nd)
      refine ee_call DA rfl (hr.mono (by omega)) ?_
      walk_at "ge"
      refine ⟨v, φ, rfl, hF, fun H1 b e1 hb => ?_⟩
      have hvl := oargs_len hw
      refine aa_nil ?_
      refine cc_setXT rfl hb (by omega) fun p ks hp hks hm => ?_
      have e2 : Ex K H1 (upd H1 p (SetXO P w p ks)) := Ex.new hp
      have hp2 : (upd H1 p (SetXO P w p ks)) p = some (SetXO P w p ks) := upd_same
      have hksv : ∀ x ∈ ks, x ∈ VR := fun x hx => oargs_vr hw x ((hm x).mp hx)
      show SS (Cxd w K mg base N_free_of "free_of" s_free_of f cd A outer s H E) _ _ _ (upd H1 p (SetXO P w p ks))
      generalize (upd H1 p (SetXO P w p ks)) = H2 at *
      have e02 := e1.trans e2
      have hp0 : H p = none := e1.there _ hp
      have k3 : ∀ {ls : List Str}, ls.Nodup → (∀ x ∈ ls, x ∈ VR) → ls.length ≤ 3 := fun h h' => few_of_nodup (d := VR) h h'
      refine ss_cons (s_forT PassesOwn.never rfl (ii_tup ?_))
      refine ee_call DI rfl (hr.mono (by omega)) ?_
      walk_at "ge"
      refine ⟨v, φ, rfl, fmAt_mono e02.tex _ _ hF, fun H3 b2 us e3 hb2 hus => ?_⟩
      refine ⟨b2, rfl, ⟨_, hb2⟩, ?_⟩
      have e03 := e02.trans e3
      refine turns_tup us (fun i σ H' => ∃ y z, ∃ ls : List Str, σ = [some v, some (.ref p), y, z] ∧ Ex K H H' ∧ TEx H3 H' ∧ H' p = some (SetXO P w p ls) ∧ ls.Nodup ∧ ∀ x ∈ ls, x ∈ VR)
        ⟨none, none, ks, rfl, e03, TEx.refl, e3.keep _ _ nd_ext hp2, hks, hksv⟩ (fun i σ H' _ ⟨_, _, _, _, _, e, _⟩ => e.t hb2) ?_ ?_
      · rintro i x σ H' hx ⟨y, z, ls, rfl, e, t, hp', hln, hlv⟩
        obtain ⟨g, hg, hgx⟩ := kids_get hus hx
        refine gg_name 2 ?_ sc_free_of.nd
        refine ss_cons (s_forT PassesOwn.never rfl (ii_list ?_))
        refine ee_call ih rfl hr ?_
        walk_at "ge"
        refine ⟨x, g, rfl, fmAt_mono t _ _ hgx, by have := depth_kid hg; omega, hw.kid hg, fun H4 L ys e4 hL hys => ?_⟩
        refine ⟨L, rfl, ⟨_, SqL.of hL⟩, ?_⟩
        refine turns_list (ys.map V.str) (fun i σ H' => ∃ z, ∃ ls : List Str, σ = [some v, some (.ref p), some x, z] ∧ Ex K H H' ∧ TEx H3 H' ∧ H' L = some (.lst (ys.map V.str)) ∧ H' p = some (SetXO P w p ls) ∧ ls.Nodup ∧ ∀ x ∈ ls, x ∈ VR)
          ⟨z, ls, rfl, e.trans e4, t.trans e4.tex, hL, e4.keep _ _ nd_ext hp', hln, hlv⟩ (fun i σ H' _ ⟨_, _, _, _, _, h, _⟩ => SqL.of h) ?_ ?_
        · rintro j nv σ H5 hnj ⟨z, ls5, rfl, e5, t5, hL5, hp5, hln5, hlv5⟩
          rw [List.getElem?_map] at hnj
          cases hy : ys[j]? with
          | none => rw [hy] at hnj; cases hnj
          | some nm =>
          rw [hy] at hnj
          obtain rfl : L2.V.str nm = nv := Option.some.inj hnj
          have hnv := hys nm (List.mem_of_getElem? hy)
          refine gg_name 3 ?_ sc_free_of.nd
          refine ss_cons (s_if (bb_cmp (ee_var 3 rfl ?_)))
          refine ee_call DV rfl (hr.mono (by omega)) ?_
          walk_at "ge"
          refine ⟨v, φ, rfl, fmAt_mono e5.tex _ _ hF, fun H6 b6 e6 hb6 => ?_⟩
          refine oo_ninT hb6 ?_
          refine bq ?_
          have e56 := e5.trans e6
          have t56 := t5.trans e6.tex
          have hL6 := e6.keep _ _ nd_strs hL5
          have hp6 := e6.keep _ _ nd_ext hp5
          refine if_c (fun _ => ?_) (fun _ => ?_)
          · have hl3 := k3 hln5 hlv5
            refine ss_cons (s_expr (ee_addX (ee_var 1 rfl ⟨p, ls5, rfl, hp6, ee_var 3 rfl ⟨nm, ls5, rfl, hp6, by omega, ?_⟩⟩)))
            refine ss_nil (ss_nil ⟨_, met ls5 nm, rfl, e56.mut hp0, t56.trans (TEx.upd hp6 (fun _ z => nomatch z) (fun _ _ z => nomatch z)), ?_, upd_same, met_nd hln5, fun x hx => ?_⟩)
            · rw [upd_ne (ne_of hL6 hp6 (fun z => nomatch z))]; exact hL6
            · rcases mem_met.mp hx with h | rfl
              · exact hlv5 x h
              · exact hnv
          · exact ss_nil (ss_nil ⟨_, ls5, rfl, e56, t56, hL6, hp6, hln5, hlv5⟩)
        · rintro σ H5 ⟨z, ls5, rfl, e5, t5, hL5, hp5, hln5, hlv5⟩
          exact ss_nil ⟨_, _, ls5, rfl, e5, t5, hp5, hln5, hlv5⟩
      · rintro σ H' ⟨y, z, ls, rfl, e, t, hp', hln, hlv⟩
        have hl3 := k3 hln hlv
        refine ss_cons (s_ret ?_)
        refine ee_callB (x := "sorted") G.z_sorted bt_sorted (aa_cons (ee_var 1 rfl (aa_nil ?_)))
        refine cc_sortedX rfl hp' (by omega) fun L ys hL hyl hym => ?_
        exact q _ L ys (e.trans (Ex.new hL)) upd_same fun x hx => hlv x (hym x hx)
end
end Sy
namespace Sy
/-- a list and a tuple side by side, the items in new pairs -/
def ItN (K : PySem.W.Frag) (a b : Addr) : It :=
  ⟨fun i H => ∃ (xs ys : List V) (x y : V), SqL K H a xs ∧ SqT K H b ys ∧ xs[i]? = some x ∧ ys[i]? = some y,
    fun i H v H' => ∃ T x y, v = .ref T ∧ H T = none ∧ H' = upd H T (.tup [x, y]) ∧ (∀ xs, SqL K H a xs → xs[i]? = some x) ∧ ∀ ys, SqT K H b ys → ys[i]? = some y,
    fun i H => ∃ xs ys : List V, SqL K H a xs ∧ SqT K H b ys ∧ i ≤ xs.length ∧ i ≤ ys.length ∧ (i = xs.length ∨ i = ys.length)⟩
theorem turn_zipN {P : Program} {w : World} {K : PySem.W.Frag} {elts : List Expr} {kk : Nat} {tpos : Pos} {a b n : Nat} (ha : a < n) (hb : b < n) :
    Turn P w K (.Tuple elts kk tpos) (ItN K a b) [n + 4, n + 2, n + 3, n, n + 1] (n + 4) (fun i h => IsZip h (n + 4) (n + 2) (n + 3) .none ∧ IsPair h (n + 2) (.ref n) (.ref (n + 1)) ∧ (∃ x y, IsPair h (n + 3) x y) ∧ h.IsListIter n a i ∧ h.IsTupleIter (n + 1) b i) where
  mem := by simp
  obj := fun i h st c hc => by
    obtain ⟨hz, hTI, ⟨x, y, hTO⟩, ⟨o1, e1, _, d1⟩, ⟨o2, e2, _, d2⟩⟩ := st
    have e' : c = n + 4 ∨ c = n + 2 ∨ c = n + 3 ∨ c = n ∨ c = n + 1 := by simpa using hc
    rcases e' with q | q | q | q | q
    · rw [q]; exact ⟨_, hz, fun v q => nomatch q⟩
    · rw [q]; exact ⟨_, hTI, fun v q => nomatch q⟩
    · rw [q]; exact ⟨_, hTO, fun v q => nomatch q⟩
    · rw [q]; exact ⟨o1, e1, fun v q => by rw [d1] at q; cases q⟩
    · rw [q]; exact ⟨o2, e2, fun v q => by rw [d2] at q; cases q⟩
  keep := fun i h h' st k => by
    obtain ⟨hz, hTI, ⟨x, y, hTO⟩, h1, h2⟩ := st
    exact ⟨k (n + 4) (by simp) _ hz, k (n + 2) (by simp) _ hTI, ⟨x, y, k (n + 3) (by simp) _ hTO⟩, h1.at fun o q => k n (by simp) o q, h2.at fun o q => k (n + 1) (by simp) o q⟩
  item := by
    intro X hP hw hK hc i pins s σ H E I hf st hg
    subst hP hw hK
    obtain ⟨hz, hTI, ⟨x0, y0, hTO⟩, h1, h2⟩ := st
    obtain ⟨xs, ys, x, y, hqx, hqy, hx, hy⟩ := hg
    obtain ⟨its, rv, p, _⟩ := I.list hqx
    obtain ⟨its2, rv2, p2, _⟩ := I.tuple hqy
    obtain ⟨u, hu, ru⟩ := rv.get hx
    obtain ⟨u2, hu2, ru2⟩ := rv2.get hy
    have hh : X.A.in1.handled = none := by simp [I.ok.hd hc]
    have hzl : n + 4 < s.heap.objs.size := Heap.lt_size hz
    have p' : s.heap.IsTuple b its2.toArray := p2
    refine wpAny_pyNext_zipD2_item (sep_of ha hb) (Draws.list hh n a (adn (by omega)) its.toArray) (Draws.tuple hh (n + 1) b (adn (by omega)) its2.toArray) hz hTI hTO ⟨h1, p.isList⟩ ⟨h2, p'⟩
      (by rw [List.size_toArray]; exact (List.getElem?_eq_some_iff.mp hu).1) (by rw [List.size_toArray]; exact (List.getElem?_eq_some_iff.mp hu2).1) fun x1 x2 h' tk q1 q2 z' TO' st1 st2 hT hsz hk => ?_
    have ex1 : u = x1 := by
      have := q1; rw [List.getElem?_toArray, hu] at this; exact Option.some.inj this
    have ex2 : u2 = x2 := by
      have := q2; rw [List.getElem?_toArray, hu2] at this; exact Option.some.inj this
    subst ex1; subst ex2
    refine ⟨_, rfl, wpAny_letOwnedTupleGo_zip (s := { s with heap := h', toks := tk }) z' fun h'' z'' sb => ?_⟩
    have hT2 : h''.get? s.heap.objs.size = some { cls := .type "tuple", data := .seq #[u, u2] } := (sb.2 _ (Nat.ne_of_gt hzl)).trans hT
    have new : ObjOk X.prog X.w (upd H s.heap.objs.size (.tup [x, y])) h'' s.heap.objs.size (.tup [x, y]) :=
      ⟨by show 2 ≤ sizeLine; decide, [u, u2], .cons ru (.cons ru2 .nil), ⟨_, hT2, rfl, _, rfl⟩⟩
    have I1 : Inv X pins σ (upd H s.heap.objs.size (.tup [x, y])) { s with heap := h'', toks := tk } :=
      I.turnedNew (t' := tk) (ch := [n + 4, n + 2, n + 3, n, n + 1]) (fun c o hb q => (sb.2 c (fun q' => hb (by simp [q']))).trans (hk c o (fun q' => hb (by simp [q'])) (fun q' => hb (by simp [q'])) (fun q' => hb (by simp [q'])) (fun q' => hb (by simp [q'])) q)) hf (Nat.le_refl _) new
    refine ⟨.ref s.heap.objs.size, _, I1, rfl, ⟨_, x, y, rfl, I.hok.fresh (Nat.le_refl _), rfl, fun l hl => by rw [I.list_inj hl hqx]; exact hx, fun l hl => by rw [I.tuple_inj hl hqy]; exact hy⟩, ⟨z'', ?_, ⟨u, u2, ?_⟩, ?_, ?_⟩, fun c hcm => ?_⟩
    · exact (sb.2 _ (adn (by omega))).trans (hk _ _ (adn (by omega)) (adn (by omega)) (adn (by omega)) (adn (by omega)) hTI)
    · exact (sb.2 _ (adn (by omega))).trans TO'
    · exact st1.1.at fun o q => (sb.2 _ (adn (by omega))).trans q
    · exact st2.1.at fun o q => (sb.2 _ (adn (by omega))).trans q
    · have hlt : c < s.heap.objs.size := by
        have e' : c = n + 4 ∨ c = n + 2 ∨ c = n + 3 ∨ c = n ∨ c = n + 1 := by simpa using hcm
        rcases e' with q | q | q | q | q
        · rw [q]; exact hzl
        · rw [q]; exact Heap.lt_size hTI
        · rw [q]; exact Heap.lt_size hTO
        · rw [q]; obtain ⟨_, e1, _⟩ := h1; exact Heap.lt_size e1
        · rw [q]; obtain ⟨_, e2, _⟩ := h2; exact Heap.lt_size e2
      rw [upd_ne (Nat.ne_of_lt hlt)]
      exact (hf c hcm).1
  done := by
    intro X hP hw hK hc i pins s σ H E I hf st hg
    subst hP hw hK
    obtain ⟨hz, hTI, ⟨x0, y0, hTO⟩, h1, h2⟩ := st
    obtain ⟨xs, ys, hqx, hqy, hl1, hl2, hend⟩ := hg
    obtain ⟨its, rv, p, _⟩ := I.list hqx
    obtain ⟨its2, rv2, p2, _⟩ := I.tuple hqy
    have l1 := rv.length
    have l2 := rv2.length
    have hh : X.A.in1.handled = none := by simp [I.ok.hd hc]
    have p' : s.heap.IsTuple b its2.toArray := p2
    exact wpAny_pyNext_zipD2_end (sep_of ha hb) (Draws.list hh n a (adn (by omega)) its.toArray) (Draws.tuple hh (n + 1) b (adn (by omega)) its2.toArray) hz hTI hTO ⟨h1, p.isList⟩ ⟨h2, p'⟩
      (by rw [List.size_toArray]; omega) (by rw [List.size_toArray]; omega) (by rw [List.size_toArray, List.size_toArray]; omega) fun h' tk hk => ⟨rfl, I.turnedL (t' := tk) (ch := [n + 4, n + 2, n + 3, n, n + 1]) (fun c o hb q =>
      hk c o (fun q' => hb (by simp [q'])) (fun q' => hb (by simp [q'])) (fun q' => hb (by simp [q'])) (fun q' => hb (by simp [q'])) q) hf⟩
  self := fun A i s Q E st h => wpAny_pyIter_zip st.1 h
abbrev zN1 (h : Heap) (l1 : Addr) : Heap := h.push { cls := .type "list_iterator", data := .fields #[.ref l1, .int 0 0] }
abbrev zN2 (h : Heap) (l1 l2 : Addr) : Heap := (zN1 h l1).push { cls := .type "tuple_iterator", data := .fields #[.ref l2, .int 0 0] }
abbrev zN3 (h : Heap) (l1 l2 : Addr) : Heap := (zN2 h l1 l2).push { cls := .type "tuple", data := .seq #[.ref h.objs.size, .ref (zN1 h l1).objs.size] }
abbrev zN4 (h : Heap) (l1 l2 : Addr) : Heap := (zN3 h l1 l2).push { cls := .type "tuple", data := .seq #[.none, .none] }
abbrev zN5 (h : Heap) (l1 l2 : Addr) : Heap := (zN4 h l1 l2).push { cls := .type "zip", data := .fields #[.none, .bool false, .bool false, .ref (zN2 h l1 l2).objs.size, .ref (zN3 h l1 l2).objs.size] }
theorem meets_zipN (l1 l2 : Addr) (xs ys : Array Value) :
    Meets (Builtin.«zip.__new__» ⟨[.type "zip", .ref l1, .ref l2], []⟩) (fun _ R s => s.heap.IsList l1 xs ∧ s.heap.IsTuple l2 ys ∧
      R (.ok (.ret (.ref (zN4 s.heap l1 l2).objs.size))) { s with heap := zN5 s.heap l1 l2 }) :=
  .of_wp fun prog w A R s h => by
    obtain ⟨hp, g, d, tk, os⟩ := s; obtain ⟨hl1, hl2, h⟩ := h
    have hsub := sub_zip
    have hL1 : Heap.IsList (Shared.heap ⟨hp, g, d, tk, os⟩) l1 xs := hl1
    have hL2 : Heap.IsTuple (Shared.heap ⟨hp.push { cls := .type "list_iterator", data := .fields #[.ref l1, .int 0 0] }, g, d, tk, os⟩) l2 ys := Heap.IsTuple.push hl2 _
    wp_walk using wpAny_pyIter_list hL1, wpAny_pyIter_tuple hL2
    exact ⟨_, rfl, h⟩
theorem call_zipN {prog : Program} {w : World} {A : Around} {E : Value → Shared → Prop} {s : Shared} {l1 l2 : Addr} {xs ys : Array Value} {Q : Value → Shared → Prop} (hl1 : s.heap.IsList l1 xs) (hl2 : s.heap.IsTuple l2 ys)
    (h : ∀ h', IsZip h' (s.heap.objs.size + 4) (s.heap.objs.size + 2) (s.heap.objs.size + 3) .none → IsPair h' (s.heap.objs.size + 2) (.ref s.heap.objs.size) (.ref (s.heap.objs.size + 1)) →
      IsPair h' (s.heap.objs.size + 3) .none .none → h'.IsListIter s.heap.objs.size l1 0 → h'.IsTupleIter (s.heap.objs.size + 1) l2 0 →
      (∀ c o, s.heap.get? c = some o → h'.get? c = some o) → Q (.ref (s.heap.objs.size + 4)) { s with heap := h' }) :
    wpAny (model prog w) A (call (.type "zip") [.ref l1, .ref l2]) Q E s := by
  refine callType_new PySem.F.called_zip (by decide) (PySem.F.typeCall_zip_2 _ _) (PySem.F.newCall_zip_2 _ _) (fun obj => PySem.F.args_object_init_3 obj _ _) PySem.F.entry_zip_new
    (meets_zipN l1 l2 xs ys) ⟨hl1, hl2, ?_⟩
  have z1 : (zN1 s.heap l1).objs.size = s.heap.objs.size + 1 := Heap.size_push ..
  have z2 : (zN2 s.heap l1 l2).objs.size = s.heap.objs.size + 2 := by rw [Heap.size_push, z1]
  have z3 : (zN3 s.heap l1 l2).objs.size = s.heap.objs.size + 3 := by rw [Heap.size_push, z2]
  have z4 : (zN4 s.heap l1 l2).objs.size = s.heap.objs.size + 4 := by rw [Heap.size_push, z3]
  have g5 : (zN5 s.heap l1 l2).get? (zN4 s.heap l1 l2).objs.size = some _ := Heap.get?_push_size _ rfl
  have g4 : (zN5 s.heap l1 l2).get? (zN3 s.heap l1 l2).objs.size = some _ := Heap.get?_push_of_some _ (Heap.get?_push_size _ rfl)
  have g3 : (zN5 s.heap l1 l2).get? (zN2 s.heap l1 l2).objs.size = some _ := Heap.get?_push_of_some _ (Heap.get?_push_of_some _ (Heap.get?_push_size _ rfl))
  have g2 : (zN5 s.heap l1 l2).get? (zN1 s.heap l1).objs.size = some _ := Heap.get?_push_of_some _ (Heap.get?_push_of_some _ (Heap.get?_push_of_some _ (Heap.get?_push_size _ rfl)))
  have g1 : (zN5 s.heap l1 l2).get? s.heap.objs.size = some _ := Heap.get?_push_of_some _ (Heap.get?_push_of_some _ (Heap.get?_push_of_some _ (Heap.get?_push_of_some _ (Heap.get?_push_size _ rfl))))
  rw [z2, z3, z4] at g5
  rw [z1, z2] at g3
  rw [z3] at g4
  rw [z1] at g2
  show _ ∧ _
  rw [z4]
  exact ⟨⟨_, g5, rfl⟩, h _ g5 g3 g4 ⟨_, g1, rfl, rfl⟩ ⟨_, g2, rfl, rfl⟩ fun c o x =>
    Heap.get?_push_of_some _ (Heap.get?_push_of_some _ (Heap.get?_push_of_some _ (Heap.get?_push_of_some _ (Heap.get?_push_of_some _ x))))⟩
section
variable {X : Cx} {σ : L2.St} {H : Hp} {e e2 : Expr} {p pos tpos : Pos} {elts : List Expr} {kk : Nat} {R : It → Hp → Prop}
/-- zip of a list and a tuple -/
theorem ii_zipN (hm : X.mg "zip" = none) (h : AA X [e, e2] σ H fun vs H1 => ∃ a b xs ys, vs = [.ref a, .ref b] ∧ SqL X.K H1 a xs ∧ SqT X.K H1 b ys ∧ R (ItN X.K a b) H1)
    (hg : Gl X "zip" := by rfl) (hs : starEach [e, e2] X.env = (false, eval e X.env) :: starEach [e2] X.env := by rfl) (hpl : (backTo pos (starEach [e2] X.env)).any (·.1) = false := by rfl) :
    II X (.Tuple elts kk tpos) (.Call (.Name "zip" p) [e, e2] [] pos) σ H R := by
  refine ⟨fun pins s I => ?_⟩
  refine Call_ (ld_blt I hg hm PyProof.Rows.boot_zip (PyProof.Rows.callWith_type1 (thn (h.run pos pins s I) fun us s1 ⟨vs, H1, I1, r1, a, b, xs, ys, ex, hqx, hqy, q⟩ => ?_) hs hpl))
  subst ex
  cases r1 with
  | cons r rr =>
    cases rr with
    | cons r' rr =>
      cases rr
      cases r
      cases r'
      have fresh5 : ∀ c, c ∈ [s1.heap.objs.size + 4, s1.heap.objs.size + 2, s1.heap.objs.size + 3, s1.heap.objs.size, s1.heap.objs.size + 1] → FpOk X pins H1 c := fun c hcm => by
        have e' : c = s1.heap.objs.size + 4 ∨ c = s1.heap.objs.size + 2 ∨ c = s1.heap.objs.size + 3 ∨ c = s1.heap.objs.size ∨ c = s1.heap.objs.size + 1 := by simpa using hcm
        have hle : s1.heap.objs.size ≤ c := by
          rcases e' with z | z | z | z | z <;> rw [z] <;> first | exact Nat.le_refl _ | exact Nat.le_add_right _ _
        exact I1.fpOk hle (I1.hok.fresh hle)
      obtain ⟨its, rv, p1, _⟩ := I1.list hqx
      obtain ⟨its2, rv2, p2, _⟩ := I1.tuple hqy
      obtain ⟨o1, ho1, _⟩ := id p2
      refine call_zipN p1.isList (show s1.heap.IsTuple b its2.toArray from p2) fun h' hz hTI hTO h1 h2 hk => wpAny_pyIter_zip hz ?_
      have I2 : Inv X pins σ H1 { s1 with heap := h' } := I1.kept (t' := s1.toks) hk
      exact ⟨s1.heap.objs.size + 4, [s1.heap.objs.size + 4, s1.heap.objs.size + 2, s1.heap.objs.size + 3, s1.heap.objs.size, s1.heap.objs.size + 1], _, _, H1, rfl, I2, turn_zipN p1.lt (Heap.lt_size ho1), ⟨hz, hTI, ⟨_, _, hTO⟩, h1, h2⟩, fresh5, q⟩
end
section
variable {X : Cx} {σ : L2.St} {H : Hp} {D : Ends} {tg : Expr} {body : List Stmt} {a b : Addr}
theorem turns_zipN (xs ys : List V) (hl : xs.length = ys.length) (Pv : Nat → L2.St → Hp → Prop) (h0 : Pv 0 σ H) (hq : ∀ i σ H, Pv i σ H → SqL X.K H a xs ∧ SqT X.K H b ys)
    (hs : ∀ (i : Nat) (x y : V) (T : Addr) (σ : L2.St) (H : Hp), xs[i]? = some x → ys[i]? = some y → Pv i σ H → H T = none → GG X tg (.ref T) σ (upd H T (.tup [x, y])) fun σ2 H2 => SS X body { D with nx := Pv (i + 1), ct := Pv (i + 1), bk := D.nx } σ2 H2) (hd : ∀ σ H, Pv xs.length σ H → D.nx σ H) : Turns X tg body D (ItN X.K a b) σ H := by
  refine ⟨fun i m σ H => m = xs.length - i ∧ i ≤ xs.length ∧ Pv i σ H, ⟨xs.length, rfl, Nat.zero_le _, h0⟩, ?_⟩
  rintro i m σ H ⟨rfl, hi, p⟩
  obtain ⟨qx, qy⟩ := hq i σ H p
  by_cases hlt : i < xs.length
  · have hx : xs[i]? = some xs[i] := List.getElem?_eq_getElem hlt
    have hlt2 : i < ys.length := by omega
    have hy : ys[i]? = some ys[i] := List.getElem?_eq_getElem hlt2
    refine .inr ⟨⟨xs, ys, _, _, qx, qy, hx, hy⟩, Pv (i + 1), fun σ' H' p' => ⟨xs.length - (i + 1), by omega, rfl, hlt, p'⟩, fun v H' y => ?_⟩
    obtain ⟨T, x', y', rfl, hT, rfl, f1, f2⟩ := y
    exact hs i x' y' T σ H (f1 xs qx) (f2 ys qy) p hT
  · have e : i = xs.length := by omega
    subst e
    exact .inl ⟨⟨xs, ys, qx, qy, Nat.le_refl _, by omega, .inl rfl⟩, hd σ H p⟩
end
end Sy
namespace Sy
section
variable {w : World} {K : PySem.W.Frag} {mg : Str → Option Value} {base : Heap} {Cw : Addr}
def spStageL (K : PySem.W.Frag) (Cw : Addr) (d : Nat) : Sp := fun vs H Q _ => ∃ W bd Nm V D NS Γ VS, ∃ n : Nat, ∃ ρ val f xs, vs = [.ref W, bd, .ref Nm, .ref V] ∧ WAt Cw H W n D ∧ RelsAt H D NS ρ ∧ ValsAt H V VS val ∧ (∀ x ∈ VR, VS x ∨ x ∈ xs) ∧ FmAt K H f bd ∧ H Nm = some (.lst (xs.map L2.V.str)) ∧ VsOk (· ∈ VR) xs ∧
  depth f ≤ d ∧ WF (· ∈ VR) (· ∈ NR) Γ f ∧ GamOk (· ∈ NR) Γ ∧ (∀ t ∈ Γ, NS t.1) ∧ 1 ≤ n ∧ n ≤ 4 ∧ lcost n f ≤ 20000 ∧
  ∀ b rs H', Ex K H H' → H' b = some (.dT (RDk rs)) → rs.Nodup → (∀ r, r ∈ rs ↔ IsRow n xs.length r ∧ Sem (n : Int) f ρ (bindR val xs r)) → Q (.ref b) H'
theorem dm_stageL (T : TopM K Cw "stage" "World.stage" s_World_stage) (G : Gs K mg) (CW : CWk K Cw) (DR : Dn w K mg base "rows_of" 1 (spRowsOf K)) (d k : Nat) (hk : 1 ≤ k)
    (DT : Dm w K mg base Cw "true" k (spTr K Cw (fun _ => True) d)) : Dm w K mg base Cw "stage" (k + 1) (spStageL K Cw d) := by
  refine T.dm sc_World_stage (fun vs H Q E h => ?_) (fun _ _ _ _ _ _ us hl => match us, hl with | [_, _, _, _], _ => rfl) (fun f cd A outer s0 H vs Q E hr h => ?_)
  · obtain ⟨W, bd, Nm, V, D, NS, Γ, VS, n, ρ, val, g, xs, rfl, _⟩ := h; rfl
  · obtain ⟨W, bd, Nm, V, D, NS, Γ, VS, n, ρ, val, g, xs, rfl, ⟨dx, hW⟩, hR, hV, hVS, hF, hX, ⟨hnd, hx1, hx3, hxv⟩, hd, hw, hg, hN, n1, n4, hc, q⟩ := h
    refine ss_cons (s_set 4 ?_ sc_World_stage.nd)
    refine ee_callTy (x := "dict") G.z_dict bt_dict ?_
    walk_at "ge"
    obtain ⟨kvs, hk1, hk2, hk3⟩ := id hV
    refine cc_of call_dictD ⟨V, kvs, rfl, .inl hk1, fun p hp => ?_⟩
    refine ss_cons (s_set 5 (ee_dnewT fun fd hfd => ?_) sc_World_stage.nd)
    have e1 : Ex K H (upd H p (.dK kvs)) := Ex.new hp
    have hpf : fd ≠ p := fun z => by rw [z, upd_same] at hfd; cases hfd
    have hfd0 : H fd = none := by rw [upd_ne hpf] at hfd; exact hfd
    have e2 : Ex K H (upd (upd H p (.dK kvs)) fd (.dT [])) := e1.trans (Ex.new hfd)
    have hp2 : (upd (upd H p (.dK kvs)) fd (.dT [])) p = some (.dK kvs) := by rw [upd_ne (Ne.symm hpf)]; exact upd_same
    have hf2 : (upd (upd H p (.dK kvs)) fd (.dT [])) fd = some (.dT (RDk [])) := upd_same
    generalize (upd (upd H p (.dK kvs)) fd (.dT [])) = H2 at *
    refine ss_cons (s_forT PassesOwn.never rfl (ii_list ?_))
    refine ee_call DR rfl (hr.mono (by omega)) ?_
    refine aa_cons (ee_fld ?_)
    walk_at "ge"
    refine ⟨W, Cw, dx, _, _, rfl, e2.keep _ _ nd_ins hW, CW.cls, CW.size, rfl, ?_⟩
    have hX2 := SqL.of (K := K) (e2.keep _ _ nd_strs hX)
    walk_at "ge"
    have hps := pow_small n4 hx3
    refine ⟨n, xs.length, by rw [List.length_map], by omega, by omega, by omega, fun H3 L us e3 _ hL hU => ?_⟩
    refine ⟨L, rfl, ⟨_, SqL.of hL⟩, ?_⟩
    have ndu := nd_allref hU.refs
    have e23 := e2.trans e3
    have hp3 : H3 p = some (.dK kvs) := e3.keep _ _ nd_dK hp2
    have hf3 : H3 fd = some (.dT (RDk [])) := e3.keep _ _ nd_dT hf2
    refine turns_list us (fun i σ H' => ∃ r0 y z rs val', σ = [some (.ref W), some bd, some (.ref Nm), some (.ref V), some (.ref p), some (.ref fd), r0, y, z] ∧ Ex K H H' ∧ H' L = some (.lst us) ∧ RowsAt K H' (rowsL n xs.length) us ∧
      H' fd = some (.dT (RDk rs)) ∧ rs.Nodup ∧ (∀ r, r ∈ rs ↔ r ∈ (rowsL n xs.length).take i ∧ Sem (n : Int) g ρ (bindR val xs r)) ∧ ValsAt H' p VS val' ∧ ∀ y, y ∉ xs → val' y = val y)
      ⟨none, none, none, [], val, rfl, e23, hL, hU, hf3, List.nodup_nil, by simp, ⟨kvs, hp3, hk2, hk3⟩, fun _ _ => rfl⟩ (fun i σ H' _ ⟨_, _, _, _, _, _, _, h, _⟩ => SqL.of h) ?_ ?_
    · rintro i x σ H' hx ⟨r0, y0, z0, rs, val', rfl, e, hL', hU', hf', hrn, hrs, hv', hval'⟩
      obtain ⟨r, hri, hrow⟩ := hU'.2 i x hx
      have hrI : IsRow (n : Int) xs.length r := mem_rowsL.mp (List.mem_of_getElem? hri)
      obtain ⟨pr, rfl, hpr⟩ := id hrow
      refine gg_name 6 ?_ sc_World_stage.nd
      refine ss_cons (s_forT PassesOwn.never rfl (ii_zipN G.z_zip ?_))
      walk_at "ge"
      refine ⟨Nm, pr, _, _, rfl, SqL.of (e.keep _ _ nd_strs hX), SqT.of hpr, ?_⟩
      refine turns_zipN (xs.map L2.V.str) (r.map L2.V.int) (by rw [List.length_map, List.length_map, hrI.1]) (fun j σ H2 => ∃ y z, σ = [some (.ref W), some bd, some (.ref Nm), some (.ref V), some (.ref p), some (.ref fd), some (.ref pr), y, z] ∧ Ex K H H2 ∧ H2 L = some (.lst us) ∧ RowsAt K H2 (rowsL n xs.length) us ∧
        H2 fd = some (.dT (RDk rs)) ∧ H2 pr = some (.tup (r.map L2.V.int)) ∧ ValsAt H2 p (fun y => VS y ∨ y ∈ xs.take j) (bindR val' (xs.take j) (r.take j)))
        ⟨y0, z0, rfl, e, hL', hU', hf', hpr, by simpa [bindR] using hv'⟩ (fun j σ H2 ⟨_, _, _, e, _, _, _, h, _⟩ => ⟨SqL.of (e.keep _ _ nd_strs hX), SqT.of h⟩) ?_ ?_
      · rintro j xv zv Tp σ H2 hxj hzj ⟨y, z, rfl, e4, hL4, hU4, hf4, hpr4, hv4⟩ hTp
        rw [List.getElem?_map] at hxj hzj
        cases hxs : xs[j]? with
        | none => rw [hxs] at hxj; cases hxj
        | some xx =>
        cases hrz : r[j]? with
        | none => rw [hrz] at hzj; cases hzj
        | some zz =>
        rw [hxs] at hxj; rw [hrz] at hzj
        obtain rfl : L2.V.str xx = xv := Option.some.inj hxj
        obtain rfl : L2.V.int zz = zv := Option.some.inj hzj
        have e5 : Ex K H2 (upd H2 Tp (.tup [.str xx, .int zz])) := Ex.new hTp
        have hTT : (upd H2 Tp (.tup [.str xx, .int zz])) Tp = some (.tup [.str xx, .int zz]) := upd_same
        generalize (upd H2 Tp (.tup [.str xx, .int zz])) = H5 at *
        refine gg_tup rfl (SqT.of hTT) ?_ rfl
        refine ggs_cons (gg_name 7 ?_ sc_World_stage.nd)
        refine ggs_cons (gg_name 8 ?_ sc_World_stage.nd)
        refine ggs_nil ?_
        obtain ⟨kv5, g1, g2, g3⟩ := (hv4.mono e5).put (H' := H5) xx zz (vr_nm (hxv xx (List.mem_of_getElem? hxs)))
        refine ss_cons (s_dput (u1 hr) ?_)
        walk_at "ge"
        refine ⟨p, _, rfl, DPut.k (k := .inr xx) g1 g2, ?_⟩
        refine ss_nil ?_
        have e45 := e4.trans e5
        have dne : fd ≠ p := hpf
        refine ⟨_, _, rfl, e45.mut hp, ?_, ?_, ?_, ?_, ?_⟩
        · rw [upd_ne (ne_of (e5.keep _ _ ndu hL4) g1 (fun z => nomatch z))]; exact e5.keep _ _ ndu hL4
        · refine (hU4.mono e5.tex).mono (TEx.upd g1 (fun _ z => nomatch z) (fun _ _ z => nomatch z))
        · rw [upd_ne dne]; exact e5.keep _ _ nd_dT hf4
        · rw [upd_ne (ne_of (e5.tr hpr4) g1 (fun z => nomatch z))]; exact e5.tr hpr4
        · rw [bindR_take hxs hrz]
          refine (g3 _ upd_same).sub fun y hy => ?_
          rcases hy with hy | hy
          · exact .inl (.inl hy)
          · rw [List.take_add_one, hxs] at hy
            rcases List.mem_append.mp hy with hy | hy
            · exact .inl (.inr hy)
            · exact .inr (by simpa using hy)
      · rintro σ H2 ⟨y, z, rfl, e4, hL4, hU4, hf4, hpr4, hv4⟩
        rw [List.length_map, List.take_length, List.take_of_length_le (by rw [hrI.1]; exact Nat.le_refl _), bindR_congr hrI.1.symm hval'] at hv4
        have hvT : ValsAt H2 p (· ∈ VR) (bindR val xs r) := hv4.sub fun x hx => hVS x hx
        refine ss_cons (s_if (bb_val ?_))
        refine ee_meth DT CW.cls rfl hr ?_
        walk_at "ge"
        refine ⟨W, dx, _, rfl, e4.keep _ _ nd_ins hW, rfl, ?_⟩
        walk_at "ge"
        refine ⟨W, p, bd, g, n, ρ, bindR val xs r, rfl, ⟨D, NS, Γ, ⟨dx, e4.keep _ _ nd_ins hW⟩, hR.mono e4, hvT, fmAt_mono e4.tex _ _ hF, hd, hw, hg, hN, n1, n4, hc⟩, trivial, fun bb H6 e6 hb => ?_⟩
        refine bq ?_
        have e46 := e4.trans e6
        have hrow6 : RowAt K H6 r (.ref pr) := ⟨pr, rfl, e6.tr hpr4⟩
        have hL6 := e6.keep _ _ ndu hL4
        have hU6 := hU4.mono e6.tex
        have hf6 := e6.keep _ _ nd_dT hf4
        have hv6 := hv4.mono e6
        have htk : (rowsL n xs.length).take (i + 1) = (rowsL n xs.length).take i ++ [r] := take_succ_snoc hri
        have hvn : ∀ y, y ∉ xs → bindR val xs r y = val y := fun y hy => bindR_notin hy
        cases bb with
        | true =>
          refine if_tt ?_
          have hrl : rs.length ≤ 10000 := by
            have := few_of_nodup hrn fun r hr => List.mem_of_mem_take ((hrs r).mp hr).1
            rw [rowsL_len] at this; omega
          refine ss_cons (s_dput (u1 hr) ?_)
          walk_at "ge"
          refine ⟨fd, _, rfl, dputR hf6 hrow6 hrl, ?_⟩
          refine ss_nil (ss_nil ?_)
          refine ⟨_, _, _, addR rs r, bindR val xs r, rfl, e46.mut hfd0, ?_, ?_, upd_same, addR_nd hrn, fun r' => ?_, ?_, hvn⟩
          · rw [upd_ne (ne_of hL6 hf6 (fun z => nomatch z))]; exact hL6
          · exact hU6.mono (TEx.upd hf6 (fun _ z => nomatch z) (fun _ _ z => nomatch z))
          · rw [mem_addR, hrs r', htk, List.mem_append, List.mem_singleton]
            constructor
            · rintro (⟨a1, a2⟩ | rfl)
              · exact ⟨.inl a1, a2⟩
              · exact ⟨.inr rfl, hb.mp rfl⟩
            · rintro ⟨a1 | rfl, a2⟩
              · exact .inl ⟨a1, a2⟩
              · exact .inr rfl
          · obtain ⟨kv, g1, g2, g3⟩ := hv6
            exact ⟨kv, by rw [upd_ne (Ne.symm hpf)]; exact g1, g2, fun x hx => g3 x (.inl hx)⟩
        | false =>
          refine if_ff ?_
          refine ss_nil (ss_nil ?_)
          refine ⟨_, _, _, rs, bindR val xs r, rfl, e46, hL6, hU6, hf6, hrn, fun r' => ?_, hv6.sub fun x hx => .inl hx, hvn⟩
          rw [hrs r', htk, List.mem_append, List.mem_singleton]
          constructor
          · rintro ⟨a1, a2⟩; exact ⟨.inl a1, a2⟩
          · rintro ⟨a1 | rfl, a2⟩
            · exact ⟨a1, a2⟩
            · have := hb.mpr a2; cases this
    · rintro σ H' ⟨r0, y0, z0, rs, val', rfl, e, hL', hU', hf', hrn, hrs, hv', hval'⟩
      walk_at "go"
      refine q fd rs H' e hf' hrn fun r => ?_
      rw [hrs r, hU'.1, List.take_length, mem_rowsL]
end
end Sy
namespace Sy
theorem u65 {k : Nat} {A : Around} (r : Room k A) : A.units + 65 < cLine := by have := r.un; omega
def PrAt (K : PySem.W.Frag) (H : Hp) (p : Str × Nat) (v : V) : Prop := ∃ a, v = .ref a ∧ SqT K H a [.str p.1, .int p.2]
theorem dpAll_of {α : Type} {K : PySem.W.Frag} {H : Hp} {R : α → V → Prop} (f : α → PyData) (hR : ∀ t u, R t u → Dp K H u (f t)) : ∀ {ts : List α} {us : List V}, LAt R ts us → DpAll K H us (ts.map f)
  | [], [], _ => .nil
  | [], _ :: _, h => by have := h.1; simp at this
  | _ :: _, [], h => by have := h.1; simp at this
  | t :: ts, u :: us, h => by
    obtain ⟨t', h1, h2⟩ := h.2 0 u rfl
    obtain rfl : t = t' := Option.some.inj h1
    exact .cons (hR _ _ h2) (dpAll_of f hR ⟨by simpa using h.1, fun i v hv => h.2 (i + 1) v hv⟩)
theorem dp_pair {K : PySem.W.Frag} {H : Hp} {p : Str × Nat} {v : V} (h : PrAt K H p v) : Dp K H v (pairD p) := by
  obtain ⟨a, rfl, h⟩ := h
  exact .tup h (.cons (.str _) (.cons (.int _) .nil))
theorem keys_inr : ∀ {ks : List L2.Key}, (∀ k ∈ ks, ∃ x, x ∈ NM ∧ k = .inr x) → ∃ xs : List Str, ks = xs.map Sum.inr
  | [], _ => ⟨[], rfl⟩
  | k :: ks, h => by
    obtain ⟨x, _, rfl⟩ := h k (by simp)
    obtain ⟨xs, e⟩ := keys_inr (ks := ks) fun k hk => h k (by simp [hk])
    exact ⟨x :: xs, by rw [e]; rfl⟩
theorem valV_has {kvs : List (L2.Key × V)} {k : L2.Key} (h : k ∈ kvs.map (·.1)) : ∃ v, valV kvs k = some v := by
  have h1 := valV_any k kvs
  have h2 : (kvs.any fun kv => decide (kv.1 = k)) = true := by
    rw [List.any_eq_true]
    obtain ⟨p, h1, h2⟩ := List.mem_map.mp h
    exact ⟨p, h1, decide_eq_true h2⟩
  rw [h2] at h1
  exact Option.isSome_iff_exists.mp h1.symm
section
variable {w : World} {K : PySem.W.Frag} {mg : Str → Option Value} {base : Heap} {Cl Cs Cw : Addr}
def spSymbols (K : PySem.W.Frag) (Cs : Addr) : Sp := fun vs H Q _ => ∃ S n rels, vs = [.ref S] ∧ StAt K Cs H S n rels ∧ WOk n rels ∧ ∀ H' L us, Ex K H H' → H' L = some (.lst us) → LAt (PrAt K H') SIG us → Q (.ref L) H'
theorem dm_symbols (T : TopM K Cs "symbols" "Structure.symbols" s_Structure_symbols) (CS : CSk K Cs) : Dm w K mg base Cs "symbols" 1 (spSymbols K Cs) := by
  refine T.dm sc_Structure_symbols (fun vs H Q E h => ?_) (fun _ _ _ _ _ _ us hl => match us, hl with | [_], _ => rfl) (fun f cd A outer s H vs Q E hr h => ?_)
  · obtain ⟨S, n, rels, rfl, _⟩ := h; rfl
  · obtain ⟨S, n, rels, rfl, ⟨dx, L, us, hS, hL, hU⟩, hw, q⟩ := h
    have ndu := lat_ref hU
    have hl3 : us.length = 3 := by rw [hU.1]; have := congrArg List.length hw.1; rw [List.length_map] at this; exact this
    refine ss_cons (s_ret ?_)
    refine ee_lc [("name", 1), ("arity", 2), ("_", 3)] N_Structure_symbols (defScope s_Structure_symbols) rfl sc_Structure_symbols.nd (ii_list (ee_fld ?_))
    walk_at "ge"
    refine ⟨S, Cs, dx, _, _, rfl, hS, CS.cls, CS.rels, rfl, L, rfl, ⟨_, SqL.of hL⟩, fun R hR => ?_⟩
    refine lt_mapL (K := K) us (fun i y H2 => ∃ p, SIG[i]? = some p ∧ PrAt K H2 p y) (fun i y H H' e ⟨p, h1, a, h2, h3⟩ => ⟨p, h1, a, h2, e.t h3⟩) hR (SqL.of hL) ndu (by omega) (fun ys H h => nd_allref fun x hx => by
      obtain ⟨j, hj⟩ := List.mem_iff_getElem?.mp hx
      obtain ⟨p, _, a, e, _⟩ := h j x hj
      exact ⟨a, e⟩) ?_ ?_
    · rintro i v H5 hx e5 s0 H0 C cl fp
      obtain ⟨t, ht, a, b, vs, rfl, ha, hb, hV⟩ := hU.2 i v hx
      refine gg_tup rfl (e5.t ha) ?_ rfl
      refine ggs_cons (gg_name 1 ?_ sc_Structure_symbols.nd)
      refine ggs_cons (gg_name 2 ?_ sc_Structure_symbols.nd)
      refine ggs_cons (gg_name 3 ?_ sc_Structure_symbols.nd)
      refine ggs_nil ⟨rfl, Ex.refl, ?_⟩
      intro s1 H01 C1 cl1 fp1
      walk_at "ge"
      refine ⟨szk (by simp), fun p2 hp2 => ?_⟩
      refine ⟨Ex.new hp2, (t.1, t.2.1), ?_, p2, rfl, SqT.up⟩
      rw [← hw.1, List.getElem?_map, ht]; rfl
    · intro ys H5 e5 hR5 hlen hys
      exact q _ R ys e5 hR5 ⟨by rw [hlen, hl3]; rfl, hys⟩
def spFit (K : PySem.W.Frag) (Cs : Addr) : Sp := fun vs H Q _ => ∃ F kvs S n rels, vs = [.ref F, .ref S] ∧ H F = some (.dK kvs) ∧ FdOk kvs ∧ StAt K Cs H S n rels ∧ WOk n rels ∧ ∀ H', Ex K H H' → Q .non H'
theorem dn_check_fitting (T : Top K mg "check_fitting" s_check_fitting) (G : Gs K mg) (CS : CSk K Cs) (DS : Dm w K mg base Cs "symbols" 1 (spSymbols K Cs)) : Dn w K mg base "check_fitting" 2 (spFit K Cs) := by
  refine T.dn sc_check_fitting (fun vs H Q E h => ?_) (fun _ _ _ _ _ _ us hl => match us, hl with | [_, _], _ => rfl) (fun f cd A outer s H vs Q E hr h => ?_)
  · obtain ⟨F, kvs, S, n, rels, rfl, _⟩ := h; rfl
  · obtain ⟨F, kvs, S, n, rels, rfl, hF, hfd, hS, hw, q⟩ := h
    obtain ⟨dx, L0, us0, hS1, _⟩ := id hS
    refine ss_cons (s_set 2 ?_ sc_check_fitting.nd)
    refine ee_meth0 DS CS.cls rfl hr ?_
    refine ee_var 1 rfl ⟨S, dx, _, rfl, hS1, rfl, S, n, rels, rfl, hS, hw, fun H1 L us e1 hL hU => ?_⟩
    have ndu : NotDraw (.lst us) := nd_allref fun x hx => by
      obtain ⟨t, _, a, e, _⟩ := hU.mem hx
      exact ⟨a, e⟩
    obtain ⟨ks, hks⟩ := keys_inr hfd.1.2
    have hkl : ks.length ≤ 8 := by have h1 := hfd.1.len; have h2 := congrArg List.length hks; rw [List.length_map, List.length_map] at h2; omega
    have hF1 := e1.keep _ _ nd_dK hF
    refine ss_cons (s_forT PassesOwn.never rfl (ii_list ?_))
    refine ee_callB (x := "sorted") G.z_sorted bt_sorted (aa_cons (ee_var 0 rfl (aa_nil ?_)))
    refine cc_of (call_sortedD rfl) ⟨F, kvs, ks, rfl, .inl hF1, hks, by omega, fun ys p hperm _ hp => ?_⟩
    have e2 : Ex K H1 (upd H1 p (.lst (ys.map V.str))) := Ex.new hp
    have hL2 := e2.keep _ _ ndu hL
    have hF2 := e2.keep _ _ nd_dK hF1
    have hU2 : LAt (PrAt K (upd H1 p (.lst (ys.map V.str)))) SIG us := hU.imp fun t u ⟨a, h1, h2⟩ => ⟨a, h1, e2.t h2⟩
    refine ⟨p, rfl, ⟨_, SqL.of upd_same⟩, ?_⟩
    refine turns_list (ys.map V.str) (fun i σ H' => ∃ z, σ = [some (.ref F), some (.ref S), some (.ref L), z] ∧ Ex K (upd H1 p (.lst (ys.map V.str))) H') ⟨none, rfl, Ex.refl⟩ (fun i σ H' _ ⟨_, _, e⟩ => SqL.of (e.keep _ _ nd_strs upd_same)) ?_ ?_
    · rintro i x σ H' hx ⟨z, rfl, e⟩
      rw [List.getElem?_map] at hx
      cases hy : ys[i]? with
      | none => rw [hy] at hx; cases hx
      | some nm =>
      rw [hy] at hx
      obtain rfl : L2.V.str nm = x := Option.some.inj hx
      have hnk : nm ∈ ks := hperm.mem_iff.mp (List.mem_of_getElem? hy)
      have hkm : (Sum.inr nm : L2.Key) ∈ kvs.map (·.1) := by rw [hks]; exact List.mem_map.mpr ⟨nm, hnk, rfl⟩
      obtain ⟨v, hv⟩ := valV_has hkm
      obtain ⟨k, hk, rfl⟩ := hfd.2 nm v hv
      have hF3 := e.keep _ _ nd_dK hF2
      have hg : DGet H' F (.str nm) (some (.int k)) := by rw [← hv]; exact DGet.k (k := .inr nm) hF3
      refine gg_name 3 ?_ sc_check_fitting.nd
      refine ss_cons (s_if (bb_cmp (ee_tup (aa_cons (ee_var 3 rfl (aa_cons (ee_dget (u1 hr) (ee_var 0 rfl (ee_var 3 rfl ⟨F, _, rfl, hg, aa_nil ⟨szk (by simp), fun t ht => ?_⟩⟩))))))))) 
      have e3 : Ex K H' (upd H' t (.tup [.str nm, .int k])) := Ex.new ht
      have e23 := e.trans e3
      refine ee_var 2 rfl (co_of (op_notInD (u65 hr)) ⟨pairD (nm, k), SIG.map pairD, dp_pair ⟨t, rfl, SqT.up⟩, .lst (SqL.of (e23.keep _ _ ndu hL2)) (dpAll_of pairD (fun t u h => dp_pair h) (hU2.imp fun t u ⟨a, h1, h2⟩ => ⟨a, h1, e23.t h2⟩)), pair_shaped hk, pairs_shaped, ?_⟩)
      rw [pair_in hk]
      refine bq (if_f rfl (ss_nil (ss_nil ⟨_, rfl, e23⟩)))
    · rintro σ H' ⟨z, rfl, e⟩
      exact ss_nil (q _ ((e1.trans e2).trans e))
def spCheckCost (K : PySem.W.Frag) (d : Nat) : Sp := fun vs H Q _ => ∃ v φ, ∃ n : Int, vs = [v, .int n] ∧ FmAt K H φ v ∧ depth φ ≤ d ∧ Wf φ ∧ 1 ≤ n ∧ n ≤ 4 ∧ lcost n φ ≤ 20000 ∧ ∀ H', Ex K H H' → Q .non H'
theorem dn_check_cost (T : Top K mg "check_cost" s_check_cost) (G : Gs K mg) (d : Nat) (DC : Dn w K mg base "cost_of" (d + 2) (spCost K d)) (DW : Dn w K mg base "is_wide" (d + 2) (spWide K d)) : Dn w K mg base "check_cost" (d + 3) (spCheckCost K d) := by
  refine T.dn sc_check_cost (fun vs H Q E h => ?_) (fun _ _ _ _ _ _ us hl => match us, hl with | [_, _], _ => rfl) (fun f cd A outer s H vs Q E hr h => ?_)
  · obtain ⟨v, φ, n, rfl, _⟩ := h; rfl
  · obtain ⟨v, φ, n, rfl, hF, hd, hw, n1, n4, hc, q⟩ := h
    obtain ⟨t1, hMO⟩ := G.c_MOST_meaning
    refine ss_cons (s_if (bb_bw (bw_or (bb_cmp ?_))))
    refine ee_call DC rfl hr ?_
    walk_at "ge"
    refine ⟨v, φ, n, rfl, hF, hd, hw, n1, n4, fun H1 e1 => ?_⟩
    have hpc := pcost_le n1 φ
    refine ee_glob (v := .int _) (u := .int _ _) hMO ⟨_, rfl⟩ (oo_gt ?_)
    refine bq (if_f (decide_eq_false (by omega)) ?_)
    refine bw_or1 (bb_val ?_)
    refine ee_call DW rfl hr ?_
    walk_at "ge"
    refine ⟨v, φ, n, rfl, fmAt_mono e1.tex _ _ hF, hd, hw, n1, n4, hc, fun H2 e2 => ?_⟩
    refine bq (if_f rfl (ss_nil (ss_nil ?_)))
    exact q _ (e1.trans e2)
def spCheckVals (K : PySem.W.Frag) (Cs : Addr) (d : Nat) : Sp := fun vs H Q _ => ∃ v φ S n rels V val, vs = [v, .ref S, .ref V] ∧ FmAt K H φ v ∧ depth φ ≤ d ∧ Wf φ ∧ StAt K Cs H S n rels ∧ ValsAt H V (· ∈ VR) val ∧ ValOk n val ∧ ∀ H', Ex K H H' → Q .non H'
theorem dn_check_values (T : Top K mg "check_values" s_check_values) (G : Gs K mg) (CS : CSk K Cs) (d : Nat) (DF : Dn w K mg base "free_of" (d + 2) (spFree K d)) (DB : Dn w K mg base "is_below" 2 spIsBelow) : Dn w K mg base "check_values" (d + 3) (spCheckVals K Cs d) := by
  refine T.dn sc_check_values (fun vs H Q E h => ?_) (fun _ _ _ _ _ _ us hl => match us, hl with | [_, _, _], _ => rfl) (fun f cd A outer s H vs Q E hr h => ?_)
  · obtain ⟨v, φ, S, n, rels, V, val, rfl, _⟩ := h; rfl
  · obtain ⟨v, φ, S, n, rels, V, val, rfl, hF, hd, hw, hS, hV, hok, q⟩ := h
    obtain ⟨kvs, hk1, hk2, hk3⟩ := id hV
    obtain ⟨dx, L0, us0, hS1, _⟩ := id hS
    refine ss_cons (s_if (bb_not (bb_val (ee_callB (x := "isinstance") G.z_isinstance bt_isinstance ?_))))
    refine aa_cons (ee_var 2 rfl (aa_cons (ee_blt (x := "dict") (v := .ty "dict") G.z_dict bt_dict rfl (aa_nil (isi_dK hk1 k_dd ?_)))))
    refine bq (if_f rfl (ss_nil ?_))
    refine ss_cons (s_forT PassesOwn.never rfl (ii_list ?_))
    refine ee_call DF rfl hr ?_
    walk_at "ge"
    refine ⟨v, φ, rfl, hF, hd, hw, fun H1 L ys e1 hL hys => ?_⟩
    refine ⟨L, rfl, ⟨_, SqL.of hL⟩, ?_⟩
    refine turns_list (ys.map L2.V.str) (fun i σ H' => ∃ z, σ = [some v, some (.ref S), some (.ref V), z] ∧ Ex K H1 H') ⟨none, rfl, Ex.refl⟩ (fun i σ H' _ ⟨_, _, e⟩ => SqL.of (e.keep _ _ nd_strs hL)) ?_ ?_
    · rintro i x σ H' hx ⟨z, rfl, e⟩
      rw [List.getElem?_map] at hx
      cases hy : ys[i]? with
      | none => rw [hy] at hx; cases hx
      | some nm =>
      rw [hy] at hx
      obtain rfl : L2.V.str nm = x := Option.some.inj hx
      have hnv := hys nm (List.mem_of_getElem? hy)
      have e01 := e1.trans e
      have hg := (hV.mono e01).get hnv
      refine gg_name 3 ?_ sc_check_values.nd
      refine ss_cons (s_if (bb_bw (bw_or (bb_dnotin (u1 hr) (ee_var 3 rfl (ee_var 2 rfl ⟨V, _, rfl, hg, ?_⟩))))))
      refine if_f rfl ?_
      refine bw_or1 (bb_not (bb_val ?_))
      refine ee_call DB rfl (hr.mono (by omega)) ?_
      refine aa_cons (ee_dget (u1 hr) (ee_var 2 rfl (ee_var 3 rfl ⟨V, _, rfl, hg, aa_cons (ee_fld (ee_var 1 rfl ⟨S, Cs, dx, _, _, rfl, e01.keep _ _ nd_ins hS1, CS.cls, CS.size, rfl, aa_nil ⟨val nm, n, rfl, ?_⟩⟩))⟩)))
      rw [decide_eq_true (hok nm hnv)]
      refine bq (if_f rfl (ss_nil (ss_nil ⟨_, rfl, e⟩)))
    · rintro σ H' ⟨z, rfl, e⟩
      exact ss_nil (q _ (e1.trans e))
end
end Sy
namespace Sy
/-- the rows for which a formula holds -/
noncomputable def sols (n : Nat) (φ : F) (ρ : Str → Rel) (val : Str → Int) : List (List Int) := (rowsL n 3).filter fun r => @decide (Sem (n : Int) φ ρ (bindR val VR r)) (Classical.propDecidable _)
theorem vr_ok : VsOk (· ∈ VR) VR := ⟨by decide, by decide, by decide, fun x h => h⟩
section
variable {w : World} {K : PySem.W.Frag} {mg : Str → Option Value} {base : Heap} {Cl Cs Cw : Addr}
theorem lk_step {H H' : Hp} {a F : Addr} {c : Int} {kvs : List (L2.Key × V)} (e : Ex K H H') (h : LkAt Cl H a F c kvs) : LkAt Cl H' a F c kvs := let ⟨dx, h1, h2⟩ := h; ⟨dx, e.keep _ _ nd_ins h1, e.keep _ _ nd_dK h2⟩
theorem ns_g0 {n : Nat} {rels : List RelT} (h : WOk n rels) (m : Nat) : ∀ t ∈ G0.take m, ∃ u ∈ rels, u.1 = t.1 := by
  intro t ht
  have g1 : t ∈ G0 := List.mem_of_mem_take ht
  obtain ⟨r0, r1, r2, rfl⟩ := h.three
  unfold G0 at g1
  simp only [List.mem_cons, List.not_mem_nil, or_false] at g1
  rcases g1 with rfl | rfl | rfl
  · exact ⟨("e", 2, r0), by simp, rfl⟩
  · exact ⟨("p", 1, r1), by simp, rfl⟩
  · exact ⟨("q", 0, r2), by simp, rfl⟩
def FmIn (n : Nat) (φ : F) (d : Nat) : Prop := depth φ ≤ d ∧ (∃ m, WF (· ∈ VR) (· ∈ NR) (G0.take m) φ) ∧ 1 ≤ n ∧ n ≤ 4 ∧ lcost n φ * ((n : Int) * n * n) ≤ 20000
theorem FmIn.cost {n : Nat} {φ : F} {d : Nat} (h : FmIn n φ d) : lcost n φ ≤ 20000 := by
  obtain ⟨_, _, n1, n4, hc⟩ := h
  have h1 : (1 : Int) ≤ n := by omega
  have h2 := mm1 (mm1 h1 h1) h1
  have h3 := lcost_pos (n := (n : Int)) h1 φ
  have : lcost n φ * 1 ≤ lcost n φ * ((n : Int) * n * n) := Int.mul_le_mul_of_nonneg_left h2 (by omega)
  omega
def spHolds (K : PySem.W.Frag) (Cs : Addr) (d : Nat) : Sp := fun vs H Q _ => ∃ v φ S n rels V val, vs = [v, .ref S, .ref V] ∧ FmAt K H φ v ∧ FmIn n φ d ∧ StAt K Cs H S n rels ∧ NOk n rels ∧ ValsAt H V (· ∈ VR) val ∧ ValOk n val ∧
  ∀ b H', Ex K H H' → (b = true ↔ Sem (n : Int) φ (relOf rels) val) → Q (.bl b) H'
theorem dn_holds (T : Top K mg "holds" s_holds) (CS : CSk K Cs) (CL : CLk K Cl) (CW : CWk K Cw) (d : Nat) (DL : Dn w K mg base "looked" (d + 6) (spLooked K Cl d)) (DV : Dn w K mg base "check_values" (d + 3) (spCheckVals K Cs d)) (DF : Dn w K mg base "check_fitting" 2 (spFit K Cs))
    (DC : Dn w K mg base "check_cost" (d + 3) (spCheckCost K d)) (DW : Dk w K mg base "World" Cw 1 (spWInit Cw)) (DR : Dn w K mg base "relations_of" 2 (spRelsOf K Cs)) (DT : Dm w K mg base Cw "true" (3 * d + 3) (spTr K Cw (fun _ => True) d)) : Dn w K mg base "holds" (3 * d + 7) (spHolds K Cs d) := by
  refine T.dn sc_holds (fun vs H Q E h => ?_) (fun _ _ _ _ _ _ us hl => match us, hl with | [_, _, _], _ => rfl) (fun f cd A outer s H vs Q E hr h => ?_)
  · obtain ⟨v, φ, S, n, rels, V, val, rfl, _⟩ := h; rfl
  · obtain ⟨v, φ, S, n, rels, V, val, rfl, hF, hin, hS, hN, hV, hok, q⟩ := h
    have hc := hin.cost
    obtain ⟨hd, ⟨m, hw⟩, n1, n4, _⟩ := hin
    have hwf : Wf φ := ⟨_, g0_ok m, hw⟩
    obtain ⟨dx, L0, us0, hS1, _⟩ := id hS
    have hsz : ∀ {H'}, Ex K H H' → H' S = some (.ins Cs dx [("size", .int n), ("relations", .ref L0)]) := fun e => e.keep _ _ nd_ins hS1
    refine ss_cons (s_set 3 ?_ sc_holds.nd)
    refine ee_call DL rfl (hr.mono (by omega)) ?_
    walk_at "ge"
    refine ⟨v, φ, m, rfl, hF, hd, hw, fun H1 a F c kvs e1 hlk hfd => ?_⟩
    refine ss_cons (s_expr ?_)
    refine ee_call DV rfl (hr.mono (by omega)) ?_
    walk_at "ge"
    refine ⟨v, φ, S, n, rels, V, val, rfl, fmAt_mono e1.tex _ _ hF, hd, hwf, hS.mono e1, hV.mono e1, hok, fun H2 e2 => ?_⟩
    have e02 := e1.trans e2
    obtain ⟨dx2, hl1, hl2⟩ := lk_step e2 hlk
    refine ss_cons (s_expr ?_)
    refine ee_call DF rfl (hr.mono (by omega)) ?_
    refine aa_cons (ee_fld (ee_var 3 rfl ⟨a, Cl, dx2, _, _, rfl, hl1, CL.cls, CL.found, rfl, aa_cons (ee_var 1 rfl (aa_nil ?_))⟩))
    refine ⟨F, kvs, S, n, rels, rfl, hl2, hfd, hS.mono e02, hN.1, fun H3 e3 => ?_⟩
    have e03 := e02.trans e3
    refine ss_cons (s_expr ?_)
    refine ee_call DC rfl (hr.mono (by omega)) ?_
    refine aa_cons (ee_var 0 rfl (aa_cons (ee_fld (ee_var 1 rfl ⟨S, Cs, dx, _, _, rfl, hsz e03, CS.cls, CS.size, rfl, aa_nil ?_⟩))))
    refine ⟨v, φ, n, rfl, fmAt_mono e03.tex _ _ hF, hd, hwf, by omega, by omega, hc, fun H4 e4 => ?_⟩
    have e04 := e03.trans e4
    refine ss_cons (s_ret ?_)
    refine ee_meth DT CW.cls rfl (hr.mono (by omega)) ?_
    refine ee_make DW rfl (hr.mono (by omega)) ?_
    refine aa_cons (ee_fld (ee_var 1 rfl ⟨S, Cs, dx, _, _, rfl, hsz e04, CS.cls, CS.size, rfl, aa_cons ?_⟩))
    refine ee_call DR rfl (hr.mono (by omega)) ?_
    refine aa_cons (ee_var 1 rfl (aa_nil ?_))
    refine ⟨S, n, rels, rfl, hS.mono e04, hN, fun D H5 e5 hD => aa_nil ?_⟩
    intro x dx' hx hdx hne
    refine ⟨x, dx', D, n, rfl, upd_same, rfl, ?_⟩
    rw [upd_upd]
    have hx2 : upd H5 dx' (.own x) x = none := by rw [upd_ne (Ne.symm hne)]; exact hx
    have e6 : Ex K H5 (upd (upd H5 dx' (.own x)) x (.ins Cw dx' [("size", .int n), ("relations", .ref D)])) := (Ex.new hdx).trans (Ex.new hx2)
    have hW : (upd (upd H5 dx' (.own x)) x (.ins Cw dx' [("size", .int n), ("relations", .ref D)])) x = some (.ins Cw dx' [("size", .int n), ("relations", .ref D)]) := upd_same
    have e06 := (e04.trans e5).trans e6
    have hD6 := hD.mono e6
    generalize (upd (upd H5 dx' (.own x)) x (.ins Cw dx' [("size", .int n), ("relations", .ref D)])) = H6 at *
    refine ⟨x, dx', _, rfl, hW, rfl, aa_cons (ee_var 0 rfl (aa_cons (ee_var 2 rfl (aa_nil ?_))))⟩
    exact ⟨x, V, v, φ, n, relOf rels, val, rfl, ⟨D, _, G0.take m, ⟨dx', hW⟩, hD6, hV.mono e06, fmAt_mono e06.tex _ _ hF, hd, hw, g0_ok m, ns_g0 hN.1 m, n1, n4, hc⟩, trivial, fun b H7 e7 hb => q b H7 (e06.trans e7) hb⟩
def spQuery (K : PySem.W.Frag) (Cs : Addr) (d : Nat) : Sp := fun vs H Q _ => ∃ v φ S n rels Nm val, vs = [v, .ref S, .ref Nm] ∧ FmAt K H φ v ∧ FmIn n φ d ∧ StAt K Cs H S n rels ∧ NOk n rels ∧ H Nm = some (.lst VRv) ∧
  ∀ L ys H', Ex K H H' → H' L = some (.lst ys) → RowsAt K H' (sols n φ (relOf rels) val) ys → Q (.ref L) H'
theorem dn_query (T : Top K mg "query" s_query) (G : Gs K mg) (CS : CSk K Cs) (CL : CLk K Cl) (CW : CWk K Cw) (d : Nat) (DL : Dn w K mg base "looked" (d + 6) (spLooked K Cl d)) (DI : Dn w K mg base "is_name" 1 spIsName) (DFr : Dn w K mg base "free_of" (d + 2) (spFree K d)) (DF : Dn w K mg base "check_fitting" 2 (spFit K Cs))
    (DC : Dn w K mg base "check_cost" (d + 3) (spCheckCost K d)) (DP : Dn w K mg base "power" 1 spPower) (DCo : Dn w K mg base "cost_of" (d + 2) (spCost K d)) (DW : Dk w K mg base "World" Cw 1 (spWInit Cw)) (DR : Dn w K mg base "relations_of" 2 (spRelsOf K Cs)) (DS : Dm w K mg base Cw "stage" (3 * d + 4) (spStageL K Cw d)) : Dn w K mg base "query" (3 * d + 7) (spQuery K Cs d) := by
  refine T.dn sc_query (fun vs H Q E h => ?_) (fun _ _ _ _ _ _ us hl => match us, hl with | [_, _, _], _ => rfl) (fun f cd A outer s H vs Q E hr h => ?_)
  · obtain ⟨v, φ, S, n, rels, Nm, val, rfl, _⟩ := h; rfl
  · obtain ⟨v, φ, S, n, rels, Nm, val, rfl, hF, hin, hS, hN, hNm, q⟩ := h
    have hc := hin.cost
    obtain ⟨hd, ⟨m, hw⟩, n1, n4, hc3⟩ := hin
    have hwf : Wf φ := ⟨_, g0_ok m, hw⟩
    obtain ⟨t1, hTU⟩ := G.c_TUPLES
    obtain ⟨t2, hMO⟩ := G.c_MOST_meaning
    obtain ⟨dx, L0, us0, hS1, _⟩ := id hS
    have hsz : ∀ {H'}, Ex K H H' → H' S = some (.ins Cs dx [("size", .int n), ("relations", .ref L0)]) := fun e => e.keep _ _ nd_ins hS1
    have hnm : ∀ {H'}, Ex K H H' → H' Nm = some (.lst (VR.map L2.V.str)) := fun e => e.keep _ _ nd_strs hNm
    refine ss_cons (s_set 3 ?_ sc_query.nd)
    refine ee_call DL rfl (hr.mono (by omega)) ?_
    walk_at "ge"
    refine ⟨v, φ, m, rfl, hF, hd, hw, fun H1 a F c kvs e1 hlk hfd => ?_⟩
    refine ss_cons (s_if (bb_bw (bw_or (bb_not (bb_val (ee_callB (x := "isinstance") G.z_isinstance bt_isinstance ?_))))))
    refine aa_cons (ee_var 2 rfl (aa_cons (ee_blt (x := "list") (v := .ty "list") G.z_list bt_list rfl (aa_nil (isi_lst (SqL.of (hnm e1)) k_ll ?_)))))
    refine bq (if_f rfl ?_)
    refine bw_or1 (bb_cmp (ee_callB (x := "len") G.z_len bt_len (aa_cons (ee_callTy (x := "set") G.z_set bt_set (aa_cons (ee_var 2 rfl (aa_nil ?_)))))))
    refine cc_setXL rfl (SqL.of (hnm e1)) (by decide) fun p ks hp hks hm => ?_
    have hkl := nodup_len vr_ok.1 hks hm
    have e2 : Ex K H1 (upd H1 p (SetXO P w p ks)) := Ex.new hp
    refine aa_nil (cc_lenX upd_same (by rw [hkl]; decide) ?_)
    refine ee_callB (x := "len") G.z_len bt_len (aa_cons (ee_var 2 rfl (aa_nil (cc_lenL (SqL.of (hnm (e1.trans e2))) (oo_nei ?_)))))
    rw [hkl]
    refine bq (if_f (by decide) (ss_nil ?_))
    have e02 := e1.trans e2
    have hlk2 := lk_step e2 hlk
    show SS (Cxd w K mg base N_query "query" s_query f cd A outer s H E) _ _ _ (upd H1 p (SetXO P w p ks))
    generalize (upd H1 p (SetXO P w p ks)) = H2 at *
    -- names
    refine ss_cons (s_forT PassesOwn.never rfl (ii_list (ee_var 2 rfl ⟨Nm, rfl, ⟨_, SqL.of (hnm e02)⟩, ?_⟩)))
    refine turns_list (VR.map L2.V.str) (fun i σ H' => ∃ z, σ = [some v, some (.ref S), some (.ref Nm), some (.ref a), z, none, none] ∧ H' = H2) ⟨none, rfl, rfl⟩ (fun i σ H' _ ⟨_, _, e⟩ => by rw [e]; exact SqL.of (hnm e02)) ?_ ?_
    · rintro i x σ H' hx ⟨z, rfl, rfl⟩
      rw [List.getElem?_map] at hx
      cases hy : VR[i]? with
      | none => rw [hy] at hx; cases hx
      | some nm =>
      rw [hy] at hx
      obtain rfl : L2.V.str nm = x := Option.some.inj hx
      refine gg_name 4 ?_ sc_query.nd
      refine ss_cons (s_if (bb_not (bb_val ?_)))
      refine ee_call DI rfl (hr.mono (by omega)) ?_
      refine aa_cons (ee_var 4 rfl (aa_nil ⟨nm, rfl, vr_nm (List.mem_of_getElem? hy), ?_⟩))
      exact bq (if_f rfl (ss_nil (ss_nil ⟨_, rfl, rfl⟩)))
    rintro σ H' ⟨z, rfl, rfl⟩
    -- free variables
    refine ss_cons (s_forT PassesOwn.never rfl (ii_list ?_))
    refine ee_call DFr rfl (hr.mono (by omega)) ?_
    walk_at "ge"
    refine ⟨v, φ, rfl, fmAt_mono e02.tex _ _ hF, hd, hwf, fun H3 L ys e3 hL hys => ?_⟩
    refine ⟨L, rfl, ⟨_, SqL.of hL⟩, ?_⟩
    have e03 := e02.trans e3
    have hlk3 := lk_step e3 hlk2
    refine turns_list (ys.map L2.V.str) (fun i σ H' => ∃ z, σ = [some v, some (.ref S), some (.ref Nm), some (.ref a), z, none, none] ∧ H' = H3) ⟨z, rfl, rfl⟩ (fun i σ H' _ ⟨_, _, e⟩ => by rw [e]; exact SqL.of hL) ?_ ?_
    · rintro i x σ H' hx ⟨z, rfl, rfl⟩
      rw [List.getElem?_map] at hx
      cases hy : ys[i]? with
      | none => rw [hy] at hx; cases hx
      | some nm =>
      rw [hy] at hx
      obtain rfl : L2.V.str nm = x := Option.some.inj hx
      refine gg_name 4 ?_ sc_query.nd
      refine ss_cons (s_if (bb_cmp (ee_var 4 rfl (ee_var 2 rfl (oo_ninL (SqL.of (hnm e03)) ?_)))))
      rw [decide_eq_true (hys nm (List.mem_of_getElem? hy))]
      exact bq (if_f rfl (ss_nil (ss_nil ⟨_, rfl, rfl⟩)))
    rintro σ H' ⟨z, rfl, rfl⟩
    obtain ⟨dx3, hl1, hl2⟩ := hlk3
    refine ss_cons (s_expr ?_)
    refine ee_call DF rfl (hr.mono (by omega)) ?_
    refine aa_cons (ee_fld (ee_var 3 rfl ⟨a, Cl, dx3, _, _, rfl, hl1, CL.cls, CL.found, rfl, aa_cons (ee_var 1 rfl (aa_nil ?_))⟩))
    refine ⟨F, kvs, S, n, rels, rfl, hl2, hfd, hS.mono e03, hN.1, fun H4 e4 => ?_⟩
    have e04 := e03.trans e4
    refine ss_cons (s_expr ?_)
    refine ee_call DC rfl (hr.mono (by omega)) ?_
    refine aa_cons (ee_var 0 rfl (aa_cons (ee_fld (ee_var 1 rfl ⟨S, Cs, dx, _, _, rfl, hsz e04, CS.cls, CS.size, rfl, aa_nil ?_⟩))))
    refine ⟨v, φ, n, rfl, fmAt_mono e04.tex _ _ hF, hd, hwf, by omega, by omega, hc, fun H5 e5 => ?_⟩
    have e05 := e04.trans e5
    refine ss_cons (s_set 5 ?_ sc_query.nd)
    refine ee_call DP rfl (hr.mono (by omega)) ?_
    refine aa_cons (ee_fld (ee_var 1 rfl ⟨S, Cs, dx, _, _, rfl, hsz e05, CS.cls, CS.size, rfl, aa_cons (ee_callB (x := "len") G.z_len bt_len (aa_cons (ee_var 2 rfl (aa_nil (cc_lenL (SqL.of (hnm e05)) (aa_nil ?_))))))⟩))
    refine ⟨n, 3, rfl, by omega, by omega, by omega, ?_⟩
    have hp3 : ((n : Int)) ^ 3 = n * n * n := by rw [Int.pow_succ, Int.pow_succ, Int.pow_succ, Int.pow_zero, Int.one_mul]
    have hps : n ^ 3 ≤ 64 := pow_small n4 (by omega)
    have hpi : ((n : Int)) ^ 3 ≤ 64 := by exact_mod_cast hps
    have hpp : (1 : Int) ≤ (n : Int) ^ 3 := pow_pos' (by omega) 3
    refine ss_cons (s_if (bb_bw (bw_or (bb_cmp (ee_var 5 rfl (ee_glob (v := .int _) (u := .int _ _) hTU ⟨_, rfl⟩ (oo_gt ?_)))))))
    refine bq (if_f (decide_eq_false (by omega)) ?_)
    refine bw_or1 (bb_cmp (ee_bin (ee_var 5 rfl ?_)))
    refine ee_call DCo rfl (hr.mono (by omega)) ?_
    refine aa_cons (ee_var 0 rfl (aa_cons (ee_fld (ee_var 1 rfl ⟨S, Cs, dx, _, _, rfl, hsz e05, CS.cls, CS.size, rfl, aa_nil ?_⟩))))
    refine ⟨v, φ, n, rfl, fmAt_mono e05.tex _ _ hF, hd, hwf, by omega, by omega, fun H6 e6 => ?_⟩
    have e06 := e05.trans e6
    refine oo_mul (.inl ⟨by omega, by omega⟩) ?_
    have hpc := pcost_le (n := (n : Int)) (by omega) φ
    have hm1 : (n : Int) ^ 3 * pcost n φ ≤ (n : Int) ^ 3 * lcost n φ := Int.mul_le_mul_of_nonneg_left hpc (by omega)
    have hm2 : (n : Int) ^ 3 * lcost n φ ≤ 20000 := by rw [hp3, Int.mul_comm]; exact hc3
    refine ee_glob (v := .int _) (u := .int _ _) hMO ⟨_, rfl⟩ (oo_gt ?_)
    refine bq (if_f (decide_eq_false (by omega)) (ss_nil ?_))
    -- the world
    refine ss_cons (s_set 6 ?_ sc_query.nd)
    refine ee_make DW rfl (hr.mono (by omega)) ?_
    refine aa_cons (ee_fld (ee_var 1 rfl ⟨S, Cs, dx, _, _, rfl, hsz e06, CS.cls, CS.size, rfl, aa_cons ?_⟩))
    refine ee_call DR rfl (hr.mono (by omega)) ?_
    refine aa_cons (ee_var 1 rfl (aa_nil ?_))
    refine ⟨S, n, rels, rfl, hS.mono e06, hN, fun D H7 e7 hD => aa_nil ?_⟩
    intro x dx' hx hdx hne
    refine ⟨x, dx', D, n, rfl, upd_same, rfl, ?_⟩
    rw [upd_upd]
    have hx2 : upd H7 dx' (.own x) x = none := by rw [upd_ne (Ne.symm hne)]; exact hx
    have e8 : Ex K H7 (upd (upd H7 dx' (.own x)) x (.ins Cw dx' [("size", .int n), ("relations", .ref D)])) := (Ex.new hdx).trans (Ex.new hx2)
    have hW : (upd (upd H7 dx' (.own x)) x (.ins Cw dx' [("size", .int n), ("relations", .ref D)])) x = some (.ins Cw dx' [("size", .int n), ("relations", .ref D)]) := upd_same
    have e08 := (e06.trans e7).trans e8
    have hD8 := hD.mono e8
    generalize (upd (upd H7 dx' (.own x)) x (.ins Cw dx' [("size", .int n), ("relations", .ref D)])) = H8 at *
    refine ss_cons (s_ret ?_)
    refine ee_callB (x := "sorted") G.z_sorted bt_sorted (aa_cons ?_)
    refine ee_meth DS CW.cls rfl (hr.mono (by omega)) ?_
    refine ee_var 6 rfl ⟨x, dx', _, rfl, hW, rfl, aa_cons (ee_var 0 rfl (aa_cons (ee_var 2 rfl (aa_cons (ee_dnewK fun V hV => aa_nil ?_)))))⟩
    have e9 : Ex K H8 (upd H8 V (.dK [])) := Ex.new hV
    have e09 := e08.trans e9
    refine ⟨x, v, Nm, V, D, _, G0.take m, fun _ => False, n, relOf rels, val, φ, VR, rfl, ⟨dx', e9.keep _ _ nd_ins hW⟩, hD8.mono e9, ⟨[], upd_same, KeyOk.nil, fun _ h => h.elim⟩, fun x hx => .inr hx, fmAt_mono e09.tex _ _ hF, hnm e09, vr_ok, hd, hw, g0_ok m, ns_g0 hN.1 m, n1, n4, hc, fun b rs H10 e10 hb hrn hrs => aa_nil ?_⟩
    have e010 := e09.trans e10
    have hrl : rs.length ≤ 64 := by
      have := few_of_nodup hrn fun r hr => mem_rowsL.mpr ((hrs r).mp hr).1
      rw [rowsL_len] at this
      have h3 : n ^ VR.length ≤ 64 := hps
      omega
    refine cc_sortedD (n := n) (d := 3) rfl hb (RDk_keys rs) hrn (fun r hr => ((hrs r).mp hr).1) (by omega) (fun p ys hp hys => ?_)
    have e11 : Ex K H10 (upd H10 p (.lst ys)) := Ex.new hp
    refine q p ys _ (e010.trans e11) upd_same ?_
    have hsol : sols n φ (relOf rels) val = (rowsL n 3).filter fun r => decide (r ∈ rs) := by
      unfold sols
      refine List.filter_congr fun r hr => ?_
      have h1 : r ∈ rs ↔ Sem (n : Int) φ (relOf rels) (bindR val VR r) := by
        rw [hrs r]
        exact ⟨fun h => h.2, fun h => ⟨mem_rowsL.mp hr, h⟩⟩
      rw [decide_eq_decide]
      exact h1.symm
    rw [hsol]
    exact hys.mono e11.tex
end
end Sy
namespace Sy
/-- a relation as a structure keeps it -/
def nrm (n : Nat) (t : RelT) : RelT := (t.1, t.2.1, (rowsL n t.2.1).filter fun r => decide (r ∈ t.2.2))
def RlIn (K : PySem.W.Frag) (H : Hp) (t : RelT) (v : V) : Prop := ∃ a b vs, v = .ref a ∧ SqT K H a [.str t.1, .int t.2.1, .ref b] ∧ H b = some (.lst vs) ∧ RowsAt K H t.2.2 vs
theorem RlIn.mono {K : PySem.W.Frag} {H H' : Hp} {t : RelT} {v : V} (e : Ex K H H') (h : RlIn K H t v) : RlIn K H' t v := let ⟨a, b, vs, h1, h2, h4, h5⟩ := h; ⟨a, b, vs, h1, e.t h2, e.keep _ _ (nd_allref h5.refs) h4, h5.mono e.tex⟩
theorem nrm_ok {n : Nat} {t : RelT} (hn : n ≤ 4) (hk : t.2.1 ≤ 2) : RelOk n (nrm n t) := by
  have hl6 : (rowsL n t.2.1).length ≤ 16 := by
    rw [rowsL_len]
    have h2 : t.2.1 = 0 ∨ t.2.1 = 1 ∨ t.2.1 = 2 := by omega
    rcases h2 with h | h | h <;> rw [h]
    · simp
    · simp; omega
    · have := Nat.mul_le_mul hn hn; rw [Nat.pow_two]; omega
  refine ⟨fun r hr => mem_rowsL.mp (List.mem_filter.mp hr).1, Nat.le_trans (List.length_filter_le _ _) hl6, (rowsL_nd n _).filter _⟩
theorem nrm_wok {n : Nat} {rels : List RelT} (hn : n ≤ 4) (h : WOk n rels) : WOk n (rels.map (nrm n)) := by
  refine ⟨by rw [List.map_map, ← h.1]; rfl, fun t ht => ?_⟩
  obtain ⟨u, hu, rfl⟩ := List.mem_map.mp ht
  exact nrm_ok hn (h.nm hu).2.2
section
variable {w : World} {K : PySem.W.Frag} {mg : Str → Option Value} {base : Heap} {Cs : Addr}
def spChecked (K : PySem.W.Frag) : Sp := fun vs H Q _ => ∃ n t v, vs = [.int (n : Nat), v] ∧ n ≤ 4 ∧ RlIn K H t v ∧ t.1 ∈ NM ∧ t.2.1 ≤ 2 ∧ RelOk n t ∧ ∀ H' v', Ex K H H' → RelAt K H' (nrm n t) v' → Q v' H'
theorem dn_checked (T : Top K mg "checked" s_checked) (G : Gs K mg) (DI : Dn w K mg base "is_name" 1 spIsName) (DB : Dn w K mg base "is_below" 2 spIsBelow) (DP : Dn w K mg base "power" 1 spPower) (DR : Dn w K mg base "is_row" 3 (spIsRow K)) : Dn w K mg base "checked" 4 (spChecked K) := by
  refine T.dn sc_checked (fun vs H Q E h => ?_) (fun _ _ _ _ _ _ us hl => match us, hl with | [_, _], _ => rfl) (fun f cd A outer s H vs Q E hr h => ?_)
  · obtain ⟨n, t, v, rfl, _⟩ := h; rfl
  · obtain ⟨n, t, v, rfl, hn, ⟨a, b, us, rfl, ha, hb, hU⟩, hnm, hk, hok, q⟩ := h
    obtain ⟨t1, hTU⟩ := G.c_TUPLES
    obtain ⟨t2, hPL⟩ := G.c_PLACES
    have ndu := nd_allref hU.refs
    refine ss_cons (s_if (bb_bw (bw_or (bb_not (bb_val (ee_callB (x := "isinstance") G.z_isinstance bt_isinstance ?_))))))
    refine aa_cons (ee_var 1 rfl (aa_cons (ee_blt (x := "tuple") (v := .ty "tuple") G.z_tuple bt_tuple rfl (aa_nil (isi_tup ha k_tt ?_)))))
    refine bq (if_f rfl ?_)
    refine bw_or1 (bb_cmp (ee_callB (x := "len") G.z_len bt_len (aa_cons (ee_var 1 rfl (aa_nil (cc_lenT ha (ee_int (oo_nei ?_))))))))
    refine bq (if_f (by simp) (ss_nil ?_))
    refine ss_cons (s_asg (ee_var 1 rfl ?_))
    refine gg_tup rfl ha ?_ rfl
    refine ggs_cons (gg_name 3 ?_ sc_checked.nd)
    refine ggs_cons (gg_name 4 ?_ sc_checked.nd)
    refine ggs_cons (gg_name 5 ?_ sc_checked.nd)
    refine ggs_nil ?_
    refine ss_cons (s_if (bb_bw (bw_or (bb_not (bb_val ?_)))))
    refine ee_call DI rfl (hr.mono (by omega)) ?_
    refine aa_cons (ee_var 3 rfl (aa_nil ⟨t.1, rfl, hnm, ?_⟩))
    refine bq (if_f rfl ?_)
    refine bw_or1 (bb_not (bb_val ?_))
    refine ee_call DB rfl (hr.mono (by omega)) ?_
    refine aa_cons (ee_var 4 rfl (aa_cons (ee_bin (ee_glob (v := .int _) (u := .int _ _) hPL ⟨_, rfl⟩ (ee_int (oo_add (aa_nil ⟨t.2.1, 6 + 1, rfl, ?_⟩)))))))
    rw [decide_eq_true (by omega : (0 : Int) ≤ (t.2.1 : Int) ∧ (t.2.1 : Int) < 6 + 1)]
    refine bq (if_f rfl (ss_nil ?_))
    refine ss_cons (s_if (bb_cmp ?_))
    refine ee_call DP rfl (hr.mono (by omega)) ?_
    refine aa_cons (ee_var 0 rfl (aa_cons (ee_var 4 rfl (aa_nil ⟨n, t.2.1, rfl, by omega, by omega, by omega, ?_⟩))))
    have hps := pow_small hn (k := t.2.1) (by omega)
    have hpi : ((n : Int)) ^ t.2.1 ≤ 64 := by exact_mod_cast hps
    refine ee_glob (v := .int _) (u := .int _ _) hTU ⟨_, rfl⟩ (oo_gt ?_)
    refine bq (if_f (decide_eq_false (by omega)) (ss_nil ?_))
    refine ss_cons (s_if (bb_not (bb_val (ee_callB (x := "isinstance") G.z_isinstance bt_isinstance ?_))))
    refine aa_cons (ee_var 5 rfl (aa_cons (ee_tup (aa_cons (ee_blt (x := "list") (v := .ty "list") G.z_list bt_list rfl (aa_cons (ee_blt (x := "tuple") (v := .ty "tuple") G.z_tuple bt_tuple rfl (aa_nil ⟨szk (by simp), fun tp htp => ?_⟩))))))))
    have e1 : Ex K H (upd H tp (.tup [.ty "list", .ty "tuple"])) := Ex.new htp
    refine aa_nil (cc_of call_isiT ⟨.ref b, tp, [.ty "list", .ty "tuple"], .type "list", [.type "list", .type "tuple"], true, rfl, upd_same, .cons (.ty _) (.cons (.ty _) .nil), tyx_lst (SqL.of (e1.keep _ _ ndu hb)), kitAny_cons (b := true) (kit_ty k_ll) (fun h => by cases h) (fun _ => rfl), ?_⟩)
    refine bq (if_f rfl (ss_nil ?_))
    generalize (upd H tp (.tup [.ty "list", .ty "tuple"])) = H1 at *
    have hb1 := e1.keep _ _ ndu hb
    have hU1 := hU.mono e1.tex
    refine ss_cons (s_forT PassesOwn.never rfl (ii_list (ee_var 5 rfl ⟨b, rfl, ⟨_, SqL.of hb1⟩, ?_⟩)))
    refine turns_list us (fun i σ H' => ∃ z, σ = [some (.int n), some (.ref a), z, some (.str t.1), some (.int t.2.1), some (.ref b)] ∧ H' = H1) ⟨none, rfl, rfl⟩ (fun i σ H' _ ⟨_, _, e⟩ => by rw [e]; exact SqL.of hb1) ?_ ?_
    · rintro i x σ H' hx ⟨z, rfl, rfl⟩
      obtain ⟨r, hr1, hx1⟩ := hU1.2 i x hx
      refine gg_name 2 ?_ sc_checked.nd
      refine ss_cons (s_if (bb_not (bb_val ?_)))
      refine ee_call DR rfl (hr.mono (by omega)) ?_
      refine aa_cons (ee_var 2 rfl (aa_cons (ee_var 0 rfl (aa_cons (ee_var 4 rfl (aa_nil ⟨x, r, n, t.2.1, rfl, hx1, hok.1 r (List.mem_of_getElem? hr1), ?_⟩))))))
      exact bq (if_f rfl (ss_nil (ss_nil ⟨_, rfl, rfl⟩)))
    rintro σ H1 ⟨z, rfl, rfl⟩
    refine ss_cons (s_ret (ee_tup (aa_cons (ee_var 3 rfl (aa_cons (ee_var 4 rfl (aa_cons ?_)))))))
    refine ee_callTy (x := "tuple") G.z_tuple bt_tuple (aa_cons ?_)
    refine ee_callB (x := "sorted") G.z_sorted bt_sorted (aa_cons ?_)
    refine ee_callTy (x := "set") G.z_set bt_set (aa_cons (ee_var 5 rfl (aa_nil ?_)))
    refine cc_setRows rfl hr.units (SqL.of hb1) hU1 hok.2.2 (by have := hok.2.1; omega) (fun p as hp hperm => ?_)
    have e2 : Ex K H1 (upd H1 p (SetWO w p as)) := Ex.new hp
    refine aa_nil (cc_sortedS rfl upd_same hperm (hU1.mono e2.tex) hok.2.2 hok.1 (by have := hok.2.1; omega) (fun p2 ys hp2 hys => ?_))
    have e3 : Ex K (upd H1 p (SetWO w p as)) (upd (upd H1 p (SetWO w p as)) p2 (.lst ys)) := Ex.new hp2
    refine aa_nil (cc_tupL (SqL.of upd_same) (fun p3 hp3 => ?_))
    have e4 : Ex K (upd (upd H1 p (SetWO w p as)) p2 (.lst ys)) (upd (upd (upd H1 p (SetWO w p as)) p2 (.lst ys)) p3 (.tup ys)) := Ex.new hp3
    have h3 : (upd (upd (upd H1 p (SetWO w p as)) p2 (.lst ys)) p3 (.tup ys)) p3 = some (.tup ys) := upd_same
    have hys' := hys.mono (e3.trans e4).tex
    have e04 := ((e1.trans e2).trans e3).trans e4
    refine aa_nil ⟨szk (by simp), fun p4 hp4 => ?_⟩
    have e5 := Ex.new (K := K) (o := .tup [.str t.1, .int t.2.1, .ref p3]) hp4
    refine q _ _ (e04.trans e5) ⟨p4, p3, ys, rfl, SqT.up, SqT.of (e5.tr h3), hys'.mono e5.tex⟩
end
end Sy
namespace Sy
section
variable {w : World} {K : PySem.W.Frag} {mg : Str → Option Value} {base : Heap} {Cs : Addr}
def spSInit (K : PySem.W.Frag) (Cs : Addr) : Sp := fun vs H Q _ => ∃ x dx L us rels n, vs = [.ref x, .int (n : Nat), .ref L] ∧ H x = some (.ins Cs dx []) ∧ H L = some (.lst us) ∧ LAt (RlIn K H) rels us ∧ WOk n rels ∧ 1 ≤ n ∧ n ≤ 4 ∧
  ∀ H', (∀ H0, Ex K H0 H → H0 x = none → Ex K H0 H') → StAt K Cs H' x n (rels.map (nrm n)) → Q .non H'
theorem dk_structure (T : TopK K mg "Structure" Cs "Structure.__init__" s_Structure_init) (G : Gs K mg) (CS : CSk K Cs) (DI : Dn w K mg base "is_integer" 1 spIsInt) (DC : Dn w K mg base "checked" 4 (spChecked K)) : Dk w K mg base "Structure" Cs 5 (spSInit K Cs) := by
  refine T.dk sc_Structure_init (fun vs H Q E h => ?_) (fun _ _ _ _ _ _ us hl => match us, hl with | [_, _, _], _ => rfl) (fun f cd A outer s H vs Q E hr h => ?_)
  · obtain ⟨x, dx, L, us, rels, n, rfl, _⟩ := h; rfl
  · obtain ⟨x, dx, L, us, rels, n, rfl, hx, hL, hU, hw, n1, n4, q⟩ := h
    obtain ⟨t1, hLA⟩ := G.c_LARGEST
    obtain ⟨t2, hRE⟩ := G.c_RELATIONS
    have ndu : NotDraw (.lst us) := nd_allref fun x hx => by
      obtain ⟨t, _, a, b, vs, e, _⟩ := hU.mem hx
      exact ⟨a, e⟩
    have hl3 : us.length = 3 := by rw [hU.1]; have := congrArg List.length hw.1; rw [List.length_map] at this; exact this
    refine ss_cons (s_if (bb_bw (bw_or (bb_not (bb_val ?_)))))
    refine ee_call DI rfl (hr.mono (by omega)) ?_
    refine aa_cons (ee_var 1 rfl (aa_nil ⟨n, rfl, ?_⟩))
    refine bq (if_f rfl ?_)
    refine bw_or1 (bb_not (bb_chain (ee_int (ee_var 1 rfl (oo_le ?_)))))
    refine bq ?_
    rw [decide_eq_true (by omega : (1 : Int) ≤ (n : Int))]
    refine if_t rfl ?_
    refine ee_glob (v := .int _) (u := .int _ _) hLA ⟨_, rfl⟩ (oo_le ?_)
    refine bq ?_
    rw [decide_eq_true (by omega : (n : Int) ≤ 16)]
    refine if_f rfl (ss_nil ?_)
    refine ss_cons (s_if (bb_bw (bw_or (bb_not (bb_val (ee_callB (x := "isinstance") G.z_isinstance bt_isinstance ?_))))))
    refine aa_cons (ee_var 2 rfl (aa_cons (ee_blt (x := "list") (v := .ty "list") G.z_list bt_list rfl (aa_nil (isi_lst (SqL.of hL) k_ll ?_)))))
    refine bq (if_f rfl ?_)
    refine bw_or1 (bb_cmp (ee_callB (x := "len") G.z_len bt_len (aa_cons (ee_var 2 rfl (aa_nil (cc_lenL (SqL.of hL) (ee_glob (v := .int _) (u := .int _ _) hRE ⟨_, rfl⟩ (oo_gt ?_))))))))
    refine bq (if_f (decide_eq_false (by omega)) (ss_nil ?_))
    refine ss_cons (s_set 3 (ee_lst (aa_nil ⟨szk (by simp), fun R hR => ?_⟩)) sc_Structure_init.nd)
    have e1 : Ex K H (upd H R (.lst [])) := Ex.new hR
    have hR1 : (upd H R (.lst [])) R = some (.lst []) := upd_same
    have hR0 := hR
    generalize (upd H R (.lst [])) = H1 at *
    refine ss_cons (s_forT PassesOwn.never rfl (ii_list (ee_var 2 rfl ⟨L, rfl, ⟨_, SqL.of (e1.keep _ _ ndu hL)⟩, ?_⟩)))
    refine turns_list us (fun i σ H' => ∃ z ks, σ = [some (.ref x), some (.int n), some (.ref L), some (.ref R), z, none, none] ∧ Ex K H H' ∧ H' R = some (.lst ks) ∧ LAt (RelAt K H') ((rels.take i).map (nrm n)) ks) ⟨none, [], rfl, e1, hR1, by simpa using (LAt.nil : LAt (RelAt K H1) [] [])⟩ (fun i σ H' _ ⟨_, _, _, e, _⟩ => SqL.of (e.keep _ _ ndu hL)) ?_ ?_
    · rintro i v σ H' hv ⟨z, ks, rfl, e, hR', hks⟩
      obtain ⟨t, hti, hrl⟩ := hU.2 i v hv
      have htm : t ∈ rels := List.mem_of_getElem? hti
      have hnm := hw.nm htm
      refine gg_name 4 ?_ sc_Structure_init.nd
      refine ss_cons (s_expr (ee_append (ee_var 3 rfl ⟨R, rfl, ⟨_, SqL.of hR'⟩, ?_⟩)))
      refine ee_call DC rfl hr ?_
      refine aa_cons (ee_var 1 rfl (aa_cons (ee_var 4 rfl (aa_nil ⟨n, t, v, rfl, n4, hrl.mono e, hnm.1, hnm.2.2, hw.2 t htm, fun H2 v2 e2 hv2 => ?_⟩))))
      have hR2 := e2.keep _ _ (lat_ref hks) hR'
      have hkl : ks.length ≤ 3 := by rw [hks.1, List.length_map]; have := List.length_take_le i rels; have := hU.1; have := List.length_take_le' i rels; omega
      refine ⟨ks, hR2, by rw [sizeLine_eq]; omega, ?_⟩
      have tx : TEx H2 (upd H2 R (.lst (ks ++ [v2]))) := TEx.upd hR2 (fun _ z => nomatch z) (fun _ _ z => nomatch z)
      refine ss_nil ⟨_, _, rfl, (e.trans e2).mut hR0, upd_same, ?_⟩
      rw [take_succ_snoc hti, List.map_append]
      exact ((hks.mono' e2.tex).mono' tx).snoc (hv2.mono tx)
    rintro σ H' ⟨z, ks, rfl, e, hR', hks⟩
    rw [hU.1, List.take_length] at hks
    have hkl : ks.length = 3 := by rw [hks.1, List.length_map, ← hU.1]; exact hl3
    have hwn := nrm_wok n4 hw
    have ndk := lat_ref hks
    refine ss_cons (s_if (bb_cmp (ee_callB (x := "len") G.z_len bt_len (aa_cons (ee_callTy (x := "set") G.z_set bt_set (aa_cons ?_))))))
    refine ee_lc [("name", 5), ("_", 6)] N_Structure_init (defScope s_Structure_init) rfl sc_Structure_init.nd (ii_list (ee_var 3 rfl ⟨R, rfl, ⟨_, SqL.of hR'⟩, fun Ln hLn => ?_⟩))
    refine lt_mapL (K := K) ks (fun i y H2 => ∃ p, SIG[i]? = some p ∧ y = .str p.1) (fun i y H H' e h => h) hLn (SqL.of hR') ndk (by omega) (fun ys H h => nd_noref fun x hx a => by
      obtain ⟨j, hj⟩ := List.mem_iff_getElem?.mp hx
      obtain ⟨p, _, rfl⟩ := h j x hj
      intro z; cases z) ?_ ?_
    · rintro i v H5 hv e5 s0 H0 C cl fp
      obtain ⟨t, ht, a, b, vs, rfl, ha, hb, hV⟩ := hks.2 i v hv
      refine gg_tup rfl (e5.t ha) ?_ rfl
      refine ggs_cons (gg_name 5 ?_ sc_Structure_init.nd)
      refine ggs_cons (gg_name 6 ?_ sc_Structure_init.nd)
      refine ggs_cons (gg_name 6 ?_ sc_Structure_init.nd)
      refine ggs_nil ⟨rfl, Ex.refl, ?_⟩
      intro s1 H01 C1 cl1 fp1
      refine ee_var 5 rfl ⟨Ex.refl, (t.1, t.2.1), ?_, rfl⟩
      rw [← hwn.1, List.getElem?_map, ht]; rfl
    intro ys H5 e5 hL5 hyl hys
    obtain rfl : ys = (SIG.map (·.1)).map L2.V.str := by
      refine List.ext_getElem? fun i => ?_
      rw [List.getElem?_map, List.getElem?_map]
      by_cases hi : i < 3
      · have hy : ys[i]? = some (ys[i]'(by omega)) := List.getElem?_eq_getElem _
        obtain ⟨p, h1, h2⟩ := hys i _ hy
        rw [hy, h1, h2]; rfl
      · rw [List.getElem?_eq_none (by omega), List.getElem?_eq_none (by show 3 ≤ i; omega)]; rfl
    refine aa_nil ?_
    refine cc_setXL rfl (SqL.of hL5) (by decide) fun p ks2 hp hks2 hm => ?_
    have hkl2 := nodup_len (xs := SIG.map (·.1)) (by decide) hks2 hm
    have e6 : Ex K H5 (upd H5 p (SetXO P w p ks2)) := Ex.new hp
    refine aa_nil (cc_lenX upd_same (by rw [hkl2]; decide) ?_)
    have e56 := e5.trans e6
    refine ee_callB (x := "len") G.z_len bt_len (aa_cons (ee_var 3 rfl (aa_nil (cc_lenL (SqL.of (e56.keep _ _ ndk hR')) (oo_nei ?_)))))
    rw [hkl2, hkl]
    refine bq (if_f (by decide) (ss_nil ?_))
    show SS (Cxd w K mg base N_Structure_init "Structure.__init__" s_Structure_init f cd A outer s H E) _ _ _ (upd H5 p (SetXO P w p ks2))
    generalize (upd H5 p (SetXO P w p ks2)) = H6 at *
    have e06 := e.trans e56
    have hx6 := e06.keep _ _ nd_ins hx
    have hR6 := e56.keep _ _ ndk hR'
    have hks6 := hks.mono' e56.tex
    refine ss_cons (s_fld (ee_var 1 rfl (ee_var 0 rfl ⟨x, Cs, dx, [], rfl, hx6, CS.cls, CS.size, by simp, ?_⟩)))
    refine ss_cons (s_fld (ee_var 3 rfl (ee_var 0 rfl ⟨x, Cs, dx, [("size", .int n)], rfl, upd_same, CS.cls, CS.rels, by simp, ?_⟩)))
    refine ss_nil ?_
    rw [upd_upd]
    have tx : TEx H6 (upd H6 x (.ins Cs dx [("size", .int n), ("relations", .ref R)])) := TEx.upd hx6 (fun _ z => nomatch z) (fun _ _ z => nomatch z)
    refine q _ (fun H0 e0 h0 => (e0.trans e06).mut h0) ⟨dx, R, ks, upd_same, ?_, hks6.mono' tx⟩
    have hRx : R ≠ x := ne_of hR6 hx6 (fun z => nomatch z)
    show (upd H6 x (.ins Cs dx [("size", .int n), ("relations", .ref R)])) R = some (.lst ks)
    rw [upd_ne hRx]; exact hR6
end
end Sy
namespace Sy
theorem cut_take {xs : List V} {i : Nat} (h : i ≤ xs.length) : cutV xs none (some (i : Int)) = xs.take i := by
  unfold cutV
  rw [HT.sIx_none, HT.sIx_nat, List.drop_zero, Nat.sub_zero, Nat.min_eq_left h]
theorem inV_int {e : Int} : ∀ {ns : List Int}, inV (.int e) (ns.map L2.V.int) = decide (e ∈ ns)
  | [] => by simp [inV]
  | n :: ns => by
    have ih := inV_int (e := e) (ns := ns)
    unfold inV at ih ⊢
    rw [List.map_cons, List.any_cons, ih]
    show ((n == e) || _) = _
    by_cases h : n = e
    · subst h; simp
    · have h' : ¬ e = n := fun z => h z.symm
      simp [h, h']
theorem flat_ints : ∀ {ns : List Int}, (ns.map L2.V.int).all flatV = true
  | [] => rfl
  | n :: ns => by rw [List.map_cons, List.all_cons, flat_ints (ns := ns)]; rfl
section
variable {X : Cx} {σ : L2.St} {H : Hp} {D : Ends} {tg : Expr} {body : List Stmt} {a : Addr}
theorem turns_enum (xs : List V) (Pv : Nat → L2.St → Hp → Prop) (h0 : Pv 0 σ H) (hq : ∀ i σ H, Pv i σ H → SqL X.K H a xs)
    (hs : ∀ (i : Nat) (x : V) (T : Addr) (σ : L2.St) (H : Hp), xs[i]? = some x → Pv i σ H → H T = none → GG X tg (.ref T) σ (upd H T (.tup [.int (i : Nat), x])) fun σ2 H2 => SS X body { D with nx := Pv (i + 1), ct := Pv (i + 1), bk := D.nx } σ2 H2) (hd : ∀ σ H, Pv xs.length σ H → D.nx σ H) : Turns X tg body D (Ite X.K a) σ H := by
  refine ⟨fun i m σ H => m = xs.length - i ∧ i ≤ xs.length ∧ Pv i σ H, ⟨xs.length, rfl, Nat.zero_le _, h0⟩, ?_⟩
  rintro i m σ H ⟨rfl, hi, p⟩
  have qx := hq i σ H p
  by_cases hlt : i < xs.length
  · have hx : xs[i]? = some xs[i] := List.getElem?_eq_getElem hlt
    refine .inr ⟨⟨xs, _, qx, hx⟩, Pv (i + 1), fun σ' H' p' => ⟨xs.length - (i + 1), by omega, rfl, hlt, p'⟩, fun v H' y => ?_⟩
    obtain ⟨T, x', rfl, hT, rfl, f1⟩ := y
    exact hs i x' T σ H (f1 xs qx) p hT
  · have e : i = xs.length := by omega
    subst e
    exact .inl ⟨⟨xs, qx, Nat.le_refl _⟩, hd σ H p⟩
end
/-- a permutation as a list -/
structure PermL (n : Nat) (ps : List Int) : Prop where
  len : ps.length = n
  nd : ps.Nodup
  lt : ∀ x ∈ ps, 0 ≤ x ∧ x < n
def piOf (ps : List Int) (x : Int) : Int := (ps[x.toNat]?).getD 0
theorem PermL.get {n : Nat} {ps : List Int} (p : PermL n ps) {x : Int} (h0 : 0 ≤ x) (h1 : x < n) : ps[x.toNat]? = some (piOf ps x) := by
  have hl := p.len
  unfold piOf
  rw [List.getElem?_eq_getElem (by omega)]; rfl
/-- the scope of the block over the rows -/
def scRow : Scope := { kind := .function, names := [(".0", .local), ("row", .local), ("tuple", .globalImplicit), ("permutation", .cell)], isGenerator := false, isCoroutine := false }
theorem PermL.pi {n : Nat} {ps : List Int} (p : PermL n ps) {x : Int} (h0 : 0 ≤ x) (h1 : x < n) : 0 ≤ piOf ps x ∧ piOf ps x < n := p.lt _ (List.mem_of_getElem? (p.get h0 h1))
theorem PermL.inj {n : Nat} {ps : List Int} (p : PermL n ps) {x y : Int} (hx : 0 ≤ x ∧ x < n) (hy : 0 ≤ y ∧ y < n) (e : piOf ps x = piOf ps y) : x = y := by
  have h1 := p.get hx.1 hx.2
  have h2 := p.get hy.1 hy.2
  rw [e] at h1
  obtain ⟨b1, c1⟩ := List.getElem?_eq_some_iff.mp h1
  obtain ⟨b2, c2⟩ := List.getElem?_eq_some_iff.mp h2
  have hpw := List.pairwise_iff_getElem.mp p.nd
  rcases Nat.lt_trichotomy x.toNat y.toNat with h | h | h
  · exact absurd (c1.trans c2.symm) (hpw _ _ b1 b2 h)
  · omega
  · exact absurd (c2.trans c1.symm) (hpw _ _ b2 b1 h)
theorem PermL.row {n : Nat} {ps : List Int} (p : PermL n ps) {k : Nat} {r : List Int} (h : IsRow n k r) : IsRow n k (r.map (piOf ps)) := ⟨by rw [List.length_map]; exact h.1, fun x hx => by
  obtain ⟨y, hy, rfl⟩ := List.mem_map.mp hx
  exact p.pi (h.2 y hy).1 (h.2 y hy).2⟩
theorem PermL.map_inj {n : Nat} {ps : List Int} (p : PermL n ps) : ∀ {r q : List Int}, (∀ x ∈ r, 0 ≤ x ∧ x < (n : Int)) → (∀ x ∈ q, 0 ≤ x ∧ x < (n : Int)) → r.map (piOf ps) = q.map (piOf ps) → r = q
  | [], [], _, _, _ => rfl
  | [], _ :: _, _, _, e => by simp at e
  | _ :: _, [], _, _, e => by simp at e
  | a :: r, b :: q, h, h', e => by
    rw [List.map_cons, List.map_cons] at e
    injection e with e1 e2
    rw [p.inj (h a (by simp)) (h' b (by simp)) e1, p.map_inj (fun x hx => h x (by simp [hx])) (fun x hx => h' x (by simp [hx])) e2]
theorem PermL.rows_nd {n : Nat} {ps : List Int} (p : PermL n ps) {k : Nat} {rs : List (List Int)} (h : ∀ r ∈ rs, IsRow n k r) (hn : rs.Nodup) : (rs.map fun r => r.map (piOf ps)).Nodup := by
  refine List.pairwise_map.mpr (List.Pairwise.imp_of_mem (fun {a b} ha hb hab e => hab ?_) hn)
  exact p.map_inj (h a ha).2 (h b hb).2 e
theorem RlAt.toIn {K : PySem.W.Frag} {H : Hp} {L : Addr} {t : RelT} {v : V} (h : RlAt K L H t v) : RlIn K H t v := let ⟨a, b, vs, h1, h2, _, h4, h5⟩ := h; ⟨a, b, vs, h1, h2, h4, h5⟩
theorem RlAt.updL {K : PySem.W.Frag} {H : Hp} {L : Addr} {t : RelT} {v : V} {xs zs : List V} (h : RlAt K L H t v) (hl : H L = some (.lst xs)) : RlAt K L (upd H L (.lst zs)) t v := by
  obtain ⟨a, b, vs, h1, h2, h3, h4, h5⟩ := h
  have tx : TEx H (upd H L (.lst zs)) := TEx.upd hl (fun _ z => nomatch z) (fun _ _ z => nomatch z)
  exact ⟨a, b, vs, h1, tx.t h2, h3, by rw [upd_ne h3]; exact h4, h5.mono tx⟩
/-- a relation renamed -/
def rnm (ps : List Int) (t : RelT) : RelT := (t.1, t.2.1, t.2.2.map fun r => r.map (piOf ps))
section
variable {w : World} {K : PySem.W.Frag} {mg : Str → Option Value} {base : Heap} {Cs : Addr}
def spRenamed (K : PySem.W.Frag) (Cs : Addr) : Sp := fun vs H Q _ => ∃ S Pm n rels ps, vs = [.ref S, .ref Pm] ∧ StAt K Cs H S n rels ∧ WOk n rels ∧ H Pm = some (.lst (ps.map L2.V.int)) ∧ PermL n ps ∧ 1 ≤ n ∧ n ≤ 4 ∧
  ∀ S' H', Ex K H H' → StAt K Cs H' S' n (rels.map fun t => nrm n (rnm ps t)) → Q (.ref S') H'
theorem dm_renamed (T : TopM K Cs "renamed" "Structure.renamed" s_Structure_renamed) (G : Gs K mg) (CS : CSk K Cs) (DB : Dn w K mg base "is_below" 2 spIsBelow) (DS : Dk w K mg base "Structure" Cs 5 (spSInit K Cs)) : Dm w K mg base Cs "renamed" 7 (spRenamed K Cs) := by
  refine T.dm sc_Structure_renamed (fun vs H Q E h => ?_) (fun _ _ _ _ _ _ us hl => match us, hl with | [_, _], _ => rfl) (fun f cd A outer s H vs Q E hr h => ?_)
  · obtain ⟨S, Pm, n, rels, ps, rfl, _⟩ := h; rfl
  · obtain ⟨S, Pm, n, rels, ps, rfl, ⟨dx, L, us, hS, hL, hU⟩, hw, hP, hp, n1, n4, q⟩ := h
    have ndu := lat_ref hU
    have hpl := hp.len
    have hl3 : us.length = 3 := by rw [hU.1]; have := congrArg List.length hw.1; rw [List.length_map] at this; exact this
    have hPx : ∀ {H'}, Ex K H H' → H' Pm = some (.lst (ps.map L2.V.int)) := fun e => e.keep _ _ nd_ints hP
    refine ss_cons (s_if (bb_bw (bw_or (bb_not (bb_val (ee_callB (x := "isinstance") G.z_isinstance bt_isinstance ?_))))))
    refine aa_cons (ee_var 1 rfl (aa_cons (ee_blt (x := "list") (v := .ty "list") G.z_list bt_list rfl (aa_nil (isi_lst (SqL.of hP) k_ll ?_)))))
    refine bq (if_f rfl ?_)
    refine bw_or1 (bb_cmp (ee_callB (x := "len") G.z_len bt_len (aa_cons (ee_var 1 rfl (aa_nil (cc_lenL (SqL.of hP) (ee_fld (ee_var 0 rfl ⟨S, Cs, dx, _, _, rfl, hS, CS.cls, CS.size, rfl, oo_nei ?_⟩))))))))
    rw [List.length_map, hpl]
    refine bq (if_f (by simp) (ss_nil ?_))
    refine ss_cons (s_forT PassesOwn.never rfl (ii_enum G.z_enumerate (aa_cons (ee_var 1 rfl (aa_nil ⟨Pm, _, rfl, SqL.of hP, ?_⟩)))))
    refine turns_enum (ps.map L2.V.int) (fun i σ H' => ∃ y z, σ = [some (.ref S), some (.ref Pm), none, y, z, none, none, none, none, none] ∧ Ex K H H') ⟨none, none, rfl, Ex.refl⟩ (fun i σ H' ⟨_, _, _, e⟩ => SqL.of (hPx e)) ?_ ?_
    · rintro i x Tp σ H' hx ⟨y, z, rfl, e⟩ hTp
      rw [List.getElem?_map] at hx
      cases hy : ps[i]? with
      | none => rw [hy] at hx; cases hx
      | some pv =>
      rw [hy] at hx
      obtain rfl : L2.V.int pv = x := Option.some.inj hx
      have hil := (List.getElem?_eq_some_iff.mp hy).1
      have e1 : Ex K H' (upd H' Tp (.tup [.int (i : Nat), .int pv])) := Ex.new hTp
      have hTT : (upd H' Tp (.tup [.int (i : Nat), .int pv])) Tp = some (.tup [.int (i : Nat), .int pv]) := upd_same
      generalize (upd H' Tp (.tup [.int (i : Nat), .int pv])) = H1 at *
      have e01 := e.trans e1
      refine gg_tup rfl (SqT.of hTT) ?_ rfl
      refine ggs_cons (gg_name 3 ?_ sc_Structure_renamed.nd)
      refine ggs_cons (gg_name 4 ?_ sc_Structure_renamed.nd)
      refine ggs_nil ?_
      refine ss_cons (s_if (bb_bw (bw_or (bb_not (bb_val ?_)))))
      refine ee_call DB rfl (hr.mono (by omega)) ?_
      refine aa_cons (ee_var 4 rfl (aa_cons (ee_fld (ee_var 0 rfl ⟨S, Cs, dx, _, _, rfl, e01.keep _ _ nd_ins hS, CS.cls, CS.size, rfl, aa_nil ⟨pv, n, rfl, ?_⟩⟩))))
      rw [decide_eq_true (hp.lt pv (List.mem_of_getElem? hy))]
      refine bq (if_f rfl ?_)
      refine bw_or1 (bb_cmp (ee_var 4 rfl (ee_slice (ee_var 1 rfl (op_none (op_some (ee_var 3 rfl ⟨_, rfl, ?_⟩)))))))
      refine sl_l (SqL.of (hPx e01)) (fun l1 hl1 => ?_)
      rw [cut_take (by rw [List.length_map]; omega)]
      refine co_of op_in_seq ⟨l1, (ps.take i).map L2.V.int, rfl, .inl (SqL.of (by rw [List.map_take]; exact upd_same)), rfl, flat_ints, ?_⟩
      have hni : ¬ pv ∈ ps.take i := fun hm => by
        obtain ⟨j, hj⟩ := List.mem_iff_getElem?.mp hm
        have hji : j < i := by have := (List.getElem?_eq_some_iff.mp hj).1; rw [List.length_take] at this; omega
        rw [List.getElem?_take_of_lt hji] at hj
        obtain ⟨b1, c1⟩ := List.getElem?_eq_some_iff.mp hj
        obtain ⟨b2, c2⟩ := List.getElem?_eq_some_iff.mp hy
        exact List.pairwise_iff_getElem.mp hp.nd j i b1 b2 hji (by rw [c1, c2])
      rw [inV_int, decide_eq_false hni]
      refine bq (if_f rfl (ss_nil (ss_nil ⟨_, _, rfl, e01.trans (Ex.new hl1)⟩)))
    rintro σ H1 ⟨y, z, rfl, e1⟩
    refine ss_cons (s_set 2 (ee_lst (aa_nil ⟨szk (by simp), fun R hR => ?_⟩)) sc_Structure_renamed.nd)
    have e2 : Ex K H1 (upd H1 R (.lst [])) := Ex.new hR
    have hR1 : (upd H1 R (.lst [])) R = some (.lst []) := upd_same
    have hR0 : H R = none := e1.there _ hR
    have e02 := e1.trans e2
    generalize (upd H1 R (.lst [])) = H2 at *
    refine ss_cons (s_forT PassesOwn.never rfl (ii_list (ee_fld (ee_var 0 rfl ⟨S, Cs, dx, _, _, rfl, e02.keep _ _ nd_ins hS, CS.cls, CS.rels, rfl, L, rfl, ⟨_, SqL.of (e02.keep _ _ ndu hL)⟩, ?_⟩))))
    refine turns_list us (fun i σ H' => ∃ a3 a4 a5 a6 a7 a8 a9 ks, σ = [some (.ref S), some (.ref Pm), some (.ref R), a3, a4, a5, a6, a7, a8, a9] ∧ Ex K H H' ∧ H' R = some (.lst ks) ∧ NotDraw (.lst ks) ∧ LAt (RlAt K R H') ((rels.take i).map (rnm ps)) ks) ⟨_, _, _, _, _, _, _, [], rfl, e02, hR1, nd_len (by simp), by simpa using (LAt.nil : LAt (RlAt K R H2) [] [])⟩ (fun i σ H' _ ⟨_, _, _, _, _, _, _, _, _, e, _⟩ => SqL.of (e.keep _ _ ndu hL)) ?_ ?_
    · rintro i v σ H' hv ⟨a3, a4, a5, a6, a7, a8, a9, ks, rfl, e, hR', ndk, hks⟩
      obtain ⟨t, hti, a, b, vs, rfl, ha, hb, hV⟩ := hU.2 i v hv
      have htm : t ∈ rels := List.mem_of_getElem? hti
      have hok := hw.2 t htm
      refine gg_tup rfl (e.t ha) ?_ rfl
      refine ggs_cons (gg_name 5 ?_ sc_Structure_renamed.nd)
      refine ggs_cons (gg_name 6 ?_ sc_Structure_renamed.nd)
      refine ggs_cons (gg_name 7 ?_ sc_Structure_renamed.nd)
      refine ggs_nil ?_
      refine ss_cons (s_lc [("row", 9), ("element", 4)] N_Structure_renamed (defScope s_Structure_renamed) 8 rfl sc_Structure_renamed.nd (ii_tup (ee_var 7 rfl ⟨b, rfl, ⟨_, e.t hb⟩, fun Lt hLt => ?_⟩)))
      have hbe := e.t hb
      have hVe := hV.mono e.tex
      have hvl : vs.length ≤ 16 := by rw [hV.1]; exact hok.2.1
      refine lt_mapT (K := K) vs (fun j y H2 => ∃ r, t.2.2[j]? = some r ∧ RowAt K H2 (r.map (piOf ps)) y) (fun j y H H' e ⟨r, h1, h2⟩ => ⟨r, h1, h2.mono e⟩) hLt hbe (by omega) (fun ys H h => nd_allref fun x hx => by
        obtain ⟨j, hj⟩ := List.mem_iff_getElem?.mp hx
        obtain ⟨r, _, a, e, _⟩ := h j x hj
        exact ⟨a, e⟩) ?_ ?_
      · rintro j x H5 hx e5 s0 H0 C cl fp
        obtain ⟨r, hrj, hrow⟩ := hVe.2 j x hx
        obtain ⟨pr, rfl, hpr⟩ := hrow.mono e5.tex
        have hrI := hok.1 r (List.mem_of_getElem? hrj)
        refine gg_name 9 ?_ sc_Structure_renamed.nd
        refine ⟨rfl, Ex.refl, ?_⟩
        intro s1 H01 C1 cl1 fp1
        refine ee_callTy (x := "tuple") G.z_tuple bt_tuple (aa_cons ?_)
        refine ee_lc [("element", 4)] N_Structure_renamed scRow rfl sc_Structure_renamed.nd (ii_tup (ee_var 9 rfl ⟨pr, rfl, ⟨_, SqT.of hpr⟩, fun Lu hLu => ?_⟩))
        refine lt_mapT (K := K) (r.map L2.V.int) (fun k y H2 => ∃ e, r[k]? = some e ∧ y = .int (piOf ps e)) (fun _ _ _ _ _ h => h) hLu (SqT.of hpr) (by rw [List.length_map, hrI.1]; have := (hw.nm htm).2.2; omega) (fun ys H h => nd_noref fun x hx a => by
          obtain ⟨j, hj⟩ := List.mem_iff_getElem?.mp hx
          obtain ⟨e, _, rfl⟩ := h j x hj
          intro z; cases z) ?_ ?_
        · intro k x H6 hx6 e6 s2 H02 C2 cl2 fp2
          rw [List.getElem?_map] at hx6
          cases hy : r[k]? with
          | none => rw [hy] at hx6; cases hx6
          | some el =>
          rw [hy] at hx6
          obtain rfl : L2.V.int el = x := Option.some.inj hx6
          have hel := hrI.2 el (List.mem_of_getElem? hy)
          refine gg_name 4 ?_ sc_Structure_renamed.nd
          refine ⟨rfl, Ex.refl, ?_⟩
          intro s3 H03 C3 cl3 fp3
          refine ee_ix (ee_var 1 rfl (ee_var 4 rfl (ix_li (SqL.of (hPx ((e.trans e5).trans e6))) hel.1 ?_ ⟨Ex.refl, el, rfl, rfl⟩)))
          rw [List.getElem?_map, hp.get hel.1 hel.2]; rfl
        · intro ys H6 e6 hL6 hyl hys
          obtain rfl : ys = (r.map (piOf ps)).map L2.V.int := by
            refine List.ext_getElem? fun k => ?_
            rw [List.getElem?_map, List.getElem?_map]
            rw [List.length_map] at hyl
            by_cases hk : k < ys.length
            · have hy : ys[k]? = some ys[k] := List.getElem?_eq_getElem hk
              obtain ⟨el, h1, h2⟩ := hys k _ hy
              rw [hy, h1, h2]; rfl
            · rw [List.getElem?_eq_none (by omega), List.getElem?_eq_none (by omega)]; rfl
          refine aa_nil (cc_tupL (SqL.of hL6) (fun p7 hp7 => ?_))
          exact ⟨e6.trans (Ex.new hp7), r, hrj, p7, rfl, upd_same⟩
      · intro ys H6 e6 hL6 hyl hys
        have hrows : RowsAt K H6 (rnm ps t).2.2 ys := by
          refine ⟨by rw [hyl, hV.1]; exact (List.length_map ..).symm, fun j y hj => ?_⟩
          obtain ⟨r, h1, h2⟩ := hys j y hj
          refine ⟨_, ?_, h2⟩
          show (t.2.2.map _)[j]? = _
          rw [List.getElem?_map, h1]; rfl
        have hR6 := e6.keep _ _ ndk hR'
        have hks6 : LAt (RlAt K R H6) ((rels.take i).map (rnm ps)) ks := hks.imp fun t u h => h.mono e6
        have hkl : ks.length ≤ 3 := by rw [hks.1, List.length_map, List.length_take, ← hU.1]; omega
        refine ss_cons (s_expr (ee_append (ee_var 2 rfl ⟨R, rfl, ⟨_, SqL.of hR6⟩, ee_tup (aa_cons (ee_var 5 rfl (aa_cons (ee_var 6 rfl (aa_cons (ee_var 8 rfl (aa_nil ⟨szk (by simp), fun tp htp => ?_⟩)))))))⟩)))
        have e7 := Ex.new (K := K) (o := .tup [.str t.1, .int t.2.1, .ref Lt]) htp
        have hnd7 := nd_allref hrows.refs
        have hR7 := e7.keep _ _ ndk hR6
        refine ⟨ks, hR7, by rw [sizeLine_eq]; omega, ?_⟩
        have hLR : Lt ≠ R := fun z => by rw [z, hR'] at hLt; cases hLt
        have hnew : RlAt K R (upd H6 tp (.tup [.str t.1, .int t.2.1, .ref Lt])) (rnm ps t) (.ref tp) := ⟨tp, Lt, ys, rfl, SqT.up, hLR, e7.keep _ _ hnd7 hL6, hrows.mono e7.tex⟩
        have hks7 : LAt (RlAt K R (upd H6 tp (.tup [.str t.1, .int t.2.1, .ref Lt]))) ((rels.take i).map (rnm ps)) ks := hks6.imp fun t u h => h.mono e7
        have e07 := (e.trans e6).trans e7
        generalize (upd H6 tp (.tup [.str t.1, .int t.2.1, .ref Lt])) = H7 at *
        have hks8 : LAt (RlAt K R H7) ((rels.take (i + 1)).map (rnm ps)) (ks ++ [.ref tp]) := by
          rw [take_succ_snoc hti, List.map_append]
          exact hks7.snoc hnew
        refine ss_nil ⟨_, _, _, _, _, _, _, _, rfl, e07.mut hR0, upd_same, nd_allref fun x hx => ?_, hks8.imp fun t u h => h.updL hR7⟩
        obtain ⟨t, _, a, _, _, e, _⟩ := hks8.mem hx
        exact ⟨a, e⟩
    · rintro σ H' ⟨a3, a4, a5, a6, a7, a8, a9, ks, rfl, e, hR', ndk, hks⟩
      rw [hU.1, List.take_length] at hks
      refine ss_cons (s_ret ?_)
      refine ee_make DS rfl hr ?_
      refine aa_cons (ee_fld (ee_var 0 rfl ⟨S, Cs, dx, _, _, rfl, e.keep _ _ nd_ins hS, CS.cls, CS.size, rfl, aa_cons (ee_var 2 rfl (aa_nil ?_))⟩))
      intro x dx' hx hdx hne
      have hx2 : upd H' dx' (.own x) x = none := by rw [upd_ne (Ne.symm hne)]; exact hx
      have e6 : Ex K H' (upd (upd H' dx' (.own x)) x (.ins Cs dx' [])) := (Ex.new hdx).trans (Ex.new hx2)
      have hwr : WOk n (rels.map (rnm ps)) := by
        refine ⟨by rw [List.map_map, ← hw.1]; rfl, fun t ht => ?_⟩
        obtain ⟨u, hu, rfl⟩ := List.mem_map.mp ht
        have hok := hw.2 u hu
        refine ⟨fun r hr => ?_, by show (List.map _ _).length ≤ 16; rw [List.length_map]; exact hok.2.1, ?_⟩
        · obtain ⟨r0, hr0, rfl⟩ := List.mem_map.mp hr
          exact hp.row (hok.1 r0 hr0)
        · exact hp.rows_nd hok.1 hok.2.2
      refine ⟨x, dx', R, ks, rels.map (rnm ps), n, rfl, upd_same, e6.keep _ _ ndk hR', hks.imp fun t u h => (h.toIn.mono e6), hwr, n1, n4, fun H2 e2 hst => ⟨rfl, ?_⟩⟩
      have hx0 : H x = none := e.there _ hx
      have e02 := e2 H (e.trans e6) hx0
      refine q x H2 e02 ?_
      rw [List.map_map] at hst
      exact hst
end
end Sy
namespace Sy
def rowD (r : List Int) : PyData := .tuple (r.map .int)
def relD (t : RelT) : PyData := .tuple [.str t.1, .int t.2.1, .tuple (t.2.2.map rowD)]
theorem layMem {α : Type} {f : α → PyData} : ∀ l : List α, (∀ a ∈ l, (f a).canLay0 = true) → PyData.canLayAll0 (l.map f) = true
  | [], _ => by simp [PyData.canLayAll0]
  | a :: l, h => by rw [List.map_cons]; simp [PyData.canLayAll0, h a (by simp), layMem l fun b hb => h b (by simp [hb])]
theorem layAll {α : Type} {f : α → PyData} (h : ∀ a, (f a).canLay0 = true) : ∀ l : List α, PyData.canLayAll0 (l.map f) = true
  | [] => by simp [PyData.canLayAll0]
  | a :: l => by rw [List.map_cons]; simp [PyData.canLayAll0, h a, layAll h l]
theorem depAll {α : Type} {f : α → PyData} {m : Nat} (h : ∀ a, (f a).depth ≤ m) : ∀ l : List α, PyData.depthAll (l.map f) ≤ m
  | [] => by simp [PyData.depthAll]
  | a :: l => by
    have h1 := h a
    have h2 := depAll h l
    rw [List.map_cons]
    simp only [PyData.depthAll]
    omega
theorem rowD_lay (r : List Int) : (rowD r).canLay0 = true := by
  unfold rowD
  simp only [PyData.canLay0]
  exact layAll (fun i => by simp [PyData.canLay0]) r
theorem rowD_dep (r : List Int) : (rowD r).depth ≤ 1 := by
  have h : PyData.depthAll (r.map PyData.int) ≤ 0 := depAll (fun i => by simp [PyData.depth]) r
  unfold rowD
  simp only [PyData.depth]
  omega
theorem nm_ok {x : Str} (h : x ∈ NM) : PyData.strOk x = true := by
  have : ∀ x ∈ NM, PyData.strOk x = true := by decide +kernel
  exact this x h
theorem relD_lay {t : RelT} (h : t.1 ∈ NM) : (relD t).canLay0 = true := by
  unfold relD
  simp [PyData.canLay0, PyData.canLayAll0, layAll rowD_lay, nm_ok h]
theorem relD_dep (t : RelT) : (relD t).depth ≤ 3 := by
  have h := depAll rowD_dep t.2.2
  unfold relD
  simp only [PyData.depth, PyData.depthAll]
  omega
theorem shp {d : PyData} (h : d.canLay0 = true) (h' : d.depth ≤ 64) : SeqAt.shaped d = true := by
  unfold SeqAt.shaped
  rw [h, decide_eq_true h']; rfl
theorem rels_shaped {rels : List RelT} (hn : ∀ t ∈ rels, t.1 ∈ NM) : SeqAt.shaped (.list (rels.map relD)) = true := by
  have h := depAll relD_dep rels
  refine shp ?_ ?_
  · simp only [PyData.canLay0]; exact layMem rels fun t ht => relD_lay (hn t ht)
  · simp only [PyData.depth]; omega
theorem dp_ints {K : PySem.W.Frag} {H : Hp} : ∀ {r : List Int}, DpAll K H (r.map L2.V.int) (r.map .int)
  | [] => .nil
  | i :: r => .cons (.int i) dp_ints
theorem dp_row {K : PySem.W.Frag} {H : Hp} {r : List Int} {v : V} (h : RowAt K H r v) : Dp K H v (rowD r) := by
  obtain ⟨a, rfl, h⟩ := h
  exact .tup (SqT.of h) dp_ints
theorem dp_rel {K : PySem.W.Frag} {H : Hp} {t : RelT} {v : V} (h : RelAt K H t v) : Dp K H v (relD t) := by
  obtain ⟨a, b, vs, rfl, h1, h2, h3⟩ := h
  exact .tup h1 (.cons (.str _) (.cons (.int _) (.cons (.tup h2 (dpAll_of (R := RowAt K H) rowD (fun t u h => dp_row h) h3)) .nil)))
section
variable {w : World} {K : PySem.W.Frag} {mg : Str → Option Value} {base : Heap} {Cs : Addr}
def SameSt (K : PySem.W.Frag) (Cs : Addr) (a b : Addr) (H : Hp) : Prop := ∃ n rels, StAt K Cs H a n rels ∧ StAt K Cs H b n rels ∧ ∀ t ∈ rels, t.1 ∈ NM
theorem dm_eq (T : TopM K Cs "__eq__" "Structure.__eq__" s_Structure_eq) (G : Gs K mg) (CS : CSk K Cs) (hC : mg "Structure" = some (.ref Cs)) (IC : C8.InsC K Cs) : Dm w K mg base Cs "__eq__" 1 (spEq (SameSt K Cs)) := by
  refine T.dm sc_Structure_eq (fun vs H Q E h => ?_) (fun _ _ _ _ _ _ us hl => match us, hl with | [_, _], _ => rfl) (fun f cd A outer s H vs Q E hr h => ?_)
  · obtain ⟨a, b, rfl, _⟩ := h; rfl
  · obtain ⟨a, b, rfl, ⟨n, rels, ⟨dx, L, us, h1, h2, h3⟩, ⟨dy, L', us', g1, g2, g3⟩, hn⟩, q⟩ := h
    refine ss_cons (s_ret (ee_and ?_))
    refine ee_callB (x := "isinstance") G.z_isinstance bt_isinstance (aa_cons (ee_var 1 rfl (aa_cons (ee_glob (v := .ref _) (u := .ref _) hC rfl (aa_nil ?_)))))
    refine cc_of (C8.call_isC IC) ⟨b, dy, _, rfl, g1, true, rfl, iteT (ee_and (ee_cmp ?_))⟩
    refine ee_fld (ee_var 0 rfl ⟨a, Cs, dx, _, _, rfl, h1, CS.cls, CS.size, rfl, ee_fld (ee_var 1 rfl ⟨b, Cs, dy, _, _, rfl, g1, CS.cls, CS.size, rfl, oo_eqi ?_⟩)⟩)
    refine ⟨true, by simp, iteT (ee_one (ee_cmp ?_))⟩
    refine ee_fld (ee_var 0 rfl ⟨a, Cs, dx, _, _, rfl, h1, CS.cls, CS.rels, rfl, ee_fld (ee_var 1 rfl ⟨b, Cs, dy, _, _, rfl, g1, CS.cls, CS.rels, rfl, ?_⟩)⟩)
    refine co_of (op_eqD hr.units) ⟨.list (rels.map relD), .list (rels.map relD), .lst (SqL.of h2) (dpAll_of relD (fun t u h => dp_rel h) h3), .lst (SqL.of g2) (dpAll_of relD (fun t u h => dp_rel h) g3), rels_shaped hn, rels_shaped hn, ?_⟩
    rw [SeqAt.eqv_refl]
    · exact q H Ext.rfl'
    · exact SeqAt.canLay_of_shaped (rels_shaped hn)
end
end Sy
namespace Sy
theorem Ex.ofExt {K : PySem.W.Frag} {H H' : Hp} (e : Ext H H') : Ex K H H' := ⟨fun b o _ h => e b o h, fun D N ns ⟨i, h1, h2, h3⟩ => ⟨i, e _ _ h1, h2.ext e, h3⟩, fun b h => by
  cases hb : H b with
  | none => rfl
  | some o => have := e b o hb; rw [h] at this; cases this⟩
section
variable {X : Cx} {σ : L2.St} {H : Hp} {Q : VK} {k1 k2 k3 v1 v2 v3 : Expr} {pos : Pos} {C a b dx dy : Addr} {fs gs : List (Str × V)}
theorem oo_own {R : Addr → Addr → Hp → Prop} {k : Nat} (d : Dm X.w X.K X.mg X.base C "__eq__" k (spEq R)) (hP : X.prog = P) (hr : Room k X.A) (ha : H a = some (.ins C dx fs)) (hb : H b = some (.ins C dy gs)) (hR : R a b H) (q : ∀ H', Ex X.K H H' → Q (.bl true) H') : CO X .Eq (.ref a) (.ref b) H Q := by
  obtain ⟨f, fd, ps, F, hm, hbn⟩ := d.ex
  rw [← hP] at F
  exact co_of (op_eqG (rcG_ins (E := E0) F hm.at_ hm.fn hbn pass0) hr) ⟨⟨a, b, _, _, _, _, rfl, rfl, ha, hb, hR⟩, fun H' e => q H' (Ex.ofExt e)⟩
theorem ee_disp3 (h : ∀ p, H p = none → EE X k1 σ (upd H p (.dK [])) fun a1 H1 => EE X v1 σ H1 fun b1 H2 => EE X k2 σ H2 fun a2 H3 => EE X v2 σ H3 fun b2 H4 => EE X k3 σ H4 fun a3 H5 => EE X v3 σ H5 fun b3 H6 =>
    H6 p = some (.dK []) ∧ ∃ x1 x2 x3, a1 = .str x1 ∧ a2 = .str x2 ∧ a3 = .str x3 ∧ Q (.ref p) (upd H6 p (.dK (putK (putK (putK [] (.inr x1) b1) (.inr x2) b2) (.inr x3) b3))))
    : EE X (.Dict [some k1, some k2, some k3] [v1, v2, v3] pos) σ H Q := by
  refine ee_of (pe_disp (pps_cons EE.pe EE.pe (pps_cons EE.pe EE.pe (pps_cons EE.pe EE.pe pps_nil))) rfl rfl (fun z => by cases z) (by show 3 ≤ 15; decide)) ?_
  intro p hp
  refine ⟨fun pins s I => thn ((h p hp).run pins s I) fun u s' ⟨a1, H1, I1, r1, q1⟩ => ⟨a1, H1, I1, r1, ?_⟩⟩
  refine ⟨fun pins s I => thn (q1.run pins s I) fun u s' ⟨b1, H2, I2, r2, q2⟩ => ⟨b1, H2, I2, r2, ?_⟩⟩
  refine ⟨fun pins s I => thn (q2.run pins s I) fun u s' ⟨a2, H3, I3, r3, q3⟩ => ⟨a2, H3, I3, r3, ?_⟩⟩
  refine ⟨fun pins s I => thn (q3.run pins s I) fun u s' ⟨b2, H4, I4, r4, q4⟩ => ⟨b2, H4, I4, r4, ?_⟩⟩
  refine ⟨fun pins s I => thn (q4.run pins s I) fun u s' ⟨a3, H5, I5, r5, q5⟩ => ⟨a3, H5, I5, r5, ?_⟩⟩
  refine ⟨fun pins s I => thn (q5.run pins s I) fun u s' ⟨b3, H6, I6, r6, g, x1, x2, x3, e1, e2, e3, q6⟩ => ⟨b3, H6, I6, r6, ?_⟩⟩
  subst e1; subst e2; subst e3
  exact ⟨g, [(.inr x1, b1), (.inr x2, b2), (.inr x3, b3)], rfl, by simp, q6⟩
end
theorem vals3 {H : Hp} {p : Addr} {a b c : Int} {val : Str → Int} (h : H p = some (.dK (putK (putK (putK [] (.inr "x") (.int a)) (.inr "y") (.int b)) (.inr "z") (.int c)))) (hx : val "x" = a) (hy : val "y" = b) (hz : val "z" = c) : ValsAt H p (· ∈ VR) val := by
  refine ⟨_, h, ((KeyOk.nil.put (by decide)).put (by decide)).put (by decide), fun x hx' => ?_⟩
  have h3 : x = "x" ∨ x = "y" ∨ x = "z" := by simpa [VR] using hx'
  rcases h3 with rfl | rfl | rfl
  · rw [valV_put, if_neg (by decide), valV_put, if_neg (by decide), valV_put, if_pos rfl, hx]
  · rw [valV_put, if_neg (by decide), valV_put, if_pos rfl, hy]
  · rw [valV_put, if_pos rfl, hz]
theorem bind3 (v0 : Str → Int) (a b c : Int) : bindR v0 VR [a, b, c] "x" = a ∧ bindR v0 VR [a, b, c] "y" = b ∧ bindR v0 VR [a, b, c] "z" = c := by
  refine ⟨?_, ?_, ?_⟩
  · show bind1 (bind1 (bind1 v0 "x" a) "y" b) "z" c "x" = a
    unfold bind1
    rw [if_neg (by decide), if_neg (by decide), if_pos rfl]
  · show bind1 (bind1 (bind1 v0 "x" a) "y" b) "z" c "y" = b
    unfold bind1
    rw [if_neg (by decide), if_pos rfl]
  · show bind1 (bind1 (bind1 v0 "x" a) "y" b) "z" c "z" = c
    unfold bind1
    rw [if_pos rfl]
section
variable {w : World} {K : PySem.W.Frag} {mg : Str → Option Value} {base : Heap}
def spValued (K : PySem.W.Frag) : Sp := fun vs H Q _ => ∃ v a b c, vs = [v] ∧ RowAt K H [a, b, c] v ∧ ∀ H' p, Ex K H H' → H' p = some (.dK (putK (putK (putK [] (.inr "x") (.int a)) (.inr "y") (.int b)) (.inr "z") (.int c))) → Q (.ref p) H'
theorem dn_valued (T : Top K mg "_law_valued" s_L_valued) : Dn w K mg base "_law_valued" 1 (spValued K) := by
  refine T.dn sc_L_valued (fun vs H Q E h => ?_) (fun _ _ _ _ _ _ us hl => match us, hl with | [_], _ => rfl) (fun f cd A outer s H vs Q E hr h => ?_)
  · obtain ⟨v, a, b, c, rfl, _⟩ := h; rfl
  · obtain ⟨v, a, b, c, rfl, ⟨p0, rfl, hp0⟩, q⟩ := h
    refine ss_cons (s_ret (ee_disp3 fun p hp => ?_))
    have e1 : Ex K H (upd H p (.dK [])) := Ex.new hp
    have h0 := SqT.of (K := K) (e1.tr hp0)
    refine ee_str (ee_ix (ee_var 0 rfl (ee_int (ix_t 0 h0 rfl ?_))))
    refine ee_str (ee_ix (ee_var 0 rfl (ee_int (ix_t 1 h0 rfl ?_))))
    refine ee_str (ee_ix (ee_var 0 rfl (ee_int (ix_t 2 h0 rfl ?_))))
    refine ⟨upd_same, _, _, _, rfl, rfl, rfl, ?_⟩
    exact q _ p (e1.mut hp) upd_same
def spEqI : Sp := fun vs H Q _ => ∃ i, vs = [.int i, .int i] ∧ Q (.bl true) H
theorem dn_eqI (T : Top K mg "_law_equal" s_L_equal) (G : Gs K mg) : Dn w K mg base "_law_equal" 1 spEqI := by
  refine T.dn sc_L_equal (fun vs H Q E h => ?_) (fun _ _ _ _ _ _ us hl => match us, hl with | [_, _], _ => rfl) (fun f cd A outer s H vs Q E hr h => ?_)
  · obtain ⟨i, rfl, _⟩ := h; rfl
  · obtain ⟨i, rfl, q⟩ := h
    walk_at "go"
    rw [decide_eq_true rfl]
    exact q
def spEqB : Sp := fun vs H Q _ => ∃ i, vs = [.bl i, .bl i] ∧ Q (.bl true) H
theorem dn_eqB (T : Top K mg "_law_equal" s_L_equal) (G : Gs K mg) : Dn w K mg base "_law_equal" 1 spEqB := by
  refine T.dn sc_L_equal (fun vs H Q E h => ?_) (fun _ _ _ _ _ _ us hl => match us, hl with | [_, _], _ => rfl) (fun f cd A outer s H vs Q E hr h => ?_)
  · obtain ⟨i, rfl, _⟩ := h; rfl
  · obtain ⟨i, rfl, q⟩ := h
    walk_at "go"
    show Q (.bl (decide (i = i))) H
    rw [decide_eq_true rfl]
    exact q
def spAllI (K : PySem.W.Frag) : Sp := fun vs H Q _ => ∃ a b, ∃ r : List Int, vs = [.ref a, .ref b] ∧ SqT K H a (r.map V.int) ∧ SqT K H b (r.map V.int) ∧ r.length ≤ 100 ∧ Q (.bl true) H
theorem dn_allI (T : Top K mg "_law_all_equal" s_L_all_equal) (G : Gs K mg) (DI : Dn w K mg base "_law_equal" 1 spEqI) : Dn w K mg base "_law_all_equal" 2 (spAllI K) := by
  refine T.dn sc_L_all_equal (fun vs H Q E h => ?_) (fun _ _ _ _ _ _ us hl => match us, hl with | [_, _], _ => rfl) (fun f cd A outer s H vs Q E hr h => ?_)
  · obtain ⟨a, b, r, rfl, _⟩ := h; rfl
  · obtain ⟨a, b, r, rfl, ha, hb, hl, q⟩ := h
    refine ss_cons (s_forT PassesOwn.never rfl (ii_range G.z_range ?_))
    walk_at "ge"
    refine ⟨by rw [List.length_map]; omega, by rw [List.length_map]; omega, ?_⟩
    rw [Int.toNat_natCast, List.length_map]
    refine turns_range r.length (fun i σ H' => ∃ z, σ = [some (.ref a), some (.ref b), z] ∧ H' = H) ⟨none, rfl, rfl⟩ ?_ ?_
    · rintro i σ H' hi ⟨z, rfl, rfl⟩
      have hri : (r.map V.int)[i]? = some (.int (r[i]'hi)) := by rw [List.getElem?_map, List.getElem?_eq_getElem hi]; rfl
      refine gg_name 2 ?_ sc_L_all_equal.nd
      refine ss_cons (s_if (bb_not (bb_val ?_)))
      refine ee_call DI rfl hr ?_
      refine aa_cons (ee_ix (ee_var 0 rfl (ee_var 2 rfl ?_)))
      rw [Int.zero_add]
      refine ix_t i ha hri (aa_cons (ee_ix (ee_var 1 rfl (ee_var 2 rfl ?_))))
      refine ix_t i hb hri (aa_nil ⟨_, rfl, ?_⟩)
      exact bq (if_f rfl (ss_nil (ss_nil ⟨_, rfl, rfl⟩)))
    · rintro σ H' ⟨z, rfl, rfl⟩
      walk_at "go"
      exact q
def spEqRow (K : PySem.W.Frag) : Sp := fun vs H Q _ => ∃ u v r, vs = [u, v] ∧ RowAt K H r u ∧ RowAt K H r v ∧ r.length ≤ 100 ∧ Q (.bl true) H
theorem dn_eqRow (T : Top K mg "_law_equal" s_L_equal) (G : Gs K mg) (DA : Dn w K mg base "_law_all_equal" 2 (spAllI K)) : Dn w K mg base "_law_equal" 3 (spEqRow K) := by
  refine T.dn sc_L_equal (fun vs H Q E h => ?_) (fun _ _ _ _ _ _ us hl => match us, hl with | [_, _], _ => rfl) (fun f cd A outer s H vs Q E hr h => ?_)
  · obtain ⟨u, v, r, rfl, _⟩ := h; rfl
  · obtain ⟨u, v, r, rfl, ⟨a, rfl, ha⟩, ⟨b, rfl, hb⟩, hl, q⟩ := h
    have ha' := SqT.of (K := K) ha
    have hb' := SqT.of (K := K) hb
    walk_at "go"
    refine if_f (by simp) ?_
    walk_at "go"
    refine ee_call DA rfl hr ?_
    walk_at "ge"
    exact ⟨a, b, r, rfl, ha', hb', hl, q⟩
def spAllR (K : PySem.W.Frag) : Sp := fun vs H Q _ => ∃ a b us ws rs, vs = [.ref a, .ref b] ∧ H a = some (.lst us) ∧ H b = some (.lst ws) ∧ RowsAt K H rs us ∧ RowsAt K H rs ws ∧ rs.length ≤ 100 ∧ (∀ r ∈ rs, r.length ≤ 100) ∧ Q (.bl true) H
theorem dn_allR (T : Top K mg "_law_all_equal" s_L_all_equal) (G : Gs K mg) (DI : Dn w K mg base "_law_equal" 3 (spEqRow K)) : Dn w K mg base "_law_all_equal" 4 (spAllR K) := by
  refine T.dn sc_L_all_equal (fun vs H Q E h => ?_) (fun _ _ _ _ _ _ us hl => match us, hl with | [_, _], _ => rfl) (fun f cd A outer s H vs Q E hr h => ?_)
  · obtain ⟨a, b, us, ws, rs, rfl, _⟩ := h; rfl
  · obtain ⟨a, b, us, ws, rs, rfl, ha, hb, hU, hW, hl, hrl, q⟩ := h
    have hul := hU.1
    have hwl := hW.1
    refine ss_cons (s_forT PassesOwn.never rfl (ii_range G.z_range ?_))
    refine aa_cons (ee_callB (x := "len") G.z_len bt_len (aa_cons (ee_var 1 rfl (aa_nil (cc_lenL (SqL.of hb) (aa_nil ⟨_, rfl, by omega, by omega, ?_⟩))))))
    rw [Int.toNat_natCast, hwl]
    refine turns_range rs.length (fun i σ H' => ∃ z, σ = [some (.ref a), some (.ref b), z] ∧ H' = H) ⟨none, rfl, rfl⟩ ?_ ?_
    · rintro i σ H' hi ⟨z, rfl, rfl⟩
      have hu : us[i]? = some (us[i]'(by omega)) := List.getElem?_eq_getElem _
      have hw : ws[i]? = some (ws[i]'(by omega)) := List.getElem?_eq_getElem _
      obtain ⟨r, hr1, hr2⟩ := hU.2 i _ hu
      obtain ⟨r', hr1', hr2'⟩ := hW.2 i _ hw
      obtain rfl : r = r' := Option.some.inj (hr1.symm.trans hr1')
      refine gg_name 2 ?_ sc_L_all_equal.nd
      refine ss_cons (s_if (bb_not (bb_val ?_)))
      refine ee_call DI rfl hr ?_
      refine aa_cons (ee_ix (ee_var 0 rfl (ee_var 2 rfl ?_)))
      rw [Int.zero_add]
      refine ix_l i (SqL.of ha) hu (aa_cons (ee_ix (ee_var 1 rfl (ee_var 2 rfl (ix_l i (SqL.of hb) hw (aa_nil ⟨_, _, r, rfl, hr2, hr2', hrl r (List.mem_of_getElem? hr1), ?_⟩))))))
      exact bq (if_f rfl (ss_nil (ss_nil ⟨_, rfl, rfl⟩)))
    · rintro σ H' ⟨z, rfl, rfl⟩
      walk_at "go"
      exact q
theorem dn_eqRows (T : Top K mg "_law_equal" s_L_equal) (G : Gs K mg) (DA : Dn w K mg base "_law_all_equal" 4 (spAllR K)) : Dn w K mg base "_law_equal" 5 (spAllR K) := by
  refine T.dn sc_L_equal (fun vs H Q E h => ?_) (fun _ _ _ _ _ _ us hl => match us, hl with | [_, _], _ => rfl) (fun f cd A outer s H vs Q E hr h => ?_)
  · obtain ⟨a, b, us, ws, rs, rfl, _⟩ := h; rfl
  · obtain ⟨a, b, us, ws, rs, rfl, ha, hb, hU, hW, hl, hrl, q⟩ := h
    have ha' := SqL.of (K := K) ha
    have hb' := SqL.of (K := K) hb
    have hul := hU.1
    have hwl := hW.1
    walk_at "go"
    refine if_f (by rw [hul, hwl]; simp) ?_
    walk_at "go"
    refine ee_call DA rfl hr ?_
    walk_at "ge"
    exact ⟨a, b, us, ws, rs, rfl, ha, hb, hU, hW, hl, hrl, q⟩
end
end Sy
namespace Sy
theorem eqvAll_ints : ∀ r s : List Int, PyData.eqvAll (r.map .int) (s.map .int) = decide (r = s)
  | [], [] => rfl
  | [], b :: s => by simp [PyData.eqvAll]
  | a :: r, [] => by simp [PyData.eqvAll]
  | a :: r, b :: s => by
    have ih := eqvAll_ints r s
    rw [List.map_cons, List.map_cons]
    simp only [PyData.eqvAll, PyData.eqv, ih]
    by_cases h : a = b
    · subst h; by_cases h2 : r = s
      · subst h2; simp
      · simp [h2]
    · have : (a == b) = false := beq_eq_false_iff_ne.mpr h
      rw [this]; simp [h]
theorem eqv_row (r s : List Int) : PyData.eqv (rowD r) (rowD s) = decide (r = s) := by
  unfold rowD
  simp only [PyData.eqv]
  exact eqvAll_ints r s
theorem any_row {rs : List (List Int)} {r : List Int} : ((rs.map rowD).any fun z => PyData.eqv z (rowD r)) = decide (r ∈ rs) := by
  induction rs with
  | nil => simp
  | cons s rs ih =>
    rw [List.map_cons, List.any_cons, ih, eqv_row]
    by_cases h : s = r
    · subst h; simp
    · have h' : ¬ r = s := fun z => h z.symm
      simp [h, h']
theorem rows_shaped (rs : List (List Int)) : SeqAt.shaped (.list (rs.map rowD)) = true := by
  have h := depAll rowD_dep rs
  refine shp ?_ ?_
  · simp only [PyData.canLay0]; exact layAll rowD_lay rs
  · simp only [PyData.depth]; omega
theorem row_shaped (r : List Int) : SeqAt.shaped (rowD r) = true := shp (rowD_lay r) (by have := rowD_dep r; omega)
theorem mem_sols {n : Nat} {φ : F} {ρ : Str → Rel} {val : Str → Int} {r : List Int} : r ∈ sols n φ ρ val ↔ IsRow n 3 r ∧ Sem (n : Int) φ ρ (bindR val VR r) := by
  unfold sols
  rw [List.mem_filter, mem_rowsL, @decide_eq_true_iff _ (Classical.propDecidable _)]
theorem sols_self {n : Nat} {φ : F} {ρ : Str → Rel} {val : Str → Int} : ((rowsL n 3).filter fun r => decide (r ∈ sols n φ ρ val)) = sols n φ ρ val := by
  conv => rhs; unfold sols
  refine List.filter_congr fun r hr => ?_
  rw [decide_eq_decide, mem_sols]
  exact ⟨fun h => h.2, fun h => ⟨mem_rowsL.mp hr, h⟩⟩
theorem sols_nd {n : Nat} {φ : F} {ρ : Str → Rel} {val : Str → Int} : (sols n φ ρ val).Nodup := (rowsL_nd n 3).filter _
theorem sols_len {n : Nat} {φ : F} {ρ : Str → Rel} {val : Str → Int} (hn : n ≤ 4) : (sols n φ ρ val).length ≤ 64 := by
  refine Nat.le_trans (List.length_filter_le _ _) ?_
  rw [rowsL_len]; exact pow_small hn (by omega)
/-- each element is told -/
theorem PermL.onto {n : Nat} {ps : List Int} (p : PermL n ps) {y : Int} (h0 : 0 ≤ y) (h1 : y < n) : ∃ x, (0 ≤ x ∧ x < (n : Int)) ∧ piOf ps x = y := by
  have hm : y ∈ ps := by
    refine Classical.byContradiction fun hm => ?_
    have hnd : (y :: ps).Nodup := List.nodup_cons.mpr ⟨hm, p.nd⟩
    have := few_of_nodup (d := (List.range n).map fun i : Nat => (i : Int)) hnd fun x hx => by
      have hx' : 0 ≤ x ∧ x < n := by
        rcases List.mem_cons.mp hx with rfl | hx
        · exact ⟨h0, h1⟩
        · exact p.lt x hx
      exact List.mem_map.mpr ⟨x.toNat, List.mem_range.mpr (by omega), by omega⟩
    rw [List.length_cons, p.len, List.length_map, List.length_range] at this
    omega
  obtain ⟨i, hi⟩ := List.mem_iff_getElem?.mp hm
  have hil := (List.getElem?_eq_some_iff.mp hi).1
  have hl := p.len
  refine ⟨(i : Int), ⟨by omega, by omega⟩, ?_⟩
  unfold piOf
  rw [Int.toNat_natCast, hi]; rfl
theorem PermL.perm {n : Nat} {ps : List Int} (p : PermL n ps) : ∃ τ, Perm (n : Int) (piOf ps) τ := by
  obtain ⟨τ, hτ⟩ := Classical.axiomOfChoice (r := fun y x : Int => 0 ≤ y ∧ y < (n : Int) → (0 ≤ x ∧ x < (n : Int)) ∧ piOf ps x = y) fun y => by
    by_cases h : 0 ≤ y ∧ y < (n : Int)
    · obtain ⟨x, h1, h2⟩ := p.onto h.1 h.2
      exact ⟨x, fun _ => ⟨h1, h2⟩⟩
    · exact ⟨0, fun h' => absurd h' h⟩
  refine ⟨τ, fun x h0 h1 => p.pi h0 h1, fun x h0 h1 => (hτ x ⟨h0, h1⟩).1, fun x h0 h1 => ?_, fun x h0 h1 => (hτ x ⟨h0, h1⟩).2⟩
  have hp := p.pi h0 h1
  have := hτ _ hp
  exact p.inj this.1 ⟨h0, h1⟩ this.2
theorem relren {n : Nat} {ps : List Int} {rels : List RelT} (hw : WOk n rels) (p : PermL n ps) (nm : Str) : RelRen (n : Int) (piOf ps) (relOf rels nm) (relOf (rels.map fun t => nrm n (rnm ps t)) nm) := by
  intro r hr
  constructor
  · rintro ⟨t', ht', e, hm⟩
    obtain ⟨t, ht, rfl⟩ := List.mem_map.mp ht'
    obtain ⟨h1, h2⟩ := List.mem_filter.mp hm
    obtain ⟨q, hq, hqe⟩ := List.mem_map.mp (of_decide_eq_true h2)
    refine ⟨t, ht, e, ?_⟩
    have := p.map_inj ((hw.2 t ht).1 q hq).2 hr hqe
    rw [← this]; exact hq
  · rintro ⟨t, ht, e, hm⟩
    refine ⟨_, List.mem_map.mpr ⟨t, ht, rfl⟩, e, ?_⟩
    refine List.mem_filter.mpr ⟨mem_rowsL.mpr (p.row ((hw.2 t ht).1 r hm)), ?_⟩
    exact decide_eq_true (List.mem_map.mpr ⟨r, hm, rfl⟩)
theorem bindR_in {n : Int} {v0 : Str → Int} (h0 : ∀ x, 0 ≤ v0 x ∧ v0 x < n) : ∀ (vs : List Str) (r : List Int), (∀ x ∈ r, 0 ≤ x ∧ x < n) → ∀ x, 0 ≤ bindR v0 vs r x ∧ bindR v0 vs r x < n
  | [], r, _, x => by simpa [bindR] using h0 x
  | y :: vs, [], _, x => by simpa [bindR] using h0 x
  | y :: vs, v :: r, hr, x => by
    show 0 ≤ bindR (bind1 v0 y v) vs r x ∧ bindR (bind1 v0 y v) vs r x < n
    refine bindR_in (fun z => ?_) vs r (fun z hz => hr z (by simp [hz])) x
    unfold bind1
    split
    · exact hr v (by simp)
    · exact h0 z
/-- the law for one formula -/
theorem ren_one {n : Nat} {ps : List Int} {rels : List RelT} {φ : F} (hw : WOk n rels) (p : PermL n ps) (hl : NoLess φ) (val : Str → Int) (hv : ∀ x, 0 ≤ val x ∧ val x < (n : Int)) :
    Sem (n : Int) φ (relOf (rels.map fun t => nrm n (rnm ps t))) (fun x => piOf ps (val x)) ↔ Sem (n : Int) φ (relOf rels) val := by
  obtain ⟨τ, hp⟩ := p.perm
  exact sem_ren hp φ hl _ _ val _ (relren hw p) (fun _ => rfl) hv
theorem ren_rows {n : Nat} {ps : List Int} {rels : List RelT} {φ : F} (hw : WOk n rels) (p : PermL n ps) (hl : NoLess φ) (v0 : Str → Int) (h0 : ∀ x, 0 ≤ v0 x ∧ v0 x < (n : Int)) :
    ((rowsL n 3).filter fun r => decide (r ∈ (sols n φ (relOf rels) v0).map fun r => r.map (piOf ps))) = sols n φ (relOf (rels.map fun t => nrm n (rnm ps t))) (fun x => piOf ps (v0 x)) := by
  conv => rhs; unfold sols
  refine List.filter_congr fun r hr => ?_
  have hrI := mem_rowsL.mp hr
  rw [decide_eq_decide, List.mem_map]
  have key : ∀ q, IsRow n 3 q → (Sem (n : Int) φ (relOf (rels.map fun t => nrm n (rnm ps t))) (bindR (fun x => piOf ps (v0 x)) VR (q.map (piOf ps))) ↔ Sem (n : Int) φ (relOf rels) (bindR v0 VR q)) := fun q hq => by
    have h1 := ren_one hw p hl (bindR v0 VR q) (bindR_in h0 VR q hq.2)
    have h2 : bindR (fun x => piOf ps (v0 x)) VR (q.map (piOf ps)) = fun x => piOf ps (bindR v0 VR q x) := funext fun x => bindR_ren (val := v0) (val' := fun x => piOf ps (v0 x)) (π := piOf ps) (fun _ => rfl) VR q x
    rw [h2]; exact h1
  constructor
  · rintro ⟨q, hq, rfl⟩
    obtain ⟨h1, h2⟩ := mem_sols.mp hq
    exact (key q h1).mpr h2
  · intro h
    obtain ⟨τ, hp⟩ := p.perm
    refine ⟨r.map τ, mem_sols.mpr ⟨hp.symm.row hrI, ?_⟩, ?_⟩
    · refine (key _ (hp.symm.row hrI)).mp ?_
      rw [hp.symm.back hrI.2]; exact h
    · exact hp.symm.back hrI.2
theorem bool_of {b : Bool} {p q : Prop} [Decidable q] (h : b = true ↔ p) (h2 : p ↔ q) : b = decide q := by
  by_cases hq : q
  · rw [decide_eq_true hq]; exact h.mpr (h2.mpr hq)
  · rw [decide_eq_false hq]
    cases b with
    | true => exact absurd (h2.mp (h.mp rfl)) hq
    | false => rfl
theorem bools_eq {b c : Bool} {p q : Prop} (h : b = true ↔ p) (h' : c = true ↔ q) (h2 : p ↔ q) : b = c := by
  cases b <;> cases c <;> first | rfl | (exfalso; simp at h h'; first | exact h' (h2.mp h) | exact h (h2.mpr h'))
end Sy
namespace Sy
/-- the defs that the law calls -/
structure LD (w : World) (K : PySem.W.Frag) (mg : Str → Option Value) (base : Heap) (Cs : Addr) : Prop where
  dd : Dn w K mg base "_law_draw" 2 (spDraw K)
  eqB : Dn w K mg base "_law_equal" 1 spEqB
  eqR : Dn w K mg base "_law_equal" 5 (spAllR K)
  ho : Dn w K mg base "holds" 19 (spHolds K Cs 4)
  qu : Dn w K mg base "query" 19 (spQuery K Cs 4)
  va : Dn w K mg base "_law_valued" 1 (spValued K)
  fm : ∀ d, Dn w K mg base "_law_formula" (2 * d + 5) (spFm K 1 (d + 1))
  nl : Dn w K mg base "_law_no_less" 5 (spNoLess K 4)
  lc : Dn w K mg base "_law_cost" 6 (spLCost K 4)
  na : Dn w K mg base "_law_names" 3 (spLawNames K)
  li : Dn w K mg base "_law_lists" 1 (spLists K)
  wo : Dn w K mg base "_law_world" 4 (spWorld K)
  so : Dn w K mg base "_law_some_of" 3 (spSomeOf K)
  nu : Dn w K mg base "_law_numbers" 2 (spNumbers K)
  st : Dk w K mg base "Structure" Cs 5 (spSInit K Cs)
  rn : Dm w K mg base Cs "renamed" 7 (spRenamed K Cs)
  eq : Dm w K mg base Cs "__eq__" 1 (spEq (SameSt K Cs))
/-- what the law holds on to -/
structure LwSt (K : PySem.W.Frag) (Cs : Addr) (n : Nat) (ps : List Int) (rels : List RelT) (D N : Addr) (ns : List Int) (S O Pm Ki : Addr) (H : Hp) : Prop where
  dr : Draws K D N ns H
  s : StAt K Cs H S n rels
  o : StAt K Cs H O n (rels.map fun t => nrm n (rnm ps t))
  p : H Pm = some (.lst (ps.map L2.V.int))
  k : H Ki = some (.lst KIv)
theorem LwSt.mono {K : PySem.W.Frag} {Cs : Addr} {n : Nat} {ps : List Int} {rels : List RelT} {D N : Addr} {ns : List Int} {S O Pm Ki : Addr} {H H' : Hp} (e : Ex K H H') (h : LwSt K Cs n ps rels D N ns S O Pm Ki H) : LwSt K Cs n ps rels D N ns S O Pm Ki H' :=
  ⟨e.dr _ _ _ h.dr, h.s.mono e, h.o.mono e, e.keep _ _ nd_ints h.p, e.keep _ _ kiv_nd h.k⟩
def lawBody : List Stmt := match (defBody s_law).getD 7 (.Pass ⟨0, 0, 0, 0⟩) with | .For _ _ bd _ _ => bd | _ => []
def rowBody : List Stmt := match lawBody.getD 8 (.Pass ⟨0, 0, 0, 0⟩) with | .For _ _ bd _ _ => bd | _ => []
/-- the names of the law -/
abbrev lw8 (sc : Addr) (D : Addr) (n : Nat) (Wl S Pm O Ki : Addr) (r : L2.St) : L2.St := some (.ref sc) :: some (.ref D) :: some (.int (n : Nat)) :: some (.ref Wl) :: some (.ref S) :: some (.ref Pm) :: some (.ref O) :: some (.ref Ki) :: r
section
variable {w : World} {K : PySem.W.Frag} {mg : Str → Option Value} {base : Heap} {Cs : Addr} {f : Addr} {cd : Value} {A : Around} {outer : List Env} {s0 : Shared} {H0 : Hp} {E : XK}
theorem law_row (L : LD w K mg base Cs) (G : Gs K mg) (hr : Room 20 (A.deeper (envOfC "law" (defScope s_law) s0.heap.objs.size f cd))) {De : Ends} {n : Nat} {ps : List Int} {rels : List RelT} {D N : Addr} {ns : List Int} {sc Wl S O Pm Ki Lr Ld Vd Vt : Addr} {φ : F} {v : L2.V} {val v0 : Str → Int} {ys zs : List L2.V} {t8 t15 t16 t17 : Option L2.V} {k : Nat} {H : Hp}
    (hw : WOk n rels) (hp : PermL n ps) (hl : NoLess φ) (hin : FmIn n φ 4) (hF : FmAt K H φ v) (hS : LwSt K Cs n ps rels D N ns S O Pm Ki H) (hv0 : ∀ x, 0 ≤ v0 x ∧ v0 x < (n : Int)) (hV : ValsAt H Vd (· ∈ VR) val) (hval : ValOk n val)
    (hLr : H Lr = some (.lst ys)) (hys : RowsAt K H (sols n φ (relOf rels) v0) ys) (hLd : H Ld = some (.lst zs)) (hzs : RowsAt K H (sols n φ (relOf (rels.map fun t => nrm n (rnm ps t))) fun x => piOf ps (v0 x)) zs)
    (q : ∀ a b c H', Ex K H H' → De.nx (lw8 sc D n Wl S Pm O Ki [t8, some v, some (.ref Vd), some (.ref Vt), some (.ref Lr), some (.ref Ld), some (.int (k : Nat)), a, b, c]) H') :
    SS (Cxd w K mg base N_law "law" s_law f cd A outer s0 H0 E) rowBody De (lw8 sc D n Wl S Pm O Ki [t8, some v, some (.ref Vd), some (.ref Vt), some (.ref Lr), some (.ref Ld), some (.int (k : Nat)), t15, t16, t17]) H := by
  have n1 := hin.2.2.1
  have n4 := hin.2.2.2.1
  have ndr := nd_allref hys.refs
  have ndd := nd_allref hzs.refs
  have hw2 : WOk n (rels.map fun t => nrm n (rnm ps t)) := by
    have : (rels.map fun t => nrm n (rnm ps t)) = (rels.map (rnm ps)).map (nrm n) := by rw [List.map_map]; rfl
    rw [this]
    refine nrm_wok n4 ⟨by rw [List.map_map, ← hw.1]; rfl, fun t ht => ?_⟩
    obtain ⟨u, hu, rfl⟩ := List.mem_map.mp ht
    have hok := hw.2 u hu
    refine ⟨fun r hr => ?_, by show (List.map _ _).length ≤ 16; rw [List.length_map]; exact hok.2.1, hp.rows_nd hok.1 hok.2.2⟩
    obtain ⟨r0, hr0, rfl⟩ := List.mem_map.mp hr
    exact hp.row (hok.1 r0 hr0)
  -- behind the row
  have tail : ∀ (pr : Addr) (a b c : Int) (t16 t17 : Option L2.V) (H1 : Hp), Ex K H H1 → H1 pr = some (.tup ([a, b, c].map L2.V.int)) → IsRow n 3 [a, b, c] →
      SS (Cxd w K mg base N_law "law" s_law f cd A outer s0 H0 E) (rowBody.drop 2) De (lw8 sc D n Wl S Pm O Ki [t8, some v, some (.ref Vd), some (.ref Vt), some (.ref Lr), some (.ref Ld), some (.int (k : Nat)), some (.ref pr), t16, t17]) H1 := fun pr a b c t16 t17 H1 e1 hpr hrI => by
    have hS1 := hS.mono e1
    refine ss_cons (s_set 16 ?_ sc_law.nd)
    refine ee_callTy (x := "tuple") G.z_tuple bt_tuple (aa_cons ?_)
    refine ee_lc [("_law_x", 17)] N_law (defScope s_law) rfl sc_law.nd (ii_tup (ee_var 15 rfl ⟨pr, rfl, ⟨_, SqT.of hpr⟩, fun Lu hLu => ?_⟩))
    refine lt_mapT (K := K) ([a, b, c].map L2.V.int) (fun j y H2 => ∃ e, [a, b, c][j]? = some e ∧ y = .int (piOf ps e)) (fun _ _ _ _ _ h => h) hLu (SqT.of hpr) (by simp) (fun ys H h => nd_noref fun x hx a => by
      obtain ⟨j, hj⟩ := List.mem_iff_getElem?.mp hx
      obtain ⟨e, _, rfl⟩ := h j x hj
      intro z; cases z) ?_ ?_
    · intro j x H6 hx6 e6 s2 H02 C2 cl2 fp2
      rw [List.getElem?_map] at hx6
      cases hy : [a, b, c][j]? with
      | none => rw [hy] at hx6; cases hx6
      | some el =>
      rw [hy] at hx6
      obtain rfl : L2.V.int el = x := Option.some.inj hx6
      have hel := hrI.2 el (List.mem_of_getElem? hy)
      refine gg_name 17 ?_ sc_law.nd
      refine ⟨rfl, Ex.refl, ?_⟩
      intro s3 H03 C3 cl3 fp3
      refine ee_ix (ee_var 5 rfl (ee_var 17 rfl (ix_li (SqL.of (hS1.mono e6).p) hel.1 ?_ ⟨Ex.refl, el, rfl, rfl⟩)))
      rw [List.getElem?_map, hp.get hel.1 hel.2]; rfl
    intro yi H6 e6 hL6 hyl hyi
    obtain rfl : yi = ([a, b, c].map (piOf ps)).map L2.V.int := by
      refine List.ext_getElem? fun j => ?_
      rw [List.getElem?_map, List.getElem?_map]
      rw [List.length_map] at hyl
      by_cases hk : j < yi.length
      · have hy : yi[j]? = some yi[j] := List.getElem?_eq_getElem hk
        obtain ⟨el, h1, h2⟩ := hyi j _ hy
        rw [hy, h1, h2]; rfl
      · rw [List.getElem?_eq_none (by omega), List.getElem?_eq_none (by omega)]; rfl
    refine aa_nil (cc_tupL (SqL.of hL6) (fun pi hpi => ?_))
    have e7 := Ex.new (K := K) (o := .tup (([a, b, c].map (piOf ps)).map L2.V.int)) hpi
    have hpi7 : (upd H6 pi (.tup (([a, b, c].map (piOf ps)).map L2.V.int))) pi = some (.tup (([a, b, c].map (piOf ps)).map L2.V.int)) := upd_same
    have e07 := (e1.trans e6).trans e7
    have hpr7 := (e6.trans e7).tr hpr
    generalize (upd H6 pi (.tup (([a, b, c].map (piOf ps)).map L2.V.int))) = H7 at *
    have hirI : IsRow n 3 [piOf ps a, piOf ps b, piOf ps c] := hp.row hrI
    have bv := bind3 v0 a b c
    -- holds(f, structure, valued(row)) against row in rows
    refine ss_cons (s_if (bb_not (bb_val ?_)))
    refine ee_call L.eqB rfl (hr.mono (by omega)) (aa_cons ?_)
    refine ee_call L.ho rfl (hr.mono (by omega)) (aa_cons (ee_var 9 rfl (aa_cons (ee_var 4 rfl (aa_cons ?_)))))
    refine ee_call L.va rfl (hr.mono (by omega)) (aa_cons (ee_var 15 rfl (aa_nil ⟨_, a, b, c, rfl, ⟨pr, rfl, hpr7⟩, fun H8 V8 e8 hV8 => aa_nil ?_⟩)))
    have e08 := e07.trans e8
    have hinb : ∀ x ∈ VR, 0 ≤ bindR v0 VR [a, b, c] x ∧ bindR v0 VR [a, b, c] x < (n : Int) := fun x _ => bindR_in hv0 VR [a, b, c] hrI.2 x
    refine ⟨v, φ, S, n, rels, V8, bindR v0 VR [a, b, c], rfl, fmAt_mono e08.tex _ _ hF, hin, (hS.mono e08).s, ⟨hw, fun t ht => (hw.2 t ht).2.2⟩, vals3 hV8 bv.1 bv.2.1 bv.2.2, hinb, fun b1 H9 e9 hb1 => ?_⟩
    have e09 := e08.trans e9
    have hpr9 := (e8.trans e9).tr hpr7
    refine aa_cons (ee_cmp (ee_var 15 rfl (ee_var 12 rfl ?_)))
    refine co_of (op_inD (u65 hr)) ⟨rowD [a, b, c], (sols n φ (relOf rels) v0).map rowD, dp_row ⟨pr, rfl, hpr9⟩, .lst (SqL.of (e09.keep _ _ ndr hLr)) (dpAll_of (R := RowAt K H9) rowD (fun t u h => dp_row h) (hys.mono e09.tex)), row_shaped _, rows_shaped _, ?_⟩
    rw [any_row]
    refine aa_nil ⟨b1, ?_, ?_⟩
    · rw [bool_of hb1 (show _ ↔ [a, b, c] ∈ sols n φ (relOf rels) v0 from ⟨fun h => mem_sols.mpr ⟨hrI, h⟩, fun h => (mem_sols.mp h).2⟩)]
    refine bq (if_f rfl (ss_nil ?_))
    -- the image
    refine ss_cons (s_if (bb_not (bb_val ?_)))
    refine ee_call L.eqB rfl (hr.mono (by omega)) (aa_cons ?_)
    refine ee_call L.ho rfl (hr.mono (by omega)) (aa_cons (ee_var 9 rfl (aa_cons (ee_var 6 rfl (aa_cons ?_)))))
    have hpi9 := (e8.trans e9).tr hpi7
    refine ee_call L.va rfl (hr.mono (by omega)) (aa_cons (ee_var 16 rfl (aa_nil ⟨_, piOf ps a, piOf ps b, piOf ps c, rfl, ⟨pi, rfl, hpi9⟩, fun H10 V10 e10 hV10 => aa_nil ?_⟩)))
    have e010 := e09.trans e10
    have bw := bind3 (fun x => piOf ps (v0 x)) (piOf ps a) (piOf ps b) (piOf ps c)
    have hv0' : ∀ x, 0 ≤ piOf ps (v0 x) ∧ piOf ps (v0 x) < (n : Int) := fun x => hp.pi (hv0 x).1 (hv0 x).2
    refine ⟨v, φ, O, n, _, V10, bindR (fun x => piOf ps (v0 x)) VR [piOf ps a, piOf ps b, piOf ps c], rfl, fmAt_mono e010.tex _ _ hF, hin, (hS.mono e010).o, ⟨hw2, fun t ht => (hw2.2 t ht).2.2⟩, vals3 hV10 bw.1 bw.2.1 bw.2.2, fun x _ => bindR_in hv0' VR _ hirI.2 x, fun b2 H11 e11 hb2 => ?_⟩
    have e011 := e010.trans e11
    have hpi11 := (e10.trans e11).tr hpi9
    refine aa_cons (ee_cmp (ee_var 16 rfl (ee_var 13 rfl ?_)))
    refine co_of (op_inD (u65 hr)) ⟨rowD [piOf ps a, piOf ps b, piOf ps c], (sols n φ (relOf (rels.map fun t => nrm n (rnm ps t))) fun x => piOf ps (v0 x)).map rowD, dp_row ⟨pi, rfl, hpi11⟩, .lst (SqL.of (e011.keep _ _ ndd hLd)) (dpAll_of (R := RowAt K H11) rowD (fun t u h => dp_row h) (hzs.mono e011.tex)), row_shaped _, rows_shaped _, ?_⟩
    rw [any_row]
    refine aa_nil ⟨b2, ?_, ?_⟩
    · rw [bool_of hb2 (show _ ↔ [piOf ps a, piOf ps b, piOf ps c] ∈ sols n φ (relOf (rels.map fun t => nrm n (rnm ps t))) (fun x => piOf ps (v0 x)) from ⟨fun h => mem_sols.mpr ⟨hirI, h⟩, fun h => (mem_sols.mp h).2⟩)]
    refine bq (if_f rfl (ss_nil (ss_nil ?_)))
    exact q _ _ _ _ e011
  -- the row
  have hn0 : (0 : Int) < n := by omega
  refine ss_cons (s_set 15 (ee_tup ?_) sc_law.nd)
  refine aa_cons (ee_bin (ee_dr 1 L.dd (hr.mono (by omega)) rfl hS.dr (fun r1 H1 e1 _ _ => ee_var 2 rfl (oo_mod hn0 ?_))))
  refine aa_cons (ee_bin (ee_dr 1 L.dd (hr.mono (by omega)) rfl (hS.mono e1).dr (fun r2 H2 e2 _ _ => ee_var 2 rfl (oo_mod hn0 ?_))))
  refine aa_cons (ee_bin (ee_dr 1 L.dd (hr.mono (by omega)) rfl ((hS.mono e1).mono e2).dr (fun r3 H3 e3 _ _ => ee_var 2 rfl (oo_mod hn0 ?_))))
  refine aa_nil ⟨szk (by simp), fun pr hpr => ?_⟩
  have e4 := Ex.new (K := K) (o := .tup [.int (r1 % n), .int (r2 % n), .int (r3 % n)]) hpr
  have e04 := ((e1.trans e2).trans e3).trans e4
  have hpr4 : (upd H3 pr (.tup [.int (r1 % n), .int (r2 % n), .int (r3 % n)])) pr = some (.tup ([r1 % n, r2 % n, r3 % n].map L2.V.int)) := upd_same
  generalize (upd H3 pr (.tup [.int (r1 % n), .int (r2 % n), .int (r3 % n)])) = H4 at *
  have hm : ∀ r : Int, 0 ≤ r % n ∧ r % n < n := fun r => ⟨Int.emod_nonneg _ (by omega), Int.emod_lt_of_pos _ hn0⟩
  refine ss_cons (s_if (bb_cmp (ee_var 14 rfl (ee_int (oo_eqi ?_)))))
  refine bq ?_
  refine if_d (fun hk => ?_) (fun hk => ?_)
  · have hV4 := hV.mono e04
    refine ss_cons (s_set 15 (ee_tup ?_) sc_law.nd)
    refine aa_cons (ee_dget (u1 hr) (ee_var 10 rfl (ee_str ⟨Vd, _, rfl, hV4.get (by decide), ?_⟩)))
    refine aa_cons (ee_dget (u1 hr) (ee_var 10 rfl (ee_str ⟨Vd, _, rfl, hV4.get (by decide), ?_⟩)))
    refine aa_cons (ee_dget (u1 hr) (ee_var 10 rfl (ee_str ⟨Vd, _, rfl, hV4.get (by decide), ?_⟩)))
    refine aa_nil ⟨szk (by simp), fun p2 hp2 => ?_⟩
    refine ss_nil ?_
    refine tail p2 (val "x") (val "y") (val "z") _ _ _ (e04.trans (Ex.new hp2)) upd_same ⟨rfl, fun x hx => ?_⟩
    simp only [List.mem_cons, List.not_mem_nil, or_false] at hx
    rcases hx with rfl | rfl | rfl
    · exact hval "x" (by decide)
    · exact hval "y" (by decide)
    · exact hval "z" (by decide)
  · refine ss_nil ?_
    refine tail pr _ _ _ _ _ _ e04 hpr4 ⟨rfl, fun x hx => ?_⟩
    simp only [List.mem_cons, List.not_mem_nil, or_false] at hx
    rcases hx with rfl | rfl | rfl <;> exact hm _
end
end Sy
namespace Sy
section
variable {X : Cx} {σ : L2.St} {H : Hp} {Q : VK} {e : Expr} {es : List Expr} {pos p : Pos} {x : Str} {k : Nat}
/-- a def with a promise for each number; which one is asked hangs on the arguments -/
theorem ee_callD {spd : Nat → Sp} (M : Nat) (d : ∀ j, j ≤ M → Dn X.w X.K X.mg X.base x k (spd j)) (hP : X.prog = P) (hr : Room k X.A) (h : AA X (e :: es) σ H fun vs H1 => ∃ j, j ≤ M ∧ spd j vs H1 Q E0) (hg : Gl X x := by rfl) (hdb : (x == ("__debug__" : Str)) = false := by decide)
    (he : starEach (e :: es) X.env = (false, eval e X.env) :: starEach es X.env := by rfl) (hpl : (backTo pos (starEach es X.env)).any (·.1) = false := by rfl) : EE X (.Call (.Name x p) (e :: es) [] pos) σ H Q := by
  obtain ⟨f, fd, ps, F, hm, hk, hb⟩ := (d 0 (Nat.zero_le _)).ex
  refine ⟨fun pins s I => ?_⟩
  refine wpAny_Call_Name_kw (ld_glob I hg hm ?_ hdb)
  refine PySem.W.callWith_K (h₀ := X.base) I.ok.mod.kin hk (thn (h.run pos pins s I) fun us s1 ⟨vs, H1, I1, r, j, hj, q⟩ => ⟨I1.kIn, ?_⟩) he hpl
  obtain ⟨f', fd', ps', F', hm', hk', hb'⟩ := (d j hj).ex
  obtain rfl : f = f' := by rw [hm] at hm'; cases hm'; rfl
  rw [← hP] at F'
  exact run_fn F' hr hb' .nil pass0 I1 r (by simpa using q)
end
/-- the scope of the block over the rows -/
def scDue : Scope := { kind := .function, names := [(".0", .local), ("_law_row", .local), ("tuple", .globalImplicit), ("_law_permutation", .cell)], isGenerator := false, isCoroutine := false }
def v3 (a b c : Int) : Str → Int := fun z => if z = "x" then a else if z = "y" then b else if z = "z" then c else 0
theorem v3_in {a b c n : Int} (hn : 0 < n) (ha : 0 ≤ a ∧ a < n) (hb : 0 ≤ b ∧ b < n) (hc : 0 ≤ c ∧ c < n) (z : Str) : 0 ≤ v3 a b c z ∧ v3 a b c z < n := by
  unfold v3
  split
  · exact ha
  · split
    · exact hb
    · split
      · exact hc
      · omega
section
variable {w : World} {K : PySem.W.Frag} {mg : Str → Option Value} {base : Heap} {Cs : Addr} {f : Addr} {cd : Value} {A : Around} {outer : List Env} {s0 : Shared} {H0 : Hp} {E : XK}
theorem law_turn (L : LD w K mg base Cs) (G : Gs K mg) (hr : Room 20 (A.deeper (envOfC "law" (defScope s_law) s0.heap.objs.size f cd))) {De : Ends} {n : Nat} {ps : List Int} {rels : List RelT} {D N : Addr} {ns : List Int} {sc Wl S O Pm Ki : Addr} {t8 t9 t10 t11 t12 t13 t14 t15 t16 t17 : Option L2.V} {H : Hp}
    (n1 : 1 ≤ n) (n4 : n ≤ 4) (hw : WOk n rels) (hp : PermL n ps) (hS : LwSt K Cs n ps rels D N ns S O Pm Ki H)
    (qn : ∀ t9 t10 t11 t12 t13 t14 t15 t16 t17 H', Ex K H H' → De.nx (lw8 sc D n Wl S Pm O Ki [t8, t9, t10, t11, t12, t13, t14, t15, t16, t17]) H')
    (qc : ∀ t9 t10 t11 t12 t13 t14 t15 t16 t17 H', Ex K H H' → De.ct (lw8 sc D n Wl S Pm O Ki [t8, t9, t10, t11, t12, t13, t14, t15, t16, t17]) H') :
    SS (Cxd w K mg base N_law "law" s_law f cd A outer s0 H0 E) lawBody De (lw8 sc D n Wl S Pm O Ki [t8, t9, t10, t11, t12, t13, t14, t15, t16, t17]) H := by
  have hn0 : (0 : Int) < n := by omega
  have hmod : ∀ r : Int, 0 ≤ r % n ∧ r % n < n := fun r => ⟨Int.emod_nonneg _ (by omega), Int.emod_lt_of_pos _ hn0⟩
  have hw2 : WOk n (rels.map fun t => nrm n (rnm ps t)) := by
    have : (rels.map fun t => nrm n (rnm ps t)) = (rels.map (rnm ps)).map (nrm n) := by rw [List.map_map]; rfl
    rw [this]
    refine nrm_wok n4 ⟨by rw [List.map_map, ← hw.1]; rfl, fun t ht => ?_⟩
    obtain ⟨u, hu, rfl⟩ := List.mem_map.mp ht
    have hok := hw.2 u hu
    refine ⟨fun r hr => ?_, by show (List.map _ _).length ≤ 16; rw [List.length_map]; exact hok.2.1, hp.rows_nd hok.1 hok.2.2⟩
    obtain ⟨r0, hr0, rfl⟩ := List.mem_map.mp hr
    exact hp.row (hok.1 r0 hr0)
  have hN1 : NOk n rels := ⟨hw, fun t ht => (hw.2 t ht).2.2⟩
  have hN2 : NOk n (rels.map fun t => nrm n (rnm ps t)) := ⟨hw2, fun t ht => (hw2.2 t ht).2.2⟩
  -- the formula
  refine ss_cons (s_set 9 ?_ sc_law.nd)
  refine ee_call L.nl rfl (hr.mono (by omega)) (aa_cons ?_)
  refine ee_callD (spd := fun j => spFm K 1 (j + 1)) 3 (fun j hj => (L.fm j).mono (by omega : 2 * j + 5 ≤ 11)) rfl (hr.mono (by omega)) ?_
  refine aa_cons (ee_var 1 rfl (aa_cons (ee_bin (ee_int (ee_dm 1 L.dd (hr.mono (by omega)) rfl hS.dr (by decide) (fun r H1 e1 r0 r3 => oo_add ?_))))))
  refine aa_cons (ee_lst (aa_cons (ee_str (aa_cons (ee_str (aa_cons (ee_str (aa_nil ⟨szk (by simp), fun Pl hPl => ?_⟩))))))))
  have e2 : Ex K H1 (upd H1 Pl (.lst VRv)) := Ex.new hPl
  have hPl2 : (upd H1 Pl (.lst VRv)) Pl = some (.lst VRv) := upd_same
  have e02 := e1.trans e2
  show AA (Cxd w K mg base N_law "law" s_law f cd A outer s0 H0 E) _ _ (upd H1 Pl (.lst VRv)) _
  generalize (upd H1 Pl (.lst VRv)) = H2 at *
  refine aa_cons ?_
  refine ee_call L.na rfl (hr.mono (by omega)) (aa_cons (ee_var 1 rfl (aa_nil ⟨D, N, ns, rfl, e02.dr _ _ _ hS.dr, fun Lg m H3 e3 m1 hG => ?_⟩)))
  have e03 := e02.trans e3
  refine aa_cons (ee_var 7 rfl (aa_nil ?_))
  refine ⟨1 + r.toNat, by omega, D, N, ns, Pl, Lg, G0.take m, Ki, 2 + r, rfl, by omega, e03.dr _ _ _ hS.dr, e3.keep _ _ (nd_strs (ns := VR)) hPl2, hG, ?_, ?_, (hS.mono e03).k, fun φ0 u H4 e4 hwf hdep hF => ?_⟩
  · have h1 : (G0.take m).length ≤ 3 := by rw [List.length_take]; exact Nat.le_trans (Nat.min_le_right _ _) (by decide)
    omega
  · intro t ht
    have g1 : t ∈ G0 := List.mem_of_mem_take ht
    unfold G0 at g1
    simp only [List.mem_cons, List.not_mem_nil, or_false] at g1
    rcases g1 with rfl | rfl | rfl <;> exact ⟨by decide, by decide⟩
  have e04 := e03.trans e4
  refine aa_nil ⟨u, φ0, rfl, hF, by omega, ⟨_, g0_ok m, hwf⟩, fun H5 v e5 hFv => ?_⟩
  have e05 := e04.trans e5
  have hwn := wf_noless φ0 _ hwf
  have hdn : depth (noless φ0) ≤ 4 := by rw [depth_noless]; omega
  have hl := noLess_noless φ0
  generalize noless φ0 = φ at *
  -- the cost
  refine ss_cons (s_if (bb_cmp (ee_bin (ee_bin (ee_bin ?_)))))
  refine ee_call L.lc rfl (hr.mono (by omega)) (aa_cons (ee_var 9 rfl (aa_cons (ee_var 2 rfl (aa_nil ⟨v, φ, n, rfl, hFv, hdn, ⟨_, g0_ok m, hwn⟩, by omega, by omega, fun H6 e6 => ?_⟩)))))
  have e06 := e05.trans e6
  have hcm : ∀ i : Int, CMul i n := fun i => .inr ⟨by omega, by omega⟩
  refine ee_var 2 rfl (oo_mul (hcm _) (ee_var 2 rfl (oo_mul (hcm _) (ee_var 2 rfl (oo_mul (hcm _) (ee_int (oo_gt ?_)))))))
  refine bq ?_
  refine if_d (fun hbig => ?_) (fun hsm => ?_)
  · exact ss_cons (s_cont (qc _ _ _ _ _ _ _ _ _ _ e06))
  refine ss_nil ?_
  have hin : FmIn n φ 4 := ⟨hdn, ⟨m, hwn⟩, n1, n4, by rw [← Int.mul_assoc, ← Int.mul_assoc]; omega⟩
  have hF6 := fmAt_mono e6.tex _ _ hFv
  -- the values
  refine ss_cons (s_set 10 ?_ sc_law.nd)
  refine ee_disp3 fun Vd hVd => ?_
  have e7 : Ex K H6 (upd H6 Vd (.dK [])) := Ex.new hVd
  have hVd7 : (upd H6 Vd (.dK [])) Vd = some (.dK []) := upd_same
  generalize hH7 : (upd H6 Vd (.dK [])) = H7 at *
  have e07 := e06.trans e7
  refine ee_str (ee_bin (ee_dr 1 L.dd (hr.mono (by omega)) rfl (hS.mono e07).dr (fun r1 H8 e8 _ _ => ee_var 2 rfl (oo_mod hn0 ?_))))
  refine ee_str (ee_bin (ee_dr 1 L.dd (hr.mono (by omega)) rfl ((hS.mono e07).mono e8).dr (fun r2 H9 e9 _ _ => ee_var 2 rfl (oo_mod hn0 ?_))))
  refine ee_str (ee_bin (ee_dr 1 L.dd (hr.mono (by omega)) rfl (((hS.mono e07).mono e8).mono e9).dr (fun r3 H10 e10 _ _ => ee_var 2 rfl (oo_mod hn0 ?_))))
  refine ⟨(e8.trans (e9.trans e10)).keep _ _ nd_dK hVd7, _, _, _, rfl, rfl, rfl, ?_⟩
  let val := v3 (r1 % n) (r2 % n) (r3 % n)
  have hvr : ∀ z, 0 ≤ val z ∧ val z < (n : Int) := v3_in hn0 (hmod r1) (hmod r2) (hmod r3)
  have e610 : Ex K H6 (upd H10 Vd (.dK (putK (putK (putK [] (.inr "x") (.int (r1 % n))) (.inr "y") (.int (r2 % n))) (.inr "z") (.int (r3 % n))))) := (e7.trans (e8.trans (e9.trans e10))).mut hVd
  have hV10 : ValsAt (upd H10 Vd (.dK (putK (putK (putK [] (.inr "x") (.int (r1 % n))) (.inr "y") (.int (r2 % n))) (.inr "z") (.int (r3 % n))))) Vd (· ∈ VR) val := vals3 upd_same rfl rfl rfl
  generalize (upd H10 Vd (.dK (putK (putK (putK [] (.inr "x") (.int (r1 % n))) (.inr "y") (.int (r2 % n))) (.inr "z") (.int (r3 % n))))) = H11 at *
  have e011 := e06.trans e610
  have hS11 := hS.mono e011
  have hF11 := fmAt_mono e610.tex _ _ hF6
  -- the values turned
  refine ss_cons (s_set 11 ?_ sc_law.nd)
  refine ee_disp3 fun Vt hVt => ?_
  have e12 : Ex K H11 (upd H11 Vt (.dK [])) := Ex.new hVt
  have hVt12 : (upd H11 Vt (.dK [])) Vt = some (.dK []) := upd_same
  have hVe := hV10.mono e12
  have hPe := (hS11.mono e12).p
  have pget : ∀ x, (ps.map L2.V.int)[(val x).toNat]? = some (.int (piOf ps (val x))) := fun x => by rw [List.getElem?_map, hp.get (hvr x).1 (hvr x).2]; rfl
  refine ee_str (ee_ix (ee_var 5 rfl (ee_dget (u1 hr) (ee_var 10 rfl (ee_str ⟨Vd, _, rfl, hVe.get (by decide), ix_li (SqL.of hPe) (hvr _).1 (pget _) ?_⟩)))))
  refine ee_str (ee_ix (ee_var 5 rfl (ee_dget (u1 hr) (ee_var 10 rfl (ee_str ⟨Vd, _, rfl, hVe.get (by decide), ix_li (SqL.of hPe) (hvr _).1 (pget _) ?_⟩)))))
  refine ee_str (ee_ix (ee_var 5 rfl (ee_dget (u1 hr) (ee_var 10 rfl (ee_str ⟨Vd, _, rfl, hVe.get (by decide), ix_li (SqL.of hPe) (hvr _).1 (pget _) ?_⟩)))))
  refine ⟨hVt12, _, _, _, rfl, rfl, rfl, ?_⟩
  rw [upd_upd]
  have e13 : Ex K H11 (upd H11 Vt (.dK (putK (putK (putK [] (.inr "x") (.int (piOf ps (val "x")))) (.inr "y") (.int (piOf ps (val "y")))) (.inr "z") (.int (piOf ps (val "z")))))) := Ex.new hVt
  have hVt13 : ValsAt (upd H11 Vt (.dK (putK (putK (putK [] (.inr "x") (.int (piOf ps (val "x")))) (.inr "y") (.int (piOf ps (val "y")))) (.inr "z") (.int (piOf ps (val "z")))))) Vt (· ∈ VR) (fun x => piOf ps (val x)) := vals3 upd_same rfl rfl rfl
  generalize (upd H11 Vt (.dK (putK (putK (putK [] (.inr "x") (.int (piOf ps (val "x")))) (.inr "y") (.int (piOf ps (val "y")))) (.inr "z") (.int (piOf ps (val "z")))))) = H13 at *
  have e013 := e011.trans e13
  -- holds
  refine ss_cons (s_if (bb_not (bb_val ?_)))
  refine ee_call L.eqB rfl (hr.mono (by omega)) (aa_cons ?_)
  refine ee_call L.ho rfl (hr.mono (by omega)) (aa_cons (ee_var 9 rfl (aa_cons (ee_var 6 rfl (aa_cons (ee_var 11 rfl (aa_nil ?_)))))))
  have hF13 := fmAt_mono e13.tex _ _ hF11
  refine ⟨v, φ, O, n, _, Vt, _, rfl, hF13, hin, (hS.mono e013).o, hN2, hVt13, fun x _ => hp.pi (hvr x).1 (hvr x).2, fun b1 H14 e14 hb1 => aa_cons ?_⟩
  refine ee_call L.ho rfl (hr.mono (by omega)) (aa_cons (ee_var 9 rfl (aa_cons (ee_var 4 rfl (aa_cons (ee_var 10 rfl (aa_nil ?_)))))))
  have e1114 := e13.trans e14
  have hF14 := fmAt_mono e14.tex _ _ hF13
  refine ⟨v, φ, S, n, _, Vd, val, rfl, hF14, hin, (hS11.mono e1114).s, hN1, hV10.mono e1114, fun x _ => hvr x, fun b2 H15 e15 hb2 => aa_nil ⟨b2, ?_, ?_⟩⟩
  · rw [bools_eq hb1 hb2 (ren_one hw hp hl val hvr)]
  refine bq (if_f rfl (ss_nil ?_))
  have e1115 := e1114.trans e15
  have hS15 := hS11.mono e1115
  have hF15 := fmAt_mono e15.tex _ _ hF14
  have hV15 := hV10.mono e1115
  -- query
  refine ss_cons (s_set 12 ?_ sc_law.nd)
  refine ee_call L.qu rfl (hr.mono (by omega)) (aa_cons (ee_var 9 rfl (aa_cons (ee_var 4 rfl (aa_cons (ee_lst (aa_cons (ee_str (aa_cons (ee_str (aa_cons (ee_str (aa_nil ⟨szk (by simp), fun Q1 hQ1 => aa_nil ?_⟩)))))))))))))
  have e16 : Ex K H15 (upd H15 Q1 (.lst VRv)) := Ex.new hQ1
  have hv0 : ∀ x : Str, 0 ≤ (fun _ : Str => (0 : Int)) x ∧ (fun _ : Str => (0 : Int)) x < (n : Int) := fun _ => ⟨Int.le_refl _, hn0⟩
  refine ⟨v, φ, S, n, rels, Q1, (fun _ => 0), rfl, fmAt_mono e16.tex _ _ hF15, hin, (hS15.mono e16).s, hN1, upd_same, fun Lr ys H17 e17 hLr hys => ?_⟩
  have e1517 := e16.trans e17
  have hS17 := hS15.mono e1517
  have hF17 := fmAt_mono e1517.tex _ _ hF15
  have hV17 := hV15.mono e1517
  have ndr := nd_allref hys.refs
  have hsl := sols_len (φ := φ) (ρ := relOf rels) (val := fun _ => 0) n4
  have hyl := hys.1
  -- due
  refine ss_cons (s_set 13 ?_ sc_law.nd)
  refine ee_callB (x := "sorted") G.z_sorted bt_sorted (aa_cons ?_)
  refine ee_lc [("_law_row", 15)] N_law (defScope s_law) rfl sc_law.nd (ii_list (ee_var 12 rfl ⟨Lr, rfl, ⟨_, SqL.of hLr⟩, fun Lc hLc => ?_⟩))
  refine lt_mapL (K := K) ys (fun i y H' => ∃ r, (sols n φ (relOf rels) fun _ => 0)[i]? = some r ∧ RowAt K H' (r.map (piOf ps)) y) (fun i y H H' e ⟨r, h1, h2⟩ => ⟨r, h1, h2.mono e⟩) hLc (SqL.of hLr) ndr (by omega) (fun ys H h => nd_allref fun x hx => by
    obtain ⟨j, hj⟩ := List.mem_iff_getElem?.mp hx
    obtain ⟨r, _, a, e, _⟩ := h j x hj
    exact ⟨a, e⟩) ?_ ?_
  · rintro j x H5' hx e5' s0' H0' C cl fp
    obtain ⟨r, hrj, hrow⟩ := hys.2 j x hx
    obtain ⟨pr, rfl, hpr⟩ := hrow.mono e5'.tex
    have hrI := (mem_sols.mp (List.mem_of_getElem? hrj)).1
    refine gg_name 15 ?_ sc_law.nd
    refine ⟨rfl, Ex.refl, ?_⟩
    intro s1 H01 C1 cl1 fp1
    refine ee_callTy (x := "tuple") G.z_tuple bt_tuple (aa_cons ?_)
    refine ee_lc [("_law_x", 17)] N_law scDue rfl sc_law.nd (ii_tup (ee_var 15 rfl ⟨pr, rfl, ⟨_, SqT.of hpr⟩, fun Lu hLu => ?_⟩))
    refine lt_mapT (K := K) (r.map L2.V.int) (fun k y H2 => ∃ e, r[k]? = some e ∧ y = .int (piOf ps e)) (fun _ _ _ _ _ h => h) hLu (SqT.of hpr) (by rw [List.length_map, hrI.1]; omega) (fun ys H h => nd_noref fun x hx a => by
      obtain ⟨j, hj⟩ := List.mem_iff_getElem?.mp hx
      obtain ⟨e, _, rfl⟩ := h j x hj
      intro z; cases z) ?_ ?_
    · intro k x H6' hx6 e6' s2 H02 C2 cl2 fp2
      rw [List.getElem?_map] at hx6
      cases hy : r[k]? with
      | none => rw [hy] at hx6; cases hx6
      | some el =>
      rw [hy] at hx6
      obtain rfl : L2.V.int el = x := Option.some.inj hx6
      have hel := hrI.2 el (List.mem_of_getElem? hy)
      refine gg_name 17 ?_ sc_law.nd
      refine ⟨rfl, Ex.refl, ?_⟩
      intro s3 H03 C3 cl3 fp3
      refine ee_ix (ee_var 5 rfl (ee_var 17 rfl (ix_li (SqL.of ((hS17.mono e5').mono e6').p) hel.1 ?_ ⟨Ex.refl, el, rfl, rfl⟩)))
      rw [List.getElem?_map, hp.get hel.1 hel.2]; rfl
    · intro yi H6' e6' hL6 hyl' hyi
      obtain rfl : yi = (r.map (piOf ps)).map L2.V.int := by
        refine List.ext_getElem? fun k => ?_
        rw [List.getElem?_map, List.getElem?_map]
        rw [List.length_map] at hyl'
        by_cases hk : k < yi.length
        · have hy : yi[k]? = some yi[k] := List.getElem?_eq_getElem hk
          obtain ⟨el, h1, h2⟩ := hyi k _ hy
          rw [hy, h1, h2]; rfl
        · rw [List.getElem?_eq_none (by omega), List.getElem?_eq_none (by omega)]; rfl
      refine aa_nil (cc_tupL (SqL.of hL6) (fun p7 hp7 => ?_))
      exact ⟨e6'.trans (Ex.new hp7), r, hrj, p7, rfl, upd_same⟩
  intro yc H18 e18 hLc18 hycl hyc
  have hrows : RowsAt K H18 ((sols n φ (relOf rels) fun _ => 0).map fun r => r.map (piOf ps)) yc := by
    refine ⟨by rw [hycl, hyl]; exact (List.length_map ..).symm, fun j y hj => ?_⟩
    obtain ⟨r, h1, h2⟩ := hyc j y hj
    exact ⟨_, by rw [List.getElem?_map, h1]; rfl, h2⟩
  have hsI : ∀ r ∈ (sols n φ (relOf rels) fun _ => 0), IsRow n 3 r := fun r hr => (mem_sols.mp hr).1
  refine aa_nil ?_
  refine cc_sortedL rfl (SqL.of hLc18) hrows (hp.rows_nd hsI sols_nd) (n := n) (d := 3) (fun r hr => ?_) (by rw [List.length_map]; omega) (fun Ld zs hLd hzs => ?_)
  · obtain ⟨r0, hr0, rfl⟩ := List.mem_map.mp hr
    exact hp.row (hsI r0 hr0)
  rw [ren_rows hw hp hl _ hv0] at hzs
  have e19 : Ex K H18 (upd H18 Ld (.lst zs)) := Ex.new hLd
  have hLd19 : (upd H18 Ld (.lst zs)) Ld = some (.lst zs) := upd_same
  have hzs19 := hzs.mono e19.tex
  generalize (upd H18 Ld (.lst zs)) = H19 at *
  have e1719 := e18.trans e19
  have ndz := nd_allref hzs19.refs
  -- the queries
  refine ss_cons (s_if (bb_bw (bw_or (bb_not (bb_val ?_)))))
  refine ee_call L.eqR rfl (hr.mono (by omega)) (aa_cons ?_)
  refine ee_call L.qu rfl (hr.mono (by omega)) (aa_cons (ee_var 9 rfl (aa_cons (ee_var 6 rfl (aa_cons (ee_lst (aa_cons (ee_str (aa_cons (ee_str (aa_cons (ee_str (aa_nil ⟨szk (by simp), fun Q2 hQ2 => aa_nil ?_⟩)))))))))))))
  have e20 : Ex K H19 (upd H19 Q2 (.lst VRv)) := Ex.new hQ2
  refine ⟨v, φ, O, n, _, Q2, (fun _ => piOf ps 0), rfl, fmAt_mono (e1719.trans e20).tex _ _ hF17, hin, (hS17.mono (e1719.trans e20)).o, hN2, upd_same, fun La as H21 e21 hLa has => ?_⟩
  have e1921 := e20.trans e21
  have hsl2 := sols_len (φ := φ) (ρ := relOf (rels.map fun t => nrm n (rnm ps t))) (val := fun _ => piOf ps 0) n4
  refine aa_cons (ee_var 13 rfl (aa_nil ⟨La, Ld, as, zs, _, rfl, hLa, e1921.keep _ _ ndz hLd19, has, hzs19.mono e1921.tex, by omega, fun r hr => ?_, ?_⟩))
  · have := ((mem_sols.mp hr).1).1; omega
  refine bq (if_f rfl ?_)
  refine bw_or1 (bb_not (bb_val ?_))
  have e1721 := e1719.trans e1921
  have hLr21 := e1721.keep _ _ ndr hLr
  have hys21 := hys.mono e1721.tex
  refine ee_call L.eqR rfl (hr.mono (by omega)) (aa_cons (ee_var 12 rfl (aa_cons ?_)))
  refine ee_callB (x := "sorted") G.z_sorted bt_sorted (aa_cons ?_)
  refine ee_callTy (x := "set") G.z_set bt_set (aa_cons (ee_var 12 rfl (aa_nil ?_)))
  refine cc_setRows rfl hr.units (SqL.of hLr21) hys21 sols_nd (by omega) (fun p as' hp' hperm => ?_)
  have e22 : Ex K H21 (upd H21 p (SetWO w p as')) := Ex.new hp'
  refine aa_nil (cc_sortedS rfl upd_same hperm (hys21.mono e22.tex) sols_nd hsI (by omega) (fun p2 ws hp2 hws => ?_))
  rw [sols_self] at hws
  have e23 : Ex K (upd H21 p (SetWO w p as')) (upd (upd H21 p (SetWO w p as')) p2 (.lst ws)) := Ex.new hp2
  have e2123 := e22.trans e23
  refine aa_nil ⟨Lr, p2, ys, ws, _, rfl, e2123.keep _ _ ndr hLr21, upd_same, hys21.mono e2123.tex, hws.mono e23.tex, by omega, fun r hr => ?_, ?_⟩
  · have := (hsI r hr).1; omega
  refine bq (if_f rfl (ss_nil ?_))
  show SS (Cxd w K mg base N_law "law" s_law f cd A outer s0 H0 E) _ _ _ (upd (upd H21 p (SetWO w p as')) p2 (.lst ws))
  generalize (upd (upd H21 p (SetWO w p as')) p2 (.lst ws)) = H23 at *
  have e1723 := e1721.trans e2123
  have hS23 := hS17.mono e1723
  have e023 : Ex K H H23 := ((e011.trans e1115).trans e1517).trans e1723
  have hF23 := fmAt_mono e1723.tex _ _ hF17
  have hV23 := hV17.mono e1723
  have hLr23 := e2123.keep _ _ ndr hLr21
  have hys23 := hys21.mono e2123.tex
  have hLd23 := (e1921.trans e2123).keep _ _ ndz hLd19
  have hzs23 := hzs19.mono (e1921.trans e2123).tex
  -- the rows
  refine ss_cons (s_forT PassesOwn.never rfl (ii_range G.z_range (aa_cons (ee_int (aa_nil ⟨_, rfl, by decide, by decide, ?_⟩)))))
  refine turns_range 4 (fun i σ H' => ∃ a b c d, σ = lw8 sc D n Wl S Pm O Ki [t8, some v, some (.ref Vd), some (.ref Vt), some (.ref Lr), some (.ref Ld), a, b, c, d] ∧ Ex K H23 H') ⟨_, _, _, _, rfl, Ex.refl⟩ ?_ ?_
  · rintro i σ H' hi ⟨a, b, c, d, rfl, e⟩
    refine gg_name 14 ?_ sc_law.nd
    rw [Int.zero_add]
    refine law_row L G hr hw hp hl hin (fmAt_mono e.tex _ _ hF23) (hS23.mono e) hv0 (hV23.mono e) (fun x _ => hvr x) (e.keep _ _ ndr hLr23) (hys23.mono e.tex) (e.keep _ _ ndz hLd23) (hzs23.mono e.tex) fun a b c H'' e' => ⟨_, _, _, _, rfl, e.trans e'⟩
  · rintro σ H' ⟨a, b, c, d, rfl, e⟩
    exact ss_nil (qn _ _ _ _ _ _ _ _ _ _ (e023.trans e))
end
end Sy
namespace Sy
def unI : L2.V → Int
  | .int i => i
  | _ => 0
theorem perm_ints {n : Nat} {ys rest : List L2.V} (hl : ys.length = n) (hp : (ys ++ rest).Perm ((List.range n).map fun i : Nat => L2.V.int (i : Int))) : ∃ ps, ys = ps.map L2.V.int ∧ PermL n ps := by
  have h1 := hp.length_eq
  rw [List.length_append, List.length_map, List.length_range] at h1
  obtain rfl : rest = [] := List.eq_nil_of_length_eq_zero (by omega)
  rw [List.append_nil] at hp
  have hint : ∀ y ∈ ys, y = .int (unI y) := fun y hy => by
    obtain ⟨i, _, rfl⟩ := List.mem_map.mp (hp.mem_iff.mp hy)
    rfl
  have hp2 := hp.map unI
  rw [List.map_map] at hp2
  have e : (List.range n).map (unI ∘ fun i : Nat => L2.V.int (i : Int)) = (List.range n).map fun i : Nat => (i : Int) := rfl
  rw [e] at hp2
  refine ⟨ys.map unI, ?_, ?_, ?_, ?_⟩
  · rw [List.map_map]
    conv => lhs; rw [← List.map_id ys]
    exact List.map_congr_left fun y hy => hint y hy
  · rw [List.length_map, hl]
  · refine hp2.symm.nodup ?_
    refine List.pairwise_map.mpr ((List.nodup_range (n := n)).imp fun h e => h (by omega))
  · intro x hx
    obtain ⟨i, hi, rfl⟩ := List.mem_map.mp (hp2.mem_iff.mp hx)
    have := List.mem_range.mp hi
    omega
section
variable {w : World} {K : PySem.W.Frag} {mg : Str → Option Value} {base : Heap} {Cs : Addr}
def spLaw (K : PySem.W.Frag) : Sp := fun vs H Q _ => ∃ a, ∃ ns : List Int, vs = [.ref a] ∧ SqL K H a (ns.map V.int) ∧ ns.length ≤ 63 ∧ ∀ H', Q (.bl true) H'
theorem law_ok {fa : Addr} {fd : FuncData} (F : Fun K "law" "law" s_law fa fd) (G : Gs K mg) (CS : CSk K Cs) (L : LD w K mg base Cs) : FnOk P w K mg base CX0 21 fa fd ["_law_script"] (spLaw K) := by
  refine def_ok F sc_law (fun vs H Q E h => ?_) (fun cd A outer s0 H vs Q E hr h => ?_)
  · obtain ⟨a, ns, rfl, _⟩ := h; rfl
  · obtain ⟨sc, ns, rfl, hsc, hnl, q⟩ := h
    refine ss_cons (s_set 1 (ee_lst (aa_cons ?_)) sc_law.nd)
    refine ee_call L.nu rfl (hr.mono (by omega)) (aa_cons (ee_var 0 rfl (aa_nil ⟨sc, ns, rfl, hsc, hnl, fun H1 N ms e1 _ hN hdr => aa_cons (ee_int (aa_nil ⟨szk (by simp), fun D hD => ?_⟩))⟩)))
    have e2 : Ex K H1 (upd H1 D (.lst [.ref N, .int 0])) := Ex.new hD
    have hDr : Draws K D N ms (upd H1 D (.lst [.ref N, .int 0])) := ⟨0, upd_same, SqL.of (e2.keep _ _ nd_ints hN), hdr, Int.le_refl _⟩
    generalize (upd H1 D (.lst [.ref N, .int 0])) = H2 at *
    refine ss_cons (s_set 2 (ee_bin (ee_int (ee_dm 1 L.dd (hr.mono (by omega)) rfl hDr (by decide) (fun r H3 e3 r0 r4 => oo_add ?_)))) sc_law.nd)
    obtain ⟨n, hn, n1, n4⟩ : ∃ n : Nat, 1 + r = (n : Int) ∧ 1 ≤ n ∧ n ≤ 4 := ⟨1 + r.toNat, by omega, by omega, by omega⟩
    rw [hn]
    have e23 : Ex K H2 H3 := e3
    have hDr3 := e23.dr _ _ _ hDr
    -- the world
    refine ss_cons (s_set 3 ?_ sc_law.nd)
    refine ee_call L.wo rfl (hr.mono (by omega)) (aa_cons (ee_var 1 rfl (aa_cons (ee_var 2 rfl (aa_nil ⟨D, N, ms, n, rfl, hDr3, n4, fun H4 Wl us rels e4 hWl hU hw => ?_⟩)))))
    have ndu := lat_ref hU
    have hDr4 := e4.dr _ _ _ hDr3
    -- the structure
    refine ss_cons (s_set 4 ?_ sc_law.nd)
    refine ee_make L.st rfl (hr.mono (by omega)) (aa_cons (ee_var 2 rfl (aa_cons ?_)))
    refine ee_call L.li rfl (hr.mono (by omega)) (aa_cons (ee_var 3 rfl (aa_nil ⟨Wl, us, rels, n, rfl, hWl, hU, hw, fun H5 Li us5 e5 hLi hU5 => aa_nil ?_⟩)))
    intro x dx hx hdx hne
    have hx2 : upd H5 dx (.own x) x = none := by rw [upd_ne (Ne.symm hne)]; exact hx
    have e6 : Ex K H5 (upd (upd H5 dx (.own x)) x (.ins Cs dx [])) := (Ex.new hdx).trans (Ex.new hx2)
    have nd5 : NotDraw (.lst us5) := nd_allref fun x hx => by
      obtain ⟨t, _, a, b, vs, e, _⟩ := hU5.mem hx
      exact ⟨a, e⟩
    refine ⟨x, dx, Li, us5, rels, n, rfl, upd_same, e6.keep _ _ nd5 hLi, hU5.imp fun t u h => (h.toIn.mono e6), hw, n1, n4, fun H7 e7 hst => ⟨rfl, ?_⟩⟩
    have e57 : Ex K H5 H7 := e7 H5 e6 hx
    have hDr7 := (e5.trans e57).dr _ _ _ hDr4
    have hWl7 := (e5.trans e57).keep _ _ ndu hWl
    have hU7 := hU.mono' (e5.trans e57).tex
    have hw1 := nrm_wok n4 hw
    have hnm1 : ∀ t ∈ rels.map (nrm n), t.1 ∈ NM := fun t ht => (hw1.nm ht).1
    -- the permutation
    refine ss_cons (s_set 5 ?_ sc_law.nd)
    refine ee_call L.so rfl (hr.mono (by omega)) (aa_cons (ee_var 1 rfl (aa_cons ?_)))
    refine ee_lc [("_law_x", 17)] N_law (defScope s_law) rfl sc_law.nd (ii_range G.z_range (aa_cons (ee_var 2 rfl (aa_nil ⟨_, rfl, by omega, by omega, fun Lp hLp => ?_⟩))))
    rw [Int.toNat_natCast]
    refine lt_mapR (K := K) n (fun i y H2 => y = .int (i : Nat)) (fun _ _ _ _ _ h => h) hLp (by omega) (fun ys H h => nd_noref fun x hx a => by
      obtain ⟨j, hj⟩ := List.mem_iff_getElem?.mp hx
      have := h j x hj
      subst this
      intro z; cases z) ?_ ?_
    · intro i H8 hi e8 s2 H02 C2 cl2 fp2
      refine gg_name 17 ?_ sc_law.nd
      refine ⟨rfl, Ex.refl, ?_⟩
      intro s3 H03 C3 cl3 fp3
      exact ee_var 17 rfl ⟨Ex.refl, by rw [Int.zero_add]⟩
    intro yr H8 e8 hL8 hyl hyr
    have hyr' : yr = (List.range n).map fun i : Nat => L2.V.int (i : Int) := by
      refine List.ext_getElem? fun i => ?_
      rw [List.getElem?_map]
      by_cases hi : i < n
      · have hy : yr[i]? = some (yr[i]'(by omega)) := List.getElem?_eq_getElem _
        rw [hy, hyr i _ hy, List.getElem?_range hi]; rfl
      · rw [List.getElem?_eq_none (by omega), List.getElem?_eq_none (by rw [List.length_range]; omega)]; rfl
    refine aa_cons (ee_var 2 rfl (aa_nil ⟨D, N, ms, Lp, yr, n, rfl, e8.dr _ _ _ hDr7, SqL.of hL8, fun y hy a => ?_, by omega, by omega, fun Pm yp H9 e9 _ hPm hpl ⟨rest, hperm⟩ => ?_⟩))
    · rw [hyr'] at hy
      obtain ⟨i, _, rfl⟩ := List.mem_map.mp hy
      intro z; cases z
    rw [hyr'] at hperm
    obtain ⟨ps, rfl, hp⟩ := perm_ints hpl hperm
    have e79 := e8.trans e9
    have hst9 := hst.mono e79
    obtain ⟨dx9, L9, us9, hS9, _⟩ := id hst9
    -- the other one
    refine ss_cons (s_set 6 ?_ sc_law.nd)
    refine ee_meth L.rn CS.cls rfl (hr.mono (by omega)) ?_
    refine ee_var 4 rfl ⟨x, dx9, _, rfl, hS9, rfl, aa_cons (ee_var 5 rfl (aa_nil ⟨x, Pm, n, rels.map (nrm n), ps, rfl, hst9, hw1, hPm, hp, n1, n4, fun O H10 e10 hO => ?_⟩))⟩
    have e710 := e79.trans e10
    refine ss_cons (s_set 7 ?_ sc_law.nd)
    refine ee_lst (aa_cons (ee_str (aa_cons (ee_str (aa_cons (ee_str (aa_cons (ee_str (aa_cons (ee_str (aa_cons (ee_str (aa_nil ⟨szk (by simp), fun Ki hKi => ?_⟩)))))))))))))
    have e11 : Ex K H10 (upd H10 Ki (.lst KIv)) := Ex.new hKi
    have hKi11 : (upd H10 Ki (.lst KIv)) Ki = some (.lst KIv) := upd_same
    show SS (Cxd w K mg base N_law "law" s_law fa cd A outer s0 H E) _ _ _ (upd H10 Ki (.lst KIv))
    generalize (upd H10 Ki (.lst KIv)) = H11 at *
    have e711 := e710.trans e11
    have hSt : LwSt K Cs n ps (rels.map (nrm n)) D N ms x O Pm Ki H11 := ⟨e711.dr _ _ _ hDr7, hst.mono e711, hO.mono e11, (e10.trans e11).keep _ _ nd_ints hPm, hKi11⟩
    have hWl11 := e711.keep _ _ ndu hWl7
    have hU11 := hU7.mono' e711.tex
    -- the turns
    refine ss_cons (s_forT PassesOwn.never rfl (ii_range G.z_range (aa_cons (ee_int (aa_nil ⟨_, rfl, by decide, by decide, ?_⟩)))))
    refine turns_range 3 (fun i σ H' => ∃ t8 t9 t10 t11 t12 t13 t14 t15 t16 t17, σ = lw8 sc D n Wl x Pm O Ki [t8, t9, t10, t11, t12, t13, t14, t15, t16, t17] ∧ Ex K H11 H') ⟨_, _, _, _, _, _, _, _, _, _, rfl, Ex.refl⟩ ?_ ?_
    · rintro i σ H' hi ⟨t8, t9, t10, t11, t12, t13, t14, t15, t16, t17, rfl, e⟩
      refine gg_name 8 ?_ sc_law.nd
      exact law_turn L G hr n1 n4 hw1 hp (hSt.mono e) (fun _ _ _ _ _ _ _ _ _ H'' e' => ⟨_, _, _, _, _, _, _, _, _, _, rfl, e.trans e'⟩) fun _ _ _ _ _ _ _ _ _ H'' e' => ⟨_, _, _, _, _, _, _, _, _, _, rfl, e.trans e'⟩
    rintro σ H' ⟨t8, t9, t10, t11, t12, t13, t14, t15, t16, t17, rfl, e⟩
    have hSt' := hSt.mono e
    have hWl' := e.keep _ _ ndu hWl11
    have hU' := hU11.mono' e.tex
    -- the end
    refine ss_cons (s_ret (ee_and (ee_cmp (ee_var 4 rfl ?_))))
    refine ee_make L.st rfl (hr.mono (by omega)) (aa_cons (ee_var 2 rfl (aa_cons ?_)))
    refine ee_call L.li rfl (hr.mono (by omega)) (aa_cons (ee_var 3 rfl (aa_nil ⟨Wl, us, rels, n, rfl, hWl', hU', hw, fun H12 Li2 us12 e12 hLi2 hU12 => aa_nil ?_⟩)))
    intro x2 dx2 hx' hdx' hne'
    have hx2' : upd H12 dx2 (.own x2) x2 = none := by rw [upd_ne (Ne.symm hne')]; exact hx'
    have e13 : Ex K H12 (upd (upd H12 dx2 (.own x2)) x2 (.ins Cs dx2 [])) := (Ex.new hdx').trans (Ex.new hx2')
    have nd12 : NotDraw (.lst us12) := nd_allref fun x hx => by
      obtain ⟨t, _, a, b, vs, e, _⟩ := hU12.mem hx
      exact ⟨a, e⟩
    refine ⟨x2, dx2, Li2, us12, rels, n, rfl, upd_same, e13.keep _ _ nd12 hLi2, hU12.imp fun t u h => (h.toIn.mono e13), hw, n1, n4, fun H14 e14 hst2 => ⟨rfl, ?_⟩⟩
    have e1214 : Ex K H12 H14 := e14 H12 e13 hx'
    have hSt14 := hSt'.mono (e12.trans e1214)
    obtain ⟨dxa, La, usa, hSa, _⟩ := id hSt14.s
    obtain ⟨dxb, Lb, usb, hSb, _⟩ := id hst2
    refine oo_own L.eq rfl (hr.mono (by omega)) hSa hSb ⟨n, _, hSt14.s, hst2, hnm1⟩ fun H15 e15 => ?_
    refine ⟨true, rfl, iteT (ee_one (ee_cmp (ee_var 6 rfl ?_)))⟩
    have hSt15 := hSt14.mono e15
    obtain ⟨dxc, Lc, usc, hSc, _⟩ := id hSt15.s
    refine ee_meth L.rn CS.cls rfl (hr.mono (by omega)) ?_
    refine ee_var 4 rfl ⟨x, dxc, _, rfl, hSc, rfl, aa_cons (ee_var 5 rfl (aa_nil ⟨x, Pm, n, rels.map (nrm n), ps, rfl, hSt15.s, hw1, hSt15.p, hp, n1, n4, fun O2 H16 e16 hO2 => ?_⟩))⟩
    have hSt16 := hSt15.mono e16
    obtain ⟨dxd, Ld, usd, hSd, _⟩ := id hSt16.o
    obtain ⟨dxe, Le, use, hSe, _⟩ := id hO2
    refine oo_own L.eq rfl (hr.mono (by omega)) hSd hSe ⟨n, _, hSt16.o, hO2, fun t ht => ?_⟩ fun H17 e17 => ?_
    · obtain ⟨u, hu, rfl⟩ := List.mem_map.mp ht
      exact (hw1.nm hu).1
    exact q H17
end
end Sy
namespace Sy
structure TAll (w : World) (K : PySem.W.Frag) (mg : Str → Option Value) (Cw Cs Cl : Addr) : Prop where
  t_is_integer : Top K mg "is_integer" s_is_integer
  t_is_below : Top K mg "is_below" s_is_below
  t_power : Top K mg "power" s_power
  t_rows_of : Top K mg "rows_of" s_rows_of
  t_is_name : Top K mg "is_name" s_is_name
  t_is_row : Top K mg "is_row" s_is_row
  t_checked : Top K mg "checked" s_checked
  t_inner : Top K mg "inner" s_inner
  t_own_variables : Top K mg "own_variables" s_own_variables
  t_own_name : Top K mg "own_name" s_own_name
  t_own_arguments : Top K mg "own_arguments" s_own_arguments
  t_are_names : Top K mg "are_names" s_are_names
  t_are_variables : Top K mg "are_variables" s_are_variables
  t_is_well_made : Top K mg "is_well_made" s_is_well_made
  t_agrees : Top K mg "agrees" s_agrees
  t_occurs : Top K mg "occurs" s_occurs
  t_looked : Top K mg "looked" s_looked
  t_free_of : Top K mg "free_of" s_free_of
  t_doubled : Top K mg "doubled" s_doubled
  t_cost_of : Top K mg "cost_of" s_cost_of
  t_is_wide : Top K mg "is_wide" s_is_wide
  t_check_fitting : Top K mg "check_fitting" s_check_fitting
  t_check_cost : Top K mg "check_cost" s_check_cost
  t_relations_of : Top K mg "relations_of" s_relations_of
  t_keys_of : Top K mg "keys_of" s_keys_of
  t_following : Top K mg "following" s_following
  t_check_values : Top K mg "check_values" s_check_values
  t_holds : Top K mg "holds" s_holds
  t_query : Top K mg "query" s_query
  l_mixed : Top K mg "_law_mixed" s_L_mixed
  l_numbers : Top K mg "_law_numbers" s_L_numbers
  l_draw : Top K mg "_law_draw" s_L_draw
  l_equal : Top K mg "_law_equal" s_L_equal
  l_all_equal : Top K mg "_law_all_equal" s_L_all_equal
  l_some_of : Top K mg "_law_some_of" s_L_some_of
  l_atom : Top K mg "_law_atom" s_L_atom
  l_within : Top K mg "_law_within" s_L_within
  l_turned : Top K mg "_law_turned" s_L_turned
  l_barred : Top K mg "_law_barred" s_L_barred
  l_bound : Top K mg "_law_bound" s_L_bound
  l_formula : Top K mg "_law_formula" s_L_formula
  l_names : Top K mg "_law_names" s_L_names
  l_parts : Top K mg "_law_parts" s_L_parts
  l_bound_here : Top K mg "_law_bound_here" s_L_bound_here
  l_tuples : Top K mg "_law_tuples" s_L_tuples
  l_cost : Top K mg "_law_cost" s_L_cost
  l_subset : Top K mg "_law_subset" s_L_subset
  l_world : Top K mg "_law_world" s_L_world
  l_no_less : Top K mg "_law_no_less" s_L_no_less
  l_lists : Top K mg "_law_lists" s_L_lists
  l_valued : Top K mg "_law_valued" s_L_valued
  t_law : Top K mg "law" s_law
  m_eq : TopM K Cs "__eq__" "Structure.__eq__" s_Structure_eq
  m_renamed : TopM K Cs "renamed" "Structure.renamed" s_Structure_renamed
  m_symbols : TopM K Cs "symbols" "Structure.symbols" s_Structure_symbols
  m_rel : TopM K Cl "rel" "Look.rel" s_Look_rel
  m_go : TopM K Cl "go" "Look.go" s_Look_go
  m_with_name : TopM K Cw "with_name" "World.with_name" s_World_with_name
  m_true : TopM K Cw "true" "World.true" s_World_true
  m_joined : TopM K Cw "joined" "World.joined" s_World_joined
  m_ranged : TopM K Cw "ranged" "World.ranged" s_World_ranged
  m_stage : TopM K Cw "stage" "World.stage" s_World_stage
  m_fixed : TopM K Cw "fixed" "World.fixed" s_World_fixed
  m_guessed : TopM K Cw "guessed" "World.guessed" s_World_guessed
  m_reached : TopM K Cw "reached" "World.reached" s_World_reached
  k_Structure : TopK K mg "Structure" Cs "Structure.__init__" s_Structure_init
  k_Look : TopK K mg "Look" Cl "Look.__init__" s_Look_init
  k_World : TopK K mg "World" Cw "World.__init__" s_World_init
  gs : Gs K mg
  cw : CWk K Cw
  cs : CSk K Cs
  cl : CLk K Cl
  ic : C8.InsC K Cs
  lk : LENk w K mg
section
variable {w : World} {K : PySem.W.Frag} {mg : Str → Option Value} {base : Heap} {Cw Cs Cl : Addr}
theorem ld_of (T : TAll w K mg Cw Cs Cl) (hC : mg "Structure" = some (.ref Cs)) : LD w K mg base Cs := by
  have G := T.gs
  have int1 : Dn w K mg base "is_integer" 1 spIsInt := dn_is_integer T.t_is_integer G
  have below : Dn w K mg base "is_below" 2 spIsBelow := dn_is_below T.t_is_below G int1
  have pow : Dn w K mg base "power" 1 spPower := dn_power T.t_power G
  have rowsof : Dn w K mg base "rows_of" 1 (spRowsOf K) := dn_rows_of T.t_rows_of G
  have isname : Dn w K mg base "is_name" 1 spIsName := dn_is_name T.t_is_name G
  have isrow : Dn w K mg base "is_row" 3 (spIsRow K) := dn_is_row T.t_is_row G below
  have inn : Dn w K mg base "inner" 1 (spInner K) := dn_inner T.t_inner G
  have ovars : Dn w K mg base "own_variables" 1 (spOVars K) := dn_own_variables T.t_own_variables G
  have oname : Dn w K mg base "own_name" 1 (spOName K) := dn_own_name T.t_own_name G
  have oargs : Dn w K mg base "own_arguments" 1 (spOArgs K) := dn_own_arguments T.t_own_arguments G
  have names : Dn w K mg base "are_names" 2 (spAreNames K) := dn_are_names T.t_are_names G isname
  have occ : ∀ d, Dn w K mg base "occurs" (d + 2) (spOcc K d) := dn_occurs T.t_occurs G inn oname
  have agr : ∀ d, Dn w K mg base "agrees" (d + 2) (spAgr K d) := dn_agrees T.t_agrees G inn oname occ
  have dbl : Dn w K mg base "doubled" 1 spDoubled := dn_doubled T.t_doubled G
  have cost : ∀ d, Dn w K mg base "cost_of" (d + 2) (spCost K d) := dn_cost_of T.t_cost_of G inn ovars pow dbl
  have wide : ∀ d, Dn w K mg base "is_wide" (d + 2) (spWide K d) := dn_is_wide T.t_is_wide G inn pow
  have vars : Dn w K mg base "are_variables" 3 (spAreVars K) := dn_are_variables T.t_are_variables G names
  have well : Dn w K mg base "is_well_made" 4 (spWell K) := dn_is_well_made T.t_is_well_made G T.lk isname below names vars
  have WT : WTop K mg Cw := ⟨T.m_true, T.m_joined, T.m_ranged, T.m_guessed, T.m_reached, T.m_stage, T.m_fixed, T.m_with_name, T.k_World, T.t_rows_of, T.t_keys_of, T.t_following⟩
  have mix : Dn w K mg base "_law_mixed" 1 spMixed := dn_mixed T.l_mixed G
  have draw : Dn w K mg base "_law_draw" 2 (spDraw K) := dn_draw T.l_draw G mix
  have someof : Dn w K mg base "_law_some_of" 3 (spSomeOf K) := dn_some_of T.l_some_of G draw
  have look : Dn w K mg base "looked" 10 (spLooked K Cl 4) := dn_looked T.t_looked T.cl (dk_look T.k_Look T.cl) 4 (Nat.le_refl _) (dm_go T.m_go G T.cl well (dm_rel T.m_rel T.cl) oname inn agr 4)
  have free : Dn w K mg base "free_of" 6 (spFree K 4) := dn_free_of T.t_free_of G oargs inn ovars 4
  have fit : Dn w K mg base "check_fitting" 2 (spFit K Cs) := dn_check_fitting T.t_check_fitting G T.cs (dm_symbols T.m_symbols T.cs)
  have ccost : Dn w K mg base "check_cost" 7 (spCheckCost K 4) := dn_check_cost T.t_check_cost G 4 (cost 4) (wide 4)
  have cvals : Dn w K mg base "check_values" 7 (spCheckVals K Cs 4) := dn_check_values T.t_check_values G T.cs 4 free below
  have wor : Dk w K mg base "World" Cw 1 (spWInit Cw) := dk_world T.k_World T.cw
  have rels : Dn w K mg base "relations_of" 2 (spRelsOf K Cs) := dn_relations_of T.t_relations_of G T.cs (dn_keys_of T.t_keys_of G)
  have tru : Dm w K mg base Cw "true" 15 (spTr K Cw (fun _ => True) 4) := dm_trueAll WT G T.cw 4
  have sta : Dm w K mg base Cw "stage" 16 (spStageL K Cw 4) := dm_stageL T.m_stage G T.cw rowsof 4 15 (by omega) tru
  have stru : Dk w K mg base "Structure" Cs 5 (spSInit K Cs) := dk_structure T.k_Structure G T.cs int1 (dn_checked T.t_checked G isname below pow isrow)
  have e1 : Dn w K mg base "_law_equal" 1 spEqI := dn_eqI T.l_equal G
  have e2 : Dn w K mg base "_law_all_equal" 2 (spAllI K) := dn_allI T.l_all_equal G e1
  have e3 : Dn w K mg base "_law_equal" 3 (spEqRow K) := dn_eqRow T.l_equal G e2
  have e4 : Dn w K mg base "_law_all_equal" 4 (spAllR K) := dn_allR T.l_all_equal G e3
  exact {
    dd := draw
    eqB := dn_eqB T.l_equal G
    eqR := dn_eqRows T.l_equal G e4
    ho := dn_holds T.t_holds T.cs T.cl T.cw 4 look cvals fit ccost wor rels tru
    qu := dn_query T.t_query G T.cs T.cl T.cw 4 look isname free fit ccost pow (cost 4) wor rels sta
    va := dn_valued T.l_valued
    fm := dn_formula T.l_formula T.l_bound G draw someof (dn_atom T.l_atom G draw) (dn_within T.l_within G) (dn_turned T.l_turned G) (dn_barred T.l_barred G)
    nl := dn_no_less T.l_no_less G 4
    lc := dn_law_cost T.l_cost G (dn_law_parts T.l_parts G) (dn_law_bound_here T.l_bound_here G) 4
    na := dn_law_names T.l_names G draw
    li := dn_lists T.l_lists G
    wo := dn_law_world T.l_world G (dn_subset T.l_subset G draw) (dn_tuples T.l_tuples G)
    so := someof
    nu := dn_numbers T.l_numbers G mix
    st := stru
    rn := dm_renamed T.m_renamed G T.cs below stru
    eq := dm_eq T.m_eq G T.cs hC T.ic }
theorem walk {l : PySem.W.OpenLaw} {q : Program} {loose : List Str} {XP : (Str → Option Value) → Heap → Prop} {YP : World → Heap → Prop} {d : DefRec} {K : Params → PySem.W.Frag} (hn : l.most = some 63) (hP : l.prog = P) (hdn : d.name = "law") (hdf : d.params.defaults = [])
    (hY : ∀ (w : World) (h : Heap), YP w h → (K w.params).In h)
    (F : ∀ (w : World) (mg : Str → Option Value) (h : Heap), (K w.params).In h → h.Ns mainGlobals mg → ∃ Cw Cs Cl, TAll w (K w.params) mg Cw Cs Cl ∧ mg "Structure" = some (.ref Cs)) :
    PySem.W.WalkO q loose XP YP l.row.toRowW d [] (fun f vs => PySem.call f vs) := by
  refine L2.walk_of (n := 63) (k := 21) (x := "_law_script") (CX := fun _ => CX0) (sp := fun w => spLaw (K w.params)) hn (by decide) hdf ⟨rfl, by decide, by decide⟩ hY (fun w mg fa h KX G hfa => ?_) (fun _ _ a ns hl _ hS => ⟨a, ns, rfl, hS, hl, fun _ => rfl⟩) fun _ _ _ _ _ z => z
  obtain ⟨Cw, Cs, Cl, T, hC⟩ := F w mg h KX G
  rw [hdn] at hfa
  obtain ⟨f, fd, FF, hm⟩ := T.t_law.ex
  obtain rfl : fa = f := by rw [hfa] at hm; cases hm; rfl
  obtain ⟨oc, od, kV, doc, pm, an, cdv, ct, osl, rfl, lk, hcd⟩ := FF.ex
  exact ⟨_, fun s v => .of_eq rfl, fun base _ _ => by rw [hP]; exact law_ok FF T.gs T.cs (ld_of T hC)⟩
end
end Sy
namespace Sy
section
variable {w : World} {K : PySem.W.Frag} {h : Heap} {mg : Str → Option Value} {f C a : Addr} {x cx qual : Str} {st : Stmt} {oc kV doc pm cdv ct : Value} {od an dd : Option Addr} {osl sl : Array (Option Value)}
theorem top_mk (X : K.In h) (G : h.Ns mainGlobals mg) (a : PySem.W.nsIn K mainGlobals x = some (some (.ref f))) (l : K.lookup f = some ⟨oc, od, .func (PySem.W.fnOf x x (defArgs st) (defBody st) (defScope st) .none kV doc pm an cdv ct), osl⟩) (c : PySem.W.codeIn K cdv x = true) (k : PySem.W.keepIn K (.ref f) = true) : Top K mg x st :=
  ⟨f, _, fun_mk l c k, PySem.W.mg_of X G a⟩
theorem topM_mk (_ : K.In h) (_ : PySem.W.nsIn K mainGlobals cx = some (some (.ref C))) (a : PySem.W.findIn K (.ref C) x = some (some (.ref f))) (i : PySem.W.isFn K (.ref f) = true) (l : K.lookup f = some ⟨oc, od, .func (PySem.W.fnOf x qual (defArgs st) (defBody st) (defScope st) .none kV doc pm an cdv ct), osl⟩) (c : PySem.W.codeIn K cdv qual = true) (k : PySem.W.keepIn K (.ref f) = true) : TopM K C x qual st :=
  ⟨f, _, fun_mk l c k, a, i, k⟩
theorem topK_mk (X : K.In h) (G : h.Ns mainGlobals mg) (aC : PySem.W.nsIn K mainGlobals x = some (some (.ref C))) (m : PySem.W.makesIn K C = true) (a : PySem.W.findIn K (.ref C) "__init__" = some (some (.ref f))) (i : PySem.W.isFn K (.ref f) = true) (kc : PySem.W.keepIn K (.ref C) = true)
    (l : K.lookup f = some ⟨oc, od, .func (PySem.W.fnOf "__init__" qual (defArgs st) (defBody st) (defScope st) .none kV doc pm an cdv ct), osl⟩) (c : PySem.W.codeIn K cdv qual = true) (k : PySem.W.keepIn K (.ref f) = true) : TopK K mg x C qual st :=
  ⟨f, _, fun_mk l c k, ⟨m, a, i, kc⟩, PySem.W.mg_of X G aC⟩
theorem ns_mk (_ : K.In h) (a : PySem.W.nsIn K mainGlobals x = some (some (.ref C))) : PySem.W.nsIn K mainGlobals x = some (some (.ref C)) := a
theorem cls_mk (_ : K.In h) (_ : PySem.W.nsIn K mainGlobals x = some (some (.ref C))) (pg : PySem.W.plainGet K C Str.empty = true) (hd : PySem.W.hasDictIn K C = true) (po : PySem.W.plainOver K C = true) (sa : PySem.W.findIn K (.ref C) "__setattr__" = some (some (.builtin "object.__setattr__"))) : Cls K C := ⟨pg, hd, po, sa⟩
theorem na_mk (_ : K.In h) (_ : PySem.W.nsIn K mainGlobals cx = some (some (.ref C))) (a : PySem.W.findIn K (.ref C) x = some none) : NoAttr K C x := a
theorem ic_mk (_ : K.In h) (_ : PySem.W.nsIn K mainGlobals cx = some (some (.ref C))) (cl : Cls K C) (ha : PySem.W.findIn K (.ref C) "__class__" = some (some (.builtin "object.__class__"))) (hn : PySem.W.specialIn K (.builtin "object.__class__") "__get__" = some (some (.builtin "getset_descriptor.__get__")))
    (htk : PySem.W.takesIn K (.builtin "object.__class__") = some true) (hm : PySem.W.mroIn K C (.type "object") = some true) (me : PySem.W.kitOne K (.ref C) (.ref C) = some true) : C8.InsC K C := ⟨cl, ha, hn, htk, hm, me⟩
theorem zz_mk (X : K.In h) (G : h.Ns mainGlobals mg) (a : PySem.W.nsIn K mainGlobals x = some none) : mg x = none := PySem.W.mg_none_of X G a
theorem int_mk {n : Int} {t : Tok} (X : K.In h) (G : h.Ns mainGlobals mg) (a : PySem.W.nsIn K mainGlobals x = some (some (.int n t))) : ∃ t, mg x = some (.int n t) := ⟨t, PySem.W.mg_of X G a⟩
theorem str_mk {z : Str} {t : Tok} (X : K.In h) (G : h.Ns mainGlobals mg) (a : PySem.W.nsIn K mainGlobals x = some (some (.str z t))) : ∃ t, mg x = some (.str z t) := ⟨t, PySem.W.mg_of X G a⟩
def strsOf : List Value → Option (List Str)
  | [] => some []
  | .str x _ :: r => (strsOf r).map (x :: ·)
  | _ :: _ => none
theorem strsOf_ok : ∀ {us : List Value} {ss : List Str}, strsOf us = some ss → Vals (ss.map L2.V.str) us
  | [], ss, e => by cases e; exact .nil
  | u :: r, ss, e => by
    cases u <;> first | (simp only [strsOf] at e; cases e) | skip
    rename_i x t
    simp only [strsOf, Option.map_eq_some_iff] at e
    obtain ⟨s2, e1, rfl⟩ := e
    exact .cons ⟨t, rfl⟩ (strsOf_ok e1)
theorem tup_mk {its : Array Value} {n : Nat} {ss : List Str} (X : K.In h) (G : h.Ns mainGlobals mg) (a : PySem.W.nsIn K mainGlobals x = some (some (.ref f))) (l : K.lookup f = some ⟨.type "tuple", dd, .seq its n, sl⟩) (s : strsOf its.toList = some ss) (z : ss.length ≤ 1000) :
    ∃ a, mg x = some (.ref a) ∧ ∀ H, SqT K H a (ss.map L2.V.str) := by
  have hv := strsOf_ok s
  refine ⟨f, PySem.W.mg_of X G a, fun H => .inr ⟨_, its, n, l, rfl, rfl, ?_, hv⟩⟩
  have h3 : its.size = ss.length := by
    have := hv.length
    rw [List.length_map, Array.length_toList] at this
    exact this.symm
  rw [h3]; exact szk z
def intOf : Value → Option Int
  | .int i _ => some i
  | _ => none
theorem lk_mk {es : Array DictEntry} {n : Nat} {t1 t2 t3 t4 t5 t6 t7 t8 t9 t10 t11 t12 : Tok} (X : K.In h) (G : h.Ns mainGlobals mg) (a : PySem.W.nsIn K mainGlobals "LENGTHS" = some (some (.ref f))) (l : K.lookup f = some ⟨.type "dict", none, .dict es n, #[]⟩) (low : (f == sysModules) = false) (lit : PySem.W.KeysLit w.params es.toList)
    (n1 : PySem.W.nsIn K f "rel" = some (some (.int 3 t1))) (n2 : PySem.W.nsIn K f "eq" = some (some (.int 3 t2))) (n3 : PySem.W.nsIn K f "less" = some (some (.int 3 t3))) (n4 : PySem.W.nsIn K f "not" = some (some (.int 2 t4))) (n5 : PySem.W.nsIn K f "and" = some (some (.int 2 t5))) (n6 : PySem.W.nsIn K f "or" = some (some (.int 2 t6)))
    (n7 : PySem.W.nsIn K f "some" = some (some (.int 3 t7))) (n8 : PySem.W.nsIn K f "all" = some (some (.int 3 t8))) (n9 : PySem.W.nsIn K f "lfp" = some (some (.int 5 t9))) (n10 : PySem.W.nsIn K f "pfp" = some (some (.int 5 t10))) (n11 : PySem.W.nsIn K f "tc" = some (some (.int 4 t11))) (n12 : PySem.W.nsIn K f "guess" = some (some (.int 4 t12))) : LENk w K mg := by
  refine ⟨f, PySem.W.mg_of X G a, low, es, n, l, lit, fun p hp => ?_⟩
  unfold LENS at hp
  simp only [List.mem_cons, List.not_mem_nil, or_false] at hp
  rcases hp with rfl | rfl | rfl | rfl | rfl | rfl | rfl | rfl | rfl | rfl | rfl | rfl
  · exact ⟨_, n1, _, rfl⟩
  · exact ⟨_, n2, _, rfl⟩
  · exact ⟨_, n3, _, rfl⟩
  · exact ⟨_, n4, _, rfl⟩
  · exact ⟨_, n5, _, rfl⟩
  · exact ⟨_, n6, _, rfl⟩
  · exact ⟨_, n7, _, rfl⟩
  · exact ⟨_, n8, _, rfl⟩
  · exact ⟨_, n9, _, rfl⟩
  · exact ⟨_, n10, _, rfl⟩
  · exact ⟨_, n11, _, rfl⟩
  · exact ⟨_, n12, _, rfl⟩
end
end Sy
end
set_option maxHeartbeats 0
open PySem PySem.W PySem.Calls PyProof.Rows
theorem PySem.Challenge.cw_sayso_k18_whole_renaming_keeps_meaning_holds : PySem.Challenge.rw_sayso_k18_whole_renaming_keeps_meaning.Holds := by
  w_on; o_law; k_head; (case hw => w_witness2)
  k_fill
  refine Sy.walk (l := PySem.Challenge.rw_sayso_k18_whole_renaming_keeps_meaning) rfl rfl rfl rfl (fun w h Y => PySem.W.kIn_of Y) ?F
  case F =>
    intro w mg h KX G
    have aCw := Sy.ns_mk (x := "World") KX (by k_is)
    have aCs := Sy.ns_mk (x := "Structure") KX (by k_is)
    have aCl := Sy.ns_mk (x := "Look") KX (by k_is)
    have t_is_integer := Sy.top_mk (x := "is_integer") (st := Sy.s_is_integer) KX G (by k_is) (by k_is) (by k_is) (by k_is)
    have t_is_below := Sy.top_mk (x := "is_below") (st := Sy.s_is_below) KX G (by k_is) (by k_is) (by k_is) (by k_is)
    have t_power := Sy.top_mk (x := "power") (st := Sy.s_power) KX G (by k_is) (by k_is) (by k_is) (by k_is)
    have t_rows_of := Sy.top_mk (x := "rows_of") (st := Sy.s_rows_of) KX G (by k_is) (by k_is) (by k_is) (by k_is)
    have t_is_name := Sy.top_mk (x := "is_name") (st := Sy.s_is_name) KX G (by k_is) (by k_is) (by k_is) (by k_is)
    have t_is_row := Sy.top_mk (x := "is_row") (st := Sy.s_is_row) KX G (by k_is) (by k_is) (by k_is) (by k_is)
    have t_checked := Sy.top_mk (x := "checked") (st := Sy.s_checked) KX G (by k_is) (by k_is) (by k_is) (by k_is)
    have t_inner := Sy.top_mk (x := "inner") (st := Sy.s_inner) KX G (by k_is) (by k_is) (by k_is) (by k_is)
    have t_own_variables := Sy.top_mk (x := "own_variables") (st := Sy.s_own_variables) KX G (by k_is) (by k_is) (by k_is) (by k_is)
    have t_own_name := Sy.top_mk (x := "own_name") (st := Sy.s_own_name) KX G (by k_is) (by k_is) (by k_is) (by k_is)
    have t_own_arguments := Sy.top_mk (x := "own_arguments") (st := Sy.s_own_arguments) KX G (by k_is) (by k_is) (by k_is) (by k_is)
    have t_are_names := Sy.top_mk (x := "are_names") (st := Sy.s_are_names) KX G (by k_is) (by k_is) (by k_is) (by k_is)
    have t_are_variables := Sy.top_mk (x := "are_variables") (st := Sy.s_are_variables) KX G (by k_is) (by k_is) (by k_is) (by k_is)
    have t_is_well_made := Sy.top_mk (x := "is_well_made") (st := Sy.s_is_well_made) KX G (by k_is) (by k_is) (by k_is) (by k_is)
    have t_agrees := Sy.top_mk (x := "agrees") (st := Sy.s_agrees) KX G (by k_is) (by k_is) (by k_is) (by k_is)
    have t_occurs := Sy.top_mk (x := "occurs") (st := Sy.s_occurs) KX G (by k_is) (by k_is) (by k_is) (by k_is)
    have t_looked := Sy.top_mk (x := "looked") (st := Sy.s_looked) KX G (by k_is) (by k_is) (by k_is) (by k_is)
    have t_free_of := Sy.top_mk (x := "free_of") (st := Sy.s_free_of) KX G (by k_is) (by k_is) (by k_is) (by k_is)
    have t_doubled := Sy.top_mk (x := "doubled") (st := Sy.s_doubled) KX G (by k_is) (by k_is) (by k_is) (by k_is)
    have t_cost_of := Sy.top_mk (x := "cost_of") (st := Sy.s_cost_of) KX G (by k_is) (by k_is) (by k_is) (by k_is)
    have t_is_wide := Sy.top_mk (x := "is_wide") (st := Sy.s_is_wide) KX G (by k_is) (by k_is) (by k_is) (by k_is)
    have t_check_fitting := Sy.top_mk (x := "check_fitting") (st := Sy.s_check_fitting) KX G (by k_is) (by k_is) (by k_is) (by k_is)
    have t_check_cost := Sy.top_mk (x := "check_cost") (st := Sy.s_check_cost) KX G (by k_is) (by k_is) (by k_is) (by k_is)
    have t_relations_of := Sy.top_mk (x := "relations_of") (st := Sy.s_relations_of) KX G (by k_is) (by k_is) (by k_is) (by k_is)
    have t_keys_of := Sy.top_mk (x := "keys_of") (st := Sy.s_keys_of) KX G (by k_is) (by k_is) (by k_is) (by k_is)
    have t_following := Sy.top_mk (x := "following") (st := Sy.s_following) KX G (by k_is) (by k_is) (by k_is) (by k_is)
    have t_check_values := Sy.top_mk (x := "check_values") (st := Sy.s_check_values) KX G (by k_is) (by k_is) (by k_is) (by k_is)
    have t_holds := Sy.top_mk (x := "holds") (st := Sy.s_holds) KX G (by k_is) (by k_is) (by k_is) (by k_is)
    have t_query := Sy.top_mk (x := "query") (st := Sy.s_query) KX G (by k_is) (by k_is) (by k_is) (by k_is)
    have l_mixed := Sy.top_mk (x := "_law_mixed") (st := Sy.s_L_mixed) KX G (by k_is) (by k_is) (by k_is) (by k_is)
    have l_numbers := Sy.top_mk (x := "_law_numbers") (st := Sy.s_L_numbers) KX G (by k_is) (by k_is) (by k_is) (by k_is)
    have l_draw := Sy.top_mk (x := "_law_draw") (st := Sy.s_L_draw) KX G (by k_is) (by k_is) (by k_is) (by k_is)
    have l_equal := Sy.top_mk (x := "_law_equal") (st := Sy.s_L_equal) KX G (by k_is) (by k_is) (by k_is) (by k_is)
    have l_all_equal := Sy.top_mk (x := "_law_all_equal") (st := Sy.s_L_all_equal) KX G (by k_is) (by k_is) (by k_is) (by k_is)
    have l_some_of := Sy.top_mk (x := "_law_some_of") (st := Sy.s_L_some_of) KX G (by k_is) (by k_is) (by k_is) (by k_is)
    have l_atom := Sy.top_mk (x := "_law_atom") (st := Sy.s_L_atom) KX G (by k_is) (by k_is) (by k_is) (by k_is)
    have l_within := Sy.top_mk (x := "_law_within") (st := Sy.s_L_within) KX G (by k_is) (by k_is) (by k_is) (by k_is)
    have l_turned := Sy.top_mk (x := "_law_turned") (st := Sy.s_L_turned) KX G (by k_is) (by k_is) (by k_is) (by k_is)
    have l_barred := Sy.top_mk (x := "_law_barred") (st := Sy.s_L_barred) KX G (by k_is) (by k_is) (by k_is) (by k_is)
    have l_bound := Sy.top_mk (x := "_law_bound") (st := Sy.s_L_bound) KX G (by k_is) (by k_is) (by k_is) (by k_is)
    have l_formula := Sy.top_mk (x := "_law_formula") (st := Sy.s_L_formula) KX G (by k_is) (by k_is) (by k_is) (by k_is)
    have l_names := Sy.top_mk (x := "_law_names") (st := Sy.s_L_names) KX G (by k_is) (by k_is) (by k_is) (by k_is)
    have l_parts := Sy.top_mk (x := "_law_parts") (st := Sy.s_L_parts) KX G (by k_is) (by k_is) (by k_is) (by k_is)
    have l_bound_here := Sy.top_mk (x := "_law_bound_here") (st := Sy.s_L_bound_here) KX G (by k_is) (by k_is) (by k_is) (by k_is)
    have l_tuples := Sy.top_mk (x := "_law_tuples") (st := Sy.s_L_tuples) KX G (by k_is) (by k_is) (by k_is) (by k_is)
    have l_cost := Sy.top_mk (x := "_law_cost") (st := Sy.s_L_cost) KX G (by k_is) (by k_is) (by k_is) (by k_is)
    have l_subset := Sy.top_mk (x := "_law_subset") (st := Sy.s_L_subset) KX G (by k_is) (by k_is) (by k_is) (by k_is)
    have l_world := Sy.top_mk (x := "_law_world") (st := Sy.s_L_world) KX G (by k_is) (by k_is) (by k_is) (by k_is)
    have l_no_less := Sy.top_mk (x := "_law_no_less") (st := Sy.s_L_no_less) KX G (by k_is) (by k_is) (by k_is) (by k_is)
    have l_lists := Sy.top_mk (x := "_law_lists") (st := Sy.s_L_lists) KX G (by k_is) (by k_is) (by k_is) (by k_is)
    have l_valued := Sy.top_mk (x := "_law_valued") (st := Sy.s_L_valued) KX G (by k_is) (by k_is) (by k_is) (by k_is)
    have t_law := Sy.top_mk (x := "law") (st := Sy.s_law) KX G (by k_is) (by k_is) (by k_is) (by k_is)
    have m_eq := Sy.topM_mk (x := "__eq__") (qual := "Structure.__eq__") (st := Sy.s_Structure_eq) KX aCs (by k_is) (by k_is) (by k_is) (by k_is) (by k_is)
    have m_renamed := Sy.topM_mk (x := "renamed") (qual := "Structure.renamed") (st := Sy.s_Structure_renamed) KX aCs (by k_is) (by k_is) (by k_is) (by k_is) (by k_is)
    have m_symbols := Sy.topM_mk (x := "symbols") (qual := "Structure.symbols") (st := Sy.s_Structure_symbols) KX aCs (by k_is) (by k_is) (by k_is) (by k_is) (by k_is)
    have m_rel := Sy.topM_mk (x := "rel") (qual := "Look.rel") (st := Sy.s_Look_rel) KX aCl (by k_is) (by k_is) (by k_is) (by k_is) (by k_is)
    have m_go := Sy.topM_mk (x := "go") (qual := "Look.go") (st := Sy.s_Look_go) KX aCl (by k_is) (by k_is) (by k_is) (by k_is) (by k_is)
    have m_with_name := Sy.topM_mk (x := "with_name") (qual := "World.with_name") (st := Sy.s_World_with_name) KX aCw (by k_is) (by k_is) (by k_is) (by k_is) (by k_is)
    have m_true := Sy.topM_mk (x := "true") (qual := "World.true") (st := Sy.s_World_true) KX aCw (by k_is) (by k_is) (by k_is) (by k_is) (by k_is)
    have m_joined := Sy.topM_mk (x := "joined") (qual := "World.joined") (st := Sy.s_World_joined) KX aCw (by k_is) (by k_is) (by k_is) (by k_is) (by k_is)
    have m_ranged := Sy.topM_mk (x := "ranged") (qual := "World.ranged") (st := Sy.s_World_ranged) KX aCw (by k_is) (by k_is) (by k_is) (by k_is) (by k_is)
    have m_stage := Sy.topM_mk (x := "stage") (qual := "World.stage") (st := Sy.s_World_stage) KX aCw (by k_is) (by k_is) (by k_is) (by k_is) (by k_is)
    have m_fixed := Sy.topM_mk (x := "fixed") (qual := "World.fixed") (st := Sy.s_World_fixed) KX aCw (by k_is) (by k_is) (by k_is) (by k_is) (by k_is)
    have m_guessed := Sy.topM_mk (x := "guessed") (qual := "World.guessed") (st := Sy.s_World_guessed) KX aCw (by k_is) (by k_is) (by k_is) (by k_is) (by k_is)
    have m_reached := Sy.topM_mk (x := "reached") (qual := "World.reached") (st := Sy.s_World_reached) KX aCw (by k_is) (by k_is) (by k_is) (by k_is) (by k_is)
    have k_Structure := Sy.topK_mk (x := "Structure") (qual := "Structure.__init__") (st := Sy.s_Structure_init) KX G aCs (by k_is) (by k_is) (by k_is) (by k_is) (by k_is) (by k_is) (by k_is)
    have k_Look := Sy.topK_mk (x := "Look") (qual := "Look.__init__") (st := Sy.s_Look_init) KX G aCl (by k_is) (by k_is) (by k_is) (by k_is) (by k_is) (by k_is) (by k_is)
    have k_World := Sy.topK_mk (x := "World") (qual := "World.__init__") (st := Sy.s_World_init) KX G aCw (by k_is) (by k_is) (by k_is) (by k_is) (by k_is) (by k_is) (by k_is)
    have cCw := Sy.cls_mk KX aCw (by k_is) (by k_is) (by k_is) (by k_is)
    have nCw_size := Sy.na_mk (x := "size") KX aCw (by k_is)
    have nCw_relations := Sy.na_mk (x := "relations") KX aCw (by k_is)
    have cCs := Sy.cls_mk KX aCs (by k_is) (by k_is) (by k_is) (by k_is)
    have nCs_size := Sy.na_mk (x := "size") KX aCs (by k_is)
    have nCs_relations := Sy.na_mk (x := "relations") KX aCs (by k_is)
    have cCl := Sy.cls_mk KX aCl (by k_is) (by k_is) (by k_is) (by k_is)
    have nCl_count := Sy.na_mk (x := "count") KX aCl (by k_is)
    have nCl_found := Sy.na_mk (x := "found") KX aCl (by k_is)
    have ic := Sy.ic_mk KX aCs cCs (by k_is) (by k_is) (by k_is) (by k_is) (by rfl)
    have z_len := Sy.zz_mk (x := "len") KX G (by k_is)
    have z_isinstance := Sy.zz_mk (x := "isinstance") KX G (by k_is)
    have z_range := Sy.zz_mk (x := "range") KX G (by k_is)
    have z_zip := Sy.zz_mk (x := "zip") KX G (by k_is)
    have z_enumerate := Sy.zz_mk (x := "enumerate") KX G (by k_is)
    have z_sorted := Sy.zz_mk (x := "sorted") KX G (by k_is)
    have z_set := Sy.zz_mk (x := "set") KX G (by k_is)
    have z_list := Sy.zz_mk (x := "list") KX G (by k_is)
    have z_tuple := Sy.zz_mk (x := "tuple") KX G (by k_is)
    have z_dict := Sy.zz_mk (x := "dict") KX G (by k_is)
    have z_int := Sy.zz_mk (x := "int") KX G (by k_is)
    have z_bool := Sy.zz_mk (x := "bool") KX G (by k_is)
    have z_str := Sy.zz_mk (x := "str") KX G (by k_is)
    have z_min := Sy.zz_mk (x := "min") KX G (by k_is)
    have z_sum := Sy.zz_mk (x := "sum") KX G (by k_is)
    have i_LONGEST := Sy.int_mk (x := "LONGEST") (n := 12) KX G (by k_is)
    have i_LARGEST := Sy.int_mk (x := "LARGEST") (n := 16) KX G (by k_is)
    have i_RELATIONS := Sy.int_mk (x := "RELATIONS") (n := 6) KX G (by k_is)
    have i_PLACES := Sy.int_mk (x := "PLACES") (n := 6) KX G (by k_is)
    have i_TUPLES := Sy.int_mk (x := "TUPLES") (n := 4096) KX G (by k_is)
    have i_MOST_syntax := Sy.int_mk (x := "MOST_syntax") (n := 2000) KX G (by k_is)
    have i_DEEPEST := Sy.int_mk (x := "DEEPEST") (n := 40) KX G (by k_is)
    have i_BRANCHES := Sy.int_mk (x := "BRANCHES") (n := 40) KX G (by k_is)
    have i_GUESSED := Sy.int_mk (x := "GUESSED") (n := 3) KX G (by k_is)
    have i_STEPS := Sy.int_mk (x := "STEPS") (n := 8) KX G (by k_is)
    have i_CAP := Sy.int_mk (x := "CAP") (n := 1000000000) KX G (by k_is)
    have i_MOST_meaning := Sy.int_mk (x := "MOST_meaning") (n := 3000000) KX G (by k_is)
    have i_FEW := Sy.int_mk (x := "FEW") (n := 12) KX G (by k_is)
    have s_LETTERS := Sy.str_mk (x := "LETTERS") (z := "abcdefghijklmnopqrstuvwxyz") KX G (by k_is)
    have s_FIGURES := Sy.str_mk (x := "FIGURES") (z := "0123456789") KX G (by k_is)
    have u_WORDS := Sy.tup_mk (x := "WORDS") (ss := ["and", "or", "not", "some", "all", "lfp", "pfp", "tc", "guess", "true", "false"]) KX G (by k_is) (by k_is) (by rfl) (by decide)
    have u_QUANTIFIERS := Sy.tup_mk (x := "QUANTIFIERS") (ss := ["some", "all"]) KX G (by k_is) (by k_is) (by rfl) (by decide)
    have u_FIXED := Sy.tup_mk (x := "FIXED") (ss := ["lfp", "pfp"]) KX G (by k_is) (by k_is) (by rfl) (by decide)
    have lk := Sy.lk_mk (w := w) KX G (by k_is) (by k_is) (by rfl) (by exact ⟨⟨_, _, rfl, rfl⟩, ⟨⟨_, _, rfl, rfl⟩, ⟨⟨_, _, rfl, rfl⟩, ⟨⟨_, _, rfl, rfl⟩, ⟨⟨_, _, rfl, rfl⟩, ⟨⟨_, _, rfl, rfl⟩, ⟨⟨_, _, rfl, rfl⟩, ⟨⟨_, _, rfl, rfl⟩, ⟨⟨_, _, rfl, rfl⟩, ⟨⟨_, _, rfl, rfl⟩, ⟨⟨_, _, rfl, rfl⟩, ⟨⟨_, _, rfl, rfl⟩, trivial⟩⟩⟩⟩⟩⟩⟩⟩⟩⟩⟩⟩) (by k_is) (by k_is) (by k_is) (by k_is) (by k_is) (by k_is) (by k_is) (by k_is) (by k_is) (by k_is) (by k_is) (by k_is)
    exact ⟨_, _, _, ⟨t_is_integer, t_is_below, t_power, t_rows_of, t_is_name, t_is_row, t_checked, t_inner, t_own_variables, t_own_name, t_own_arguments, t_are_names, t_are_variables, t_is_well_made, t_agrees, t_occurs, t_looked, t_free_of, t_doubled, t_cost_of, t_is_wide, t_check_fitting, t_check_cost, t_relations_of, t_keys_of, t_following, t_check_values, t_holds, t_query, l_mixed, l_numbers, l_draw, l_equal, l_all_equal, l_some_of, l_atom, l_within, l_turned, l_barred, l_bound, l_formula, l_names, l_parts, l_bound_here, l_tuples, l_cost, l_subset, l_world, l_no_less, l_lists, l_valued, t_law, m_eq, m_renamed, m_symbols, m_rel, m_go, m_with_name, m_true, m_joined, m_ranged, m_stage, m_fixed, m_guessed, m_reached, k_Structure, k_Look, k_World, ⟨z_len, z_isinstance, z_range, z_zip, z_enumerate, z_sorted, z_set, z_list, z_tuple, z_dict, z_int, z_bool, z_str, z_min, z_sum, i_LONGEST, i_LARGEST, i_RELATIONS, i_PLACES, i_TUPLES, i_MOST_syntax, i_DEEPEST, i_BRANCHES, i_GUESSED, i_STEPS, i_CAP, i_MOST_meaning, i_FEW, s_LETTERS, s_FIGURES, u_WORDS, u_QUANTIFIERS, u_FIXED⟩, ⟨cCw, nCw_size, nCw_relations⟩, ⟨cCs, nCs_size, nCs_relations⟩, ⟨cCl, nCl_count, nCl_found⟩, ic, lk⟩, PySem.W.mg_of KX G aCs⟩
