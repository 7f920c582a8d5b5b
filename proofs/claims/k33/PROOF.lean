import PyProof.Rows.All
import HandS.ForMost
import HandS.ForExc
import HandS.IsInst
import HandS.Property
import HandS.ClsMeth
import HandS.Star
import HandS.Wide
import HandS.Strs
import HandS.Style
import HandS.StrMore
import HandS.Evl
import KE.GoesNew
import KE.GoesMore
import HandS.SetKeys
import PyProof.InstNe
import HandS.Defaults
import HandS.Head0
import HandS.Head1
import HandS.Head2
import HandS.HeadEnd
import HandS.HeadHook1
import HandS.HeadHook2
import HandS.ExcInit
import HandS.TryMany
import PyProof.Rows.RegReprOcc
import PyProof.StrOps2
import PyProof.Rows.FactsT1
import PyProof.Rows.FactsT2
import PyProof.Rows.FactsN_isinstance
import PyProof.Rows.FactsN_divmod
import PyProof.Rows.RuleB_bool
import HandS.GenList
import HandS.GenYield
import HandS.GenOver
import PyProof.Rows.StrFirst
import HandS.Conv
import HandS.RaiseMore
import HandS.Dict
import HandS.ExcField
import HandS.ExcIs
import PyProof.ReprRoads
import KE.KExcIs
import PyProof.EnumMake
import KE.KExcInit
import PyProof.ExcBaseAll.OverflowError
import PyProof.ExcBaseAll.RuntimeError
import HandS.TupAny
import KE.KBoundM
import HandS.DeepEq
import PyProof.StrLawsRepr
import HandS.Nested
import KE.KSuper
import KE.KRevSl
import HandS.NamedTupGet
import HandS.Deep
import PySem.Challenge.RW_sieverows_k33_whole_simple_rows_and_rows
set_option Elab.async false
set_option linter.all false
set_option maxRecDepth 100000
set_option maxHeartbeats 4000000
/-! Judgements by syntax over the hand layer: what a piece of syntax asks, as a statement of its own; each rule goes from the syntax to its parts. -/
namespace Sv
open PySem PySem.Spec PyProof.Rows L2

/-- an expression, a test, arguments, a statement, a block, a target -/
structure WE (X : Cx) (e : Expr) (σ : L2.St) (H : Hp) (Q : VK) : Prop where
  run : ∀ (pins : List (Addr × Obj)) (s : Shared), Inv X pins σ H s → wpAny (model X.prog X.w) X.A (eval e X.env) (EP X pins σ Q) X.xe s
structure WT (X : Cx) (e : Expr) (σ : L2.St) (H : Hp) (Q : Bool → Hp → Prop) : Prop where
  run : ∀ (pins : List (Addr × Obj)) (s : Shared), Inv X pins σ H s → wpAny (model X.prog X.w) X.A (isTrue e X.env (eval e X.env)) (TP X pins σ Q) X.xe s
structure WW (X : Cx) (e : Expr) (σ : L2.St) (H : Hp) (Q : Bool → Hp → Prop) : Prop where
  run : ∀ (whole : Sem Value) (pins : List (Addr × Obj)) (s : Shared), Inv X pins σ H s → wpAny (model X.prog X.w) X.A (isTrue e X.env whole) (TP X pins σ Q) X.xe s
structure WA (X : Cx) (es : List Expr) (σ : L2.St) (H : Hp) (Q : List V → Hp → Prop) : Prop where
  run : ∀ (pos : Pos) (pins : List (Addr × Obj)) (s : Shared), Inv X pins σ H s → wpAny (model X.prog X.w) X.A (spliced (backTo pos (starEach es X.env))) (AP X pins σ Q) X.xe s
structure WS (X : Cx) (st : Stmt) (D : Ends) (σ : L2.St) (H : Hp) : Prop where
  run : ∀ (pins : List (Addr × Obj)) (s : Shared), Inv X pins σ H s → wpAny (model X.prog X.w) X.A (exec st X.env) (SP X pins D) X.xe s
structure WL (X : Cx) (sts : List Stmt) (D : Ends) (σ : L2.St) (H : Hp) : Prop where
  run : ∀ (pins : List (Addr × Obj)) (s : Shared), Inv X pins σ H s → wpAny (model X.prog X.w) X.A (execs sts X.env) (SP X pins D) X.xe s
structure WG (X : Cx) (tg : Expr) (v : V) (σ : L2.St) (H : Hp) (Q : L2.St → Hp → Prop) : Prop where
  run : ∀ (pins : List (Addr × Obj)) (s : Shared) (u : Value), Inv X pins σ H s → RelV v u → wpAny (model X.prog X.w) X.A (assign tg X.env u) (fun _ s' => ∃ σ' H', Inv X pins σ' H' s' ∧ Q σ' H') X.xe s
structure WGs (X : Cx) (ts : List Expr) (vs : List V) (σ : L2.St) (H : Hp) (Q : L2.St → Hp → Prop) : Prop where
  run : ∀ (pins : List (Addr × Obj)) (s : Shared) (us : List Value), Inv X pins σ H s → Vals vs us → wpAny (model X.prog X.w) X.A (assignInOrder ((assignEach ts X.env).map (·.2)) us) (fun _ s' => ∃ σ' H', Inv X pins σ' H' s' ∧ Q σ' H') X.xe s
structure WO (X : Cx) (oe : Option Expr) (σ : L2.St) (H : Hp) (Q : Option Int → Hp → Prop) : Prop where
  run : ∀ t : TO, PO X oe t → t σ H Q → True
section
variable {X : Cx} {e : Expr} {es : List Expr} {st : Stmt} {sts : List Stmt} {σ : L2.St} {H : Hp}
theorem pe_w : PE X e (WE X e) := ⟨fun pins s _ _ _ I h => h.run pins s I⟩
theorem pt_w : PT X e (WT X e) := ⟨fun pins s _ _ _ I h => h.run pins s I⟩
theorem pw_w : PW X e (WW X e) := ⟨fun wh pins s _ _ _ I h => h.run wh pins s I⟩
theorem pa_w : PA X es (WA X es) := ⟨fun pos pins s _ _ _ I h => h.run pos pins s I⟩
theorem ps_w : PS X st (WS X st) := ⟨fun pins s _ _ _ I h => h.run pins s I⟩
theorem pss_w : PSs X sts (WL X sts) := ⟨fun pins s _ _ _ I h => h.run pins s I⟩
theorem pg_w : PG X e (WG X e) := ⟨fun pins s _ _ _ u _ I r h => h.run pins s u I r⟩
theorem pgs_w : PGs X es (WGs X es) := ⟨fun pins s _ _ _ us _ I r h => h.run pins s us I r⟩
theorem _root_.L2.PE.w {t : TE} {Q : VK} (h : PE X e t) (q : t σ H Q) : WE X e σ H Q := ⟨fun pins s I => h.run pins s σ H Q I q⟩
theorem _root_.L2.PT.w {t : TT} {Q : Bool → Hp → Prop} (h : PT X e t) (q : t σ H Q) : WT X e σ H Q := ⟨fun pins s I => h.run pins s σ H Q I q⟩
theorem _root_.L2.PW.w {t : TT} {Q : Bool → Hp → Prop} (h : PW X e t) (q : t σ H Q) : WW X e σ H Q := ⟨fun wh pins s I => h.run wh pins s σ H Q I q⟩
theorem _root_.L2.PA.w {t : TA} {Q : List V → Hp → Prop} (h : PA X es t) (q : t σ H Q) : WA X es σ H Q := ⟨fun pos pins s I => h.run pos pins s σ H Q I q⟩
theorem _root_.L2.PS.w {t : TS} {D : Ends} (h : PS X st t) (q : t D σ H) : WS X st D σ H := ⟨fun pins s I => h.run pins s σ H D I q⟩
theorem _root_.L2.PSs.w {t : TS} {D : Ends} (h : PSs X sts t) (q : t D σ H) : WL X sts D σ H := ⟨fun pins s I => h.run pins s σ H D I q⟩
theorem _root_.L2.PG.w {t : TG} {v : V} {Q : L2.St → Hp → Prop} (h : PG X e t) (q : t v σ H Q) : WG X e v σ H Q := ⟨fun pins s u I r => h.run pins s σ H v u Q I r q⟩
theorem _root_.L2.PGs.w {t : TGs} {vs : List V} {Q : L2.St → Hp → Prop} (h : PGs X es t) (q : t vs σ H Q) : WGs X es vs σ H Q := ⟨fun pins s us I r => h.run pins s σ H vs us Q I r q⟩
/-- weaken -/
theorem WE.imp {Q Q' : VK} (h : WE X e σ H Q) (q : ∀ v H', Q v H' → Q' v H') : WE X e σ H Q' :=
  ⟨fun pins s I => thn (h.run pins s I) fun _ _ ⟨v, H', I', r, z⟩ => ⟨v, H', I', r, q v H' z⟩⟩
end

theorem WA.imp {X : Cx} {es : List Expr} {σ : L2.St} {H : Hp} {Q Q' : List V → Hp → Prop} (h : WA X es σ H Q) (q : ∀ v H', Q v H' → Q' v H') : WA X es σ H Q' :=
  ⟨fun pos pins s I => thn (h.run pos pins s I) fun _ _ ⟨v, H', I', r, z⟩ => ⟨v, H', I', r, q v H' z⟩⟩
theorem WT.imp {X : Cx} {e : Expr} {σ : L2.St} {H : Hp} {Q Q' : Bool → Hp → Prop} (h : WT X e σ H Q) (q : ∀ v H', Q v H' → Q' v H') : WT X e σ H Q' :=
  ⟨fun pins s I => thn (h.run pins s I) fun _ _ ⟨H', I', z⟩ => ⟨H', I', q _ H' z⟩⟩

/-! ### slots by name -/
/-- the name x holds v -/
inductive At : List Str → L2.St → Str → V → Prop where
  | here {x : Str} {N : List Str} {v : V} {σ : L2.St} : At (x :: N) (some v :: σ) x v
  | there {x y : Str} {N : List Str} {v : V} {o : Option V} {σ : L2.St} : At N σ x v → At (y :: N) (o :: σ) x v
/-- x stored -/
inductive Put : List Str → L2.St → Str → V → L2.St → Prop where
  | here {x : Str} {N : List Str} {v : V} {o : Option V} {σ : L2.St} : Put (x :: N) (o :: σ) x v (some v :: σ)
  | there {x y : Str} {N : List Str} {v : V} {o : Option V} {σ σ' : L2.St} : Put N σ x v σ' → Put (y :: N) (o :: σ) x v (o :: σ')
theorem At.ix {N : List Str} {σ : L2.St} {x : Str} {v : V} (h : At N σ x v) : ∃ i : Nat, N[i]? = some x ∧ σ[i]? = some (some v) := by
  induction h with
  | here => exact ⟨0, rfl, rfl⟩
  | there _ ih => obtain ⟨i, a, b⟩ := ih; exact ⟨i + 1, by simpa using a, by simpa using b⟩
theorem Put.ix {N : List Str} {σ σ' : L2.St} {x : Str} {v : V} (h : Put N σ x v σ') : ∃ i : Nat, N[i]? = some x ∧ σ' = σ.set i (some v) := by
  induction h with
  | here => exact ⟨0, rfl, rfl⟩
  | there _ ih => obtain ⟨i, a, b⟩ := ih; exact ⟨i + 1, by simpa using a, by rw [b, List.set_cons_succ]⟩
/-- what is known of the names: N all slots; L the visible ones; S those that may be stored; G the global ones -/
structure Nm (X : Cx) (N L S G B : List Str) : Prop where
  names : X.N = N
  nd : N.Nodup
  vis : ∀ x ∈ L, Vis X.env.scope x ∧ (x == ("__debug__" : Str)) = false ∧ (x == ("__classdict__" : Str)) = false
  sto : ∀ x ∈ S, Loc X.env.scope x ∧ (X.fn x = true ∨ X.env.scope.names.lookup x = some .local)
  glo : ∀ x ∈ G, Gl X x ∧ (x == ("__debug__" : Str)) = false ∧ x ≠ "__name__"
  blt : ∀ x ∈ B, X.mg x = none
  bgl : ∀ x ∈ B, Gl X x ∧ (x == ("__debug__" : Str)) = false ∧ x ≠ "__name__"
  calm : X.calm = true
/-- membership by its own shape -/
inductive Mb (x : Str) : List Str → Prop where
  | here {l : List Str} : Mb x (x :: l)
  | there {y : Str} {l : List Str} : Mb x l → Mb x (y :: l)
theorem Mb.mem {x : Str} {l : List Str} (h : Mb x l) : x ∈ l := by
  induction h with
  | here => exact List.mem_cons_self
  | there _ ih => exact List.mem_cons_of_mem _ ih

section
variable {X : Cx} {N L S G B : List Str} {σ : L2.St} {H : Hp} {Q : VK} {x : Str} {v : V} {pos : Pos}
theorem w_name (c : Nm X N L S G B) (h : At N σ x v) (m : Mb x L) (q : Q v H) : WE X (.Name x pos) σ H Q := by
  obtain ⟨i, h1, h2⟩ := h.ix
  obtain ⟨a, b, d⟩ := c.vis x m.mem
  exact (pe_var (i := i) (by rw [c.names]; exact h1) a b d).w ⟨v, h2, q⟩
theorem w_gname {v : V} {u : Value} (c : Nm X N L S G B) (m : Mb x G) (hm : X.mg x = some u) (r : RelV v u) (q : Q v H) : WE X (.Name x pos) σ H Q := by
  obtain ⟨a, b, d⟩ := c.glo x m.mem
  exact (pe_glob a hm r b).w q
theorem w_bname {v : V} {u : Value} (c : Nm X N L S G B) (m : Mb x B) (hv : bootBuiltins x = some u) (r : RelV v u) (q : Q v H) : WE X (.Name x pos) σ H Q := by
  obtain ⟨a, b, d⟩ := c.bgl x m.mem
  exact (pe_bltn a (c.blt x m.mem) hv r d b).w q
theorem w_int {i : Int} {j} (q : Q (.int i) H) : WE X (.Constant (.int i) j pos) σ H Q := (pe_int).w q
theorem w_bl {b : Bool} {j} (q : Q (.bl b) H) : WE X (.Constant (.bool b) j pos) σ H Q := (pe_bl).w q
theorem w_non {j} (q : Q .non H) : WE X (.Constant .none j pos) σ H Q := (pe_non).w q
theorem w_str {z : Str} {j} (q : Q (.str z) H) : WE X (.Constant (.str z) j pos) σ H Q := (pe_str).w q
/-- a target that is a name -/
theorem wg_name {Q : L2.St → Hp → Prop} {σ' : L2.St} (c : Nm X N L S G B) (h : Put N σ x v σ') (m : Mb x S) (q : Q σ' H) : WG X (.Name x pos) v σ H Q := by
  obtain ⟨i, h1, rfl⟩ := h.ix
  obtain ⟨a, b⟩ := c.sto x m.mem
  exact (pg_name (i := i) (by rw [c.names]; exact c.nd) (by rw [c.names]; exact h1) a b).w q
end

/-! ### operators: by values -/
structure WB (X : Cx) (f : Value → Value → Sem Value) (x y : V) (σ : L2.St) (H : Hp) (Q : VK) : Prop where
  run : ∀ (pins : List (Addr × Obj)) (s : Shared) (v u : Value), Inv X pins σ H s → RelV x v → RelV y u → wpAny (model X.prog X.w) X.A (f v u) (EP X pins σ Q) X.xe s
structure WU (X : Cx) (f : Value → Sem Value) (x : V) (σ : L2.St) (H : Hp) (Q : VK) : Prop where
  run : ∀ (pins : List (Addr × Obj)) (s : Shared) (v : Value), Inv X pins σ H s → RelV x v → wpAny (model X.prog X.w) X.A (f v) (EP X pins σ Q) X.xe s
theorem _root_.L2.OpR.w {X : Cx} {f : Value → Value → Sem Value} {r : R2} {x y : V} {σ : L2.St} {H : Hp} {Q : VK} (h : OpR X f r) (q : r x y H Q) : WB X f x y σ H Q := ⟨fun pins s v u I rx ry => h pins s σ H x y v u Q I rx ry q⟩
theorem _root_.L2.UnR.w {X : Cx} {f : Value → Sem Value} {r : V → Hp → VK → Prop} {x : V} {σ : L2.St} {H : Hp} {Q : VK} (h : UnR X f r) (q : r x H Q) : WU X f x σ H Q := ⟨fun pins s v I rx => h pins s σ H x v Q I rx q⟩
section
variable {X : Cx} {a b c : Expr} {σ : L2.St} {H : Hp} {Q : VK} {pos : Pos}
theorem w_bin {op : Operator} (h : WE X a σ H fun x H1 => WE X b σ H1 fun y H2 => WB X (binaryOp op) x y σ H2 Q) : WE X (.BinOp a op b pos) σ H Q :=
  ⟨fun pins s I => wpAny_BinOp (thn (h.run pins s I) fun v s1 ⟨x, H1, I1, r1, q1⟩ => thn (q1.run pins s1 I1) fun u s2 ⟨y, H2, I2, r2, q2⟩ => q2.run pins s2 v u I2 r1 r2)⟩
theorem w_un {op : UnaryOp} (h : WE X a σ H fun x H1 => WU X (unaryOp op) x σ H1 Q) : WE X (.UnaryOp op a pos) σ H Q :=
  ⟨fun pins s I => UnaryOp_ (thn (h.run pins s I) fun v s1 ⟨x, H1, I1, r1, q1⟩ => q1.run pins s1 v I1 r1)⟩
/-- one comparison as a value; hm by nomark (rfl for in, not in) -/
theorem w_cmp {op : CmpOp} (h : WE X a σ H fun x H1 => WE X b σ H1 fun y H2 => WB X (compareOp op) x y σ H2 Q) (hm : behindInMarks op b = false) : WE X (.Compare a [op] [b] pos) σ H Q :=
  ⟨fun pins s I => wpAny_Compare1 (thn (h.run pins s I) fun v s1 ⟨x, H1, I1, r1, q1⟩ => thn (q1.run pins s1 I1) fun u s2 ⟨y, H2, I2, r2, q2⟩ => q2.run pins s2 v u I2 r1 r2) hm⟩
theorem wt_cmp {op : CmpOp} {Q : Bool → Hp → Prop} (h : WE X a σ H fun x H1 => WE X b σ H1 fun y H2 => WB X (compareOp op) x y σ H2 fun z H3 => ∃ k, z = .bl k ∧ Q k H3) (hm : behindInMarks op b = false) : WT X (.Compare a [op] [b] pos) σ H Q :=
  ⟨fun pins s I => wpAny_isTrue_Compare1 (thn (h.run pins s I) fun v s1 ⟨x, H1, I1, r1, q1⟩ => thn (q1.run pins s1 I1) fun u s2 ⟨y, H2, I2, r2, q2⟩ => thn (q2.run pins s2 v u I2 r1 r2) fun d s3 ⟨z, H3, I3, r3, k, e, q3⟩ => by
    subst e
    cases r3
    exact wpAny_truthy_bool ⟨H3, I3, q3⟩) hm⟩
/-- a < b < c -/
theorem w_chain {op op' : CmpOp} (h : WE X a σ H fun x H1 => WE X b σ H1 fun y H2 => WB X (compareOp op) x y σ H2 fun z H3 => ∃ k, z = .bl k ∧ if k = true then WE X c σ H3 fun w' H4 => WB X (compareOp op') y w' σ H4 Q else Q (.bl false) H3)
    (hm : lastMarks [op, op'] [b, c] = false := by with_unfolding_all rfl) : WE X (.Compare a [op, op'] [b, c] pos) σ H Q :=
  ⟨fun pins s I => Compare_chain (thn (h.run pins s I) fun v s1 ⟨x, H1, I1, r1, q1⟩ => chain_link (thn (q1.run pins s1 I1) fun u s2 ⟨y, H2, I2, r2, q2⟩ => thn (q2.run pins s2 v u I2 r1 r2) fun d s3 ⟨z, H3, I3, r3, k, e, q3⟩ => by
    subst e
    cases r3
    refine wpAny_truthy_bool ?_
    cases k with
    | false => exact ite_ff ⟨.bl false, H3, I3, rfl, q3⟩
    | true => exact ite_tt (chain_last (thn (q3.run pins s3 I3) fun w' s4 ⟨z', H4, I4, r4, q4⟩ => q4.run pins s4 u w' I4 r2 r4)))) hm⟩
theorem wt_chain {op op' : CmpOp} {Q : Bool → Hp → Prop} (h : WE X a σ H fun x H1 => WE X b σ H1 fun y H2 => WB X (compareOp op) x y σ H2 fun z H3 => ∃ k, z = .bl k ∧ if k = true then WE X c σ H3 fun w' H4 => WB X (compareOp op') y w' σ H4 fun z' H5 => ∃ k', z' = .bl k' ∧ Q k' H5 else Q false H3)
    (hm : lastMarks [op, op'] [b, c] = false := by with_unfolding_all rfl) : WT X (.Compare a [op, op'] [b, c] pos) σ H Q :=
  ⟨fun pins s I => isTrue_chain (thn (h.run pins s I) fun v s1 ⟨x, H1, I1, r1, q1⟩ => test_link (thn (q1.run pins s1 I1) fun u s2 ⟨y, H2, I2, r2, q2⟩ => thn (q2.run pins s2 v u I2 r1 r2) fun d s3 ⟨z, H3, I3, r3, k, e, q3⟩ => by
    subst e
    cases r3
    refine wpAny_truthy_bool ?_
    cases k with
    | false => exact ite_ff ⟨H3, I3, q3⟩
    | true =>
      refine ite_tt (test_last (thn (q3.run pins s3 I3) fun w' s4 ⟨z', H4, I4, r4, q4⟩ => thn (q4.run pins s4 u w' I4 r2 r4) fun d' s5 ⟨z2, H5, I5, r5, k2, e2, q5⟩ => ?_))
      subst e2
      cases r5
      exact wpAny_truthy_bool ⟨H5, I5, q5⟩)) hm⟩
/-! ### tests -/
variable {T : Bool → Hp → Prop} {rest : List Expr}
theorem wt_of_ww (h : WW X a σ H T) : WT X a σ H T := (pw_w.pt).w h
theorem ww_and1 (h : WT X a σ H T) : WW X (.BoolOp .And [a] pos) σ H T := (pw_and1 pt_w).w h
theorem ww_or1 (h : WT X a σ H T) : WW X (.BoolOp .Or [a] pos) σ H T := (pw_or1 pt_w).w h
theorem ww_and (h : WT X a σ H fun k H1 => if k = true then WW X (.BoolOp .And (b :: rest) pos) σ H1 T else T false H1) : WW X (.BoolOp .And (a :: b :: rest) pos) σ H T := (pw_and pt_w pw_w).w h
theorem ww_or (h : WT X a σ H fun k H1 => if k = true then T true H1 else WW X (.BoolOp .Or (b :: rest) pos) σ H1 T) : WW X (.BoolOp .Or (a :: b :: rest) pos) σ H T := (pw_or pt_w pw_w).w h
theorem wt_not (h : WT X a σ H fun k H1 => T (!k) H1) : WT X (.UnaryOp .Not a pos) σ H T := (pt_not pt_w).w h
/-- any other expression, by its value's truth -/
theorem wt_val (h : WE X a σ H fun x H1 => ∃ k, TruV X.K x H1 k ∧ T k H1) (he : ∀ whole, isTrue a X.env whole = (do let v ← whole; standAt a.pos; holding [v] (truthy v)) := by intro _; with_unfolding_all rfl) : WT X a σ H T := (pt_truth pe_w he).w h
/-- as values, all but the last True or False -/
theorem w_one {op} (h : WE X a σ H Q) : WE X (.BoolOp op [a] pos) σ H Q := (pe_one pe_w).w h
theorem w_and (h : WE X a σ H fun x H1 => ∃ k, x = .bl k ∧ if k = true then WE X (.BoolOp .And (b :: rest) pos) σ H1 Q else Q (.bl false) H1) : WE X (.BoolOp .And (a :: b :: rest) pos) σ H Q := (pe_and pe_w pe_w).w h
theorem w_or (h : WE X a σ H fun x H1 => ∃ k, x = .bl k ∧ if k = true then Q (.bl true) H1 else WE X (.BoolOp .Or (b :: rest) pos) σ H1 Q) : WE X (.BoolOp .Or (a :: b :: rest) pos) σ H Q := (pe_or pe_w pe_w).w h
theorem w_not (h : WE X a σ H fun x H1 => ∃ k, x = .bl k ∧ Q (.bl (!k)) H1) : WE X (.UnaryOp .Not a pos) σ H Q := (pe_not pe_w).w h
theorem w_if (h : WT X c σ H fun k H1 => if k = true then WE X a σ H1 Q else WE X b σ H1 Q) : WE X (.IfExp c a b pos) σ H Q := (pe_ifExp pt_w pe_w pe_w).w h
end
/-- a new object: what stood stands -/
theorem same_new {H : Hp} {p : Addr} {o : HO} (h : H p = none) : Same H (upd H p o) := fun a u e => by
  rw [upd_ne (ne_of_none e h)]
  exact e
theorem newly {H : Hp} {p : Addr} {o : HO} {Q : Hp → Prop} (h : ∀ H', Same H H' → H' p = some o → Q H') (n : H p = none) : Q (upd H p o) := h _ (same_new n) upd_same
theorem newly' {H : Hp} {o : HO} {Q : Addr → Hp → Prop} (h : ∀ p H', H p = none → Same H H' → H' p = some o → Q p H') : ∀ p, H p = none → Q p (upd H p o) := fun p n => h p _ n (same_new n) upd_same
/-- an object that H does not know changes -/
theorem same_mut {H H' : Hp} {p : Addr} {o : HO} (e : Same H H') (h : H p = none) : Same H (upd H' p o) := fun a u q => by
  rw [upd_ne (ne_of_none q h)]
  exact e a u q
theorem same_at {H H' : Hp} {p : Addr} {o : HO} (e : Same H H') (h : H p = some o) : H' p = some o := e p o h
theorem same_t {K : PySem.W.Frag} {H H' : Hp} {a : Addr} {xs : List V} (e : Same H H') (h : SqT K H a xs) : SqT K H' a xs := by
  rcases h with (h | ⟨o, h⟩) | h
  · exact .inl (.inl (e _ _ h))
  · exact .inl (.inr ⟨o, e _ _ h⟩)
  · exact .inr h
theorem ite_bl {k : Bool} {A B : Prop} (h1 : k = true → A) (h2 : k = false → B) : if k = true then A else B := by
  cases k with
  | true => rw [if_pos rfl]; exact h1 rfl
  | false => rw [if_neg (by decide)]; exact h2 rfl
end Sv

namespace Sv
open PySem PySem.Spec PyProof.Rows L2

/-! ### operators on values -/
section
variable {X : Cx} {σ : L2.St} {H : Hp} {Q : VK}
theorem b_add {i j : Int} (q : Q (.int (i + j)) H) : WB X (binaryOp .Add) (.int i) (.int j) σ H Q := op_add.w ⟨_, _, rfl, rfl, q⟩
theorem b_sub {i j : Int} (q : Q (.int (i - j)) H) : WB X (binaryOp .Sub) (.int i) (.int j) σ H Q := op_sub.w ⟨_, _, rfl, rfl, q⟩
theorem b_mul {i j : Int} (h : IntMulOk i j) (q : Q (.int (i * j)) H) : WB X (binaryOp .Mult) (.int i) (.int j) σ H Q :=
  ⟨fun pins s v u I rx ry => by
    obtain ⟨t, rfl⟩ := rx
    obtain ⟨t', rfl⟩ := ry
    exact mul_int (show EP X pins σ Q _ _ from ⟨V.int (i * j), H, I.tok _, ⟨_, rfl⟩, q⟩) h⟩
theorem b_mod {i j : Int} (h : 0 < j) (q : Q (.int (i % j)) H) : WB X (binaryOp .Mod) (.int i) (.int j) σ H Q := op_mod.w ⟨_, _, rfl, rfl, h, q⟩
theorem b_fdiv {i j : Int} (h : 0 < j) (h2 : j < 1073741824) (q : Q (.int (i / j)) H) : WB X (binaryOp .FloorDiv) (.int i) (.int j) σ H Q := op_fdiv.w ⟨_, _, rfl, rfl, ⟨h, h2⟩, q⟩
theorem b_pow {i j : Int} (h : 0 ≤ j ∧ j ≤ 1000000 ∧ i.natAbs < 2 ^ 64) (q : Q (.int (i ^ j.toNat)) H) : WB X (binaryOp .Pow) (.int i) (.int j) σ H Q := op_pow.w ⟨_, _, rfl, rfl, h, q⟩
theorem b_addS {x y : Str} (h : x.length + y.length ≤ sizeLine) (q : Q (.str (x ++ y)) H) : WB X (binaryOp .Add) (.str x) (.str y) σ H Q := op_add_str.w ⟨_, _, rfl, rfl, h, q⟩
theorem b_cat {l b : Addr} {xs zs : List V} (h1 : H l = some (.lst xs)) (h2 : H b = some (.lst zs)) (hz : xs.length + zs.length ≤ sizeLine) (q : ∀ p H', H p = none → Same H H' → H' p = some (.lst (xs ++ zs)) → Q (.ref p) H') :
    WB X (binaryOp .Add) (.ref l) (.ref b) σ H Q := op_cat.w ⟨_, _, _, _, rfl, rfl, h1, h2, hz, newly' (Q := fun p H' => Q (.ref p) H') q⟩
theorem b_rep {l : Addr} {k : Int} {xs : List V} (h1 : H l = some (.lst xs)) (h2 : -(2 ^ 63) ≤ k) (h3 : k < 2 ^ 63) (hz : xs.length * k.toNat ≤ sizeLine) (q : ∀ p H', H p = none → Same H H' → H' p = some (.lst (List.replicate k.toNat xs).flatten) → Q (.ref p) H') :
    WB X (binaryOp .Mult) (.ref l) (.int k) σ H Q := op_rep.w ⟨_, _, _, rfl, rfl, h1, h2, h3, hz, newly' (Q := fun p H' => Q (.ref p) H') q⟩
theorem b_lt {i j : Int} (q : Q (.bl (decide (i < j))) H) : WB X (compareOp .Lt) (.int i) (.int j) σ H Q := op_lt.w ⟨_, _, rfl, rfl, q⟩
theorem b_le {i j : Int} (q : Q (.bl (decide (i ≤ j))) H) : WB X (compareOp .LtE) (.int i) (.int j) σ H Q := op_le.w ⟨_, _, rfl, rfl, q⟩
theorem b_gt {i j : Int} (q : Q (.bl (decide (j < i))) H) : WB X (compareOp .Gt) (.int i) (.int j) σ H Q := op_gt.w ⟨_, _, rfl, rfl, q⟩
theorem b_ge {i j : Int} (q : Q (.bl (decide (j ≤ i))) H) : WB X (compareOp .GtE) (.int i) (.int j) σ H Q := op_ge.w ⟨_, _, rfl, rfl, q⟩
theorem b_eqI {i j : Int} (q : Q (.bl (decide (i = j))) H) : WB X (compareOp .Eq) (.int i) (.int j) σ H Q := op_eq.w ⟨rfl, by simpa using q⟩
theorem b_neI {i j : Int} (q : Q (.bl (!decide (i = j))) H) : WB X (compareOp .NotEq) (.int i) (.int j) σ H Q := op_ne.w ⟨rfl, by simpa using q⟩
theorem b_eqS {x y : Str} (q : Q (.bl (decide (x = y))) H) : WB X (compareOp .Eq) (.str x) (.str y) σ H Q := op_eq.w ⟨rfl, by simpa using q⟩
theorem b_neS {x y : Str} (q : Q (.bl (!decide (x = y))) H) : WB X (compareOp .NotEq) (.str x) (.str y) σ H Q := op_ne.w ⟨rfl, by simpa using q⟩
theorem b_eqB {x y : Bool} (q : Q (.bl (decide (x = y))) H) : WB X (compareOp .Eq) (.bl x) (.bl y) σ H Q := op_eq.w ⟨rfl, by simpa using q⟩
theorem b_neB {x y : Bool} (q : Q (.bl (!decide (x = y))) H) : WB X (compareOp .NotEq) (.bl x) (.bl y) σ H Q := op_ne.w ⟨rfl, by simpa using q⟩
theorem b_eqV {x y : V} (h : scal x y = true) (q : Q (.bl (decide (x = y))) H) : WB X (compareOp .Eq) x y σ H Q := op_eq.w ⟨h, q⟩
theorem b_neV {x y : V} (h : scal x y = true) (q : Q (.bl (!decide (x = y))) H) : WB X (compareOp .NotEq) x y σ H Q := op_ne.w ⟨h, q⟩
theorem b_isN {x : V} (q : Q (.bl (decide (x = .non))) H) : WB X (compareOp .Is) x .non σ H Q := op_isN.w ⟨rfl, q⟩
theorem b_notN {x : V} (q : Q (.bl (!decide (x = .non))) H) : WB X (compareOp .IsNot) x .non σ H Q := op_notN.w ⟨rfl, q⟩
theorem b_isB {x y : Bool} (q : Q (.bl (decide (x = y))) H) : WB X (compareOp .Is) (.bl x) (.bl y) σ H Q := op_isBl.w ⟨_, _, rfl, rfl, q⟩
theorem b_notB {x y : Bool} (q : Q (.bl (!decide (x = y))) H) : WB X (compareOp .IsNot) (.bl x) (.bl y) σ H Q := op_notBl.w ⟨_, _, rfl, rfl, q⟩
theorem b_inS {c : Nat} {z : Str} (q : Q (.bl (decide (c ∈ z.cps.toList))) H) : WB X (compareOp .In) (.str ⟨#[c]⟩) (.str z) σ H Q := op_in_sign.w ⟨_, _, rfl, rfl, q⟩
theorem b_notinS {c : Nat} {z : Str} (q : Q (.bl (!decide (c ∈ z.cps.toList))) H) : WB X (compareOp .NotIn) (.str ⟨#[c]⟩) (.str z) σ H Q := op_notIn_sign.w ⟨_, _, rfl, rfl, q⟩
theorem b_inSet {k : Int} {a : Addr} {S : Int → Bool} {n : Nat} (h : H a = some (SetO X.w a S n)) (q : Q (.bl (S k)) H) : WB X (compareOp .In) (.int k) (.ref a) σ H Q := or_sin.w ⟨_, _, _, _, rfl, rfl, h, q⟩
theorem b_inL {x : V} {p : Addr} {xs : List V} (h : SqL X.K H p xs ∨ SqT X.K H p xs) (hx : flatV x = true) (ha : xs.all flatV = true) (q : Q (.bl (inV x xs)) H) : WB X (compareOp .In) x (.ref p) σ H Q := op_in_seq.w ⟨_, _, rfl, h, hx, ha, q⟩
theorem b_notinL {x : V} {p : Addr} {xs : List V} (h : SqL X.K H p xs ∨ SqT X.K H p xs) (hx : flatV x = true) (ha : xs.all flatV = true) (q : Q (.bl (!inV x xs)) H) : WB X (compareOp .NotIn) x (.ref p) σ H Q := op_notIn_seq.w ⟨_, _, rfl, h, hx, ha, q⟩
theorem u_neg {i : Int} (q : Q (.int (-i)) H) : WU X (unaryOp .USub) (.int i) σ H Q := un_neg.w ⟨_, rfl, q⟩
/-- == of data at any depth -/
theorem b_eqD {x y : V} {d e : PyData} (hu : X.A.units + 64 < cLine) (h1 : Dp X.K H x d) (h2 : Dp X.K H y e) (s1 : SeqAt.shaped d = true) (s2 : SeqAt.shaped e = true) (q : Q (.bl (PyData.eqv d e)) H) : WB X (compareOp .Eq) x y σ H Q :=
  (op_eqD hu).w ⟨d, e, h1, h2, s1, s2, q⟩
theorem b_neD {x y : V} {d e : PyData} (hu : X.A.units + 64 < cLine) (h1 : Dp X.K H x d) (h2 : Dp X.K H y e) (s1 : SeqAt.shaped d = true) (s2 : SeqAt.shaped e = true) (q : Q (.bl (!PyData.eqv d e)) H) : WB X (compareOp .NotEq) x y σ H Q :=
  (op_neD hu).w ⟨d, e, h1, h2, s1, s2, q⟩
end

/-! ### displays, arguments -/
section
variable {X : Cx} {e : Expr} {es : List Expr} {σ : L2.St} {H : Hp} {Q : VK} {pos : Pos} {R : List V → Hp → Prop}
theorem wa_nil (q : R [] H) : WA X [] σ H R := pa_nil.w q
theorem wa_cons (h : WE X e σ H fun x H1 => WA X es σ H1 fun xs H2 => R (x :: xs) H2) (hs : starEach (e :: es) X.env = (false, eval e X.env) :: starEach es X.env := by with_unfolding_all rfl) : WA X (e :: es) σ H R := (pa_cons pe_w pa_w hs).w h
theorem wa_star {p} (h : WE X e σ H fun x H1 => ∃ a xs, x = .ref a ∧ (SqT X.K H1 a xs ∨ SqL X.K H1 a xs) ∧ WA X es σ H1 fun ys H2 => R (xs ++ ys) H2) (hs : starEach (.Starred e p :: es) X.env = (true, eval e X.env) :: starEach es X.env := by with_unfolding_all rfl) : WA X (.Starred e p :: es) σ H R :=
  (StX.pa_star pe_w pa_w hs).w h
theorem w_lst (h : WA X es σ H fun xs H1 => xs.length ≤ sizeLine ∧ ∀ p H2, H1 p = none → Same H1 H2 → H2 p = some (.lst xs) → Q (.ref p) H2) : WE X (.List es pos) σ H Q :=
  (pe_lst pa_w).w (WA.imp h fun xs H1 ⟨a, q⟩ => ⟨a, newly' (Q := fun p H' => Q (.ref p) H') q⟩)
theorem w_tup {k} (h : WA X es σ H fun xs H1 => xs.length ≤ sizeLine ∧ ∀ p H2, H1 p = none → Same H1 H2 → H2 p = some (.tup xs) → Q (.ref p) H2) : WE X (.Tuple es k pos) σ H Q :=
  (pe_tup pa_w).w (WA.imp h fun xs H1 ⟨a, q⟩ => ⟨a, newly' (Q := fun p H' => Q (.ref p) H') q⟩)
end

/-! ### subscripts, slices -/
structure WX (X : Cx) (x y : V) (σ : L2.St) (H : Hp) (Q : VK) : Prop where
  ex : ∃ r : R2, IxR X r ∧ r x y H Q
structure WPt (X : Cx) (oe : Option Expr) (σ : L2.St) (H : Hp) (Q : Option Int → Hp → Prop) : Prop where
  run : ∀ (pins : List (Addr × Obj)) (s : Shared), Inv X pins σ H s → wpAny (model X.prog X.w) X.A (evalPart oe X.env) (fun u s' => ∃ o H', Inv X pins σ H' s' ∧ IsPart u o ∧ Q o H') X.xe s
theorem po_w {X : Cx} {oe : Option Expr} : PO X oe (WPt X oe) := ⟨fun pins s _ _ _ I h => h.run pins s I⟩
structure WSl (X : Cx) (x : V) (lo hi : Option Int) (σ : L2.St) (H : Hp) (Q : VK) : Prop where
  ex : ∃ r : V → Option Int → Option Int → Hp → VK → Prop, SlR X r ∧ r x lo hi H Q
section
variable {X : Cx} {a b e : Expr} {lo hi : Option Expr} {σ : L2.St} {H : Hp} {Q : VK} {pos p2 : Pos}
theorem ixr_w : IxR X fun x y H Q => ∀ σ, WX X x y σ H Q := by
  intro value slice pins s σ H x y v u Q I rx ry q hs
  obtain ⟨r, h, q⟩ := (q σ).ex
  exact h value slice pins s σ H x y v u Q I rx ry q hs
theorem w_ix (h : WE X a σ H fun x H1 => WE X b σ H1 fun y H2 => WX X x y σ H2 Q) (hs : PlainIx b := by with_unfolding_all exact fun _ _ => rfl) : WE X (.Subscript a b pos) σ H Q :=
  ⟨fun pins s I => Subscript_ (thn (h.run pins s I) fun v s1 ⟨x, H1, I1, r1, q1⟩ => thn (q1.run pins s1 I1) fun u s2 ⟨y, H2, I2, r2, q2⟩ => by
    obtain ⟨r, hr, q⟩ := q2.ex
    exact hr a b pins s2 σ H2 x y v u Q I2 r1 r2 q (hs _ _))⟩
theorem ix_l {p : Addr} {xs : List V} {i : Int} {v : V} (h : SqL X.K H p xs) (hv : atI xs i = some v) (q : Q v H) : WX X (.ref p) (.int i) σ H Q := ⟨_, ix_list, _, _, _, _, rfl, rfl, h, hv, q⟩
theorem ix_t {p : Addr} {xs : List V} {i : Int} {v : V} (h : SqT X.K H p xs) (hv : atI xs i = some v) (q : Q v H) : WX X (.ref p) (.int i) σ H Q := ⟨_, ix_tup, _, _, _, _, rfl, rfl, h, hv, q⟩
theorem ix_s {z : Str} {i : Int} {c : Nat} (h : z.length ≤ sizeLine) (hv : atI z.cps.toList i = some c) (q : Q (.str ⟨#[c]⟩) H) : WX X (.str z) (.int i) σ H Q := ⟨_, ix_str, _, _, _, rfl, rfl, h, hv, q⟩
theorem wp_none {Q : Option Int → Hp → Prop} (q : Q none H) : WPt X none σ H Q := ⟨fun pins s I => po_none.run pins s σ H Q I q⟩
theorem wp_some {Q : Option Int → Hp → Prop} (h : WE X e σ H fun x H1 => ∃ i, x = .int i ∧ Q (some i) H1) : WPt X (some e) σ H Q := ⟨fun pins s I => (po_some pe_w).run pins s σ H Q I h⟩
theorem w_slice (h : WE X e σ H fun x H1 => WPt X lo σ H1 fun l H2 => WPt X hi σ H2 fun u H3 => WSl X x l u σ H3 Q) : WE X (.Subscript e (.Slice lo hi none p2) pos) σ H Q := by
  have hr : SlR X fun x l u H Q => ∀ σ, WSl X x l u σ H Q := by
    intro pins s σ H x v vl vu lo hi sl Q I rx hs pl pu q
    obtain ⟨r, h, q⟩ := (q σ).ex
    exact h pins s σ H x v vl vu lo hi sl Q I rx hs pl pu q
  refine ⟨fun pins s I => ?_⟩
  refine Subscript_ (thn (h.run pins s I) fun v s1 ⟨x, H1, I1, r1, q1⟩ => ?_)
  refine wpAny_Slice (thn (q1.run pins s1 I1) fun vl s2 ⟨l, H2, I2, pl, q2⟩ => thn (q2.run pins s2 I2) fun vu s3 ⟨u, H3, I3, pu, q3⟩ => ?_)
  rw [evalPart_none]
  refine wpAny_pure ?_
  have I4 : Inv X pins σ H3 { s3 with heap := s3.heap.push { cls := .type "slice", data := .fields #[vl, vu, .none] } } := I3.kept (t' := s3.toks) fun b ob q => Heap.get?_push_of_some _ q
  obtain ⟨r, hr', q4⟩ := q3.ex
  obtain ⟨T, id, hT, ht, hg⟩ := hr' pins { s3 with heap := s3.heap.push { cls := .type "slice", data := .fields #[vl, vu, .none] } } σ H3 x v vl vu l u s3.heap.objs.size Q I4 r1 (Heap.IsSliceOf.new ..) pl pu q4
  show wpAny (model X.prog X.w) X.A (subscriptTail e (.Slice lo hi none p2) v (.ref s3.heap.objs.size)) (EP X pins σ Q) X.xe { s3 with heap := s3.heap.push { cls := .type "slice", data := .fields #[vl, vu, .none] } }
  exact tail_any (ops := [.ref s3.heap.objs.size, v]) ht hT hg (by with_unfolding_all rfl)
theorem sl_l {p : Addr} {xs : List V} {l u : Option Int} (h : SqL X.K H p xs) (q : ∀ p' H', H p' = none → Same H H' → H' p' = some (.lst (cutV xs l u)) → Q (.ref p') H') : WSl X (.ref p) l u σ H Q := ⟨_, sl_list, _, _, rfl, h, newly' (Q := fun p H' => Q (.ref p) H') q⟩
theorem sl_s {z : Str} {l u : Option Int} (h : z.length ≤ sizeLine) (q : Q (.str (cutS z l u)) H) : WSl X (.str z) l u σ H Q := ⟨_, sl_str, _, rfl, h, q⟩
end

/-! ### statements -/
section
variable {X : Cx} {N L S G B : List Str} {e c : Expr} {st : Stmt} {rest a b : List Stmt} {σ : L2.St} {H : Hp} {D : Ends} {pos : Pos} {x : Str}
theorem wl_nil (q : D.nx σ H) : WL X [] D σ H := pss_nil.w q
theorem wl_cons (h : WS X st { D with nx := fun σ' H' => WL X rest D σ' H' } σ H) : WL X (st :: rest) D σ H := (pss_cons ps_w pss_w).w h
theorem ws_pass (q : D.nx σ H) : WS X (.Pass pos) D σ H := ps_pass.w q
theorem ws_break (q : D.bk σ H) : WS X (.Break pos) D σ H := ps_break.w q
theorem ws_continue (q : D.ct σ H) : WS X (.Continue pos) D σ H := ps_continue.w q
theorem ws_doc {z j p'} (q : D.nx σ H) : WS X (.Expr (.Constant (.str z) j pos) p') D σ H := ps_doc.w q
theorem ws_expr (h : WE X e σ H fun _ H1 => D.nx σ H1) (hs : swapsWith e none pos.line X.env = pure false := by with_unfolding_all rfl) : WS X (.Expr e pos) D σ H := (ps_expr pe_w hs).w h
theorem ws_ret (h : WE X e σ H D.rt) : WS X (.Return (some e) pos) D σ H := (ps_ret pe_w).w h
theorem ws_retN (q : D.rt .non H) : WS X (.Return none pos) D σ H := ps_retN.w q
theorem ws_if (h : WT X c σ H fun k H1 => if k = true then WL X a D σ H1 else WL X b D σ H1) : WS X (.If c a b pos) D σ H := (ps_if pt_w pss_w pss_w).w h
theorem ws_set {p' : Pos} (c : Nm X N L S G B) (m : Mb x S) (h : WE X e σ H fun v H1 => ∃ σ', Put N σ x v σ' ∧ D.nx σ' H1) (hs : swapsWith e (some (.Name x p')) pos.line X.env = pure false := by with_unfolding_all rfl) : WS X (.Assign [.Name x p'] e pos) D σ H := by
  obtain ⟨a, b⟩ := c.sto x m.mem
  refine ⟨fun pins s I => ?_⟩
  refine wpAny_Assign_Name (thn (h.run pins s I) fun v s1 ⟨y, H1, I1, r1, σ', hp, q⟩ => ?_) hs
  obtain ⟨i, hi, rfl⟩ := hp.ix
  exact store_ok I1 (by rw [c.names]; exact c.nd) (by rw [c.names]; exact hi) a r1 (fun s2 I2 => ⟨_, H1, I2, q⟩) b
theorem ws_asg {tg : Expr} (h : WE X e σ H fun v H1 => WG X tg v σ H1 D.nx) (hs : swapsWithSole [tg] e pos.line X.env = pure false := by with_unfolding_all rfl) (hw : swappedStores [tg] e X.env = pure none := by with_unfolding_all rfl)
    (h1 : (assignEach [tg] X.env).map (·.2) = [assign tg X.env] := by with_unfolding_all rfl) : WS X (.Assign [tg] e pos) D σ H := (ps_asg pe_w pg_w hs hw h1).w h
/-- a, b = e, f with plain local names -/
theorem ws_par {y : Str} {ea eb : Expr} {px py pt : Pos} {kt k2 pt2} (c : Nm X N L S G B) (hx : X.env.scope.names.lookup x = some .local) (hy : X.env.scope.names.lookup y = some .local) (hxy : x ≠ y)
    (h : WE X ea σ H fun v H1 => WE X eb σ H1 fun w H2 => ∃ σ1 σ2, Put N σ x v σ1 ∧ Put N σ1 y w σ2 ∧ D.nx σ2 H2)
    (hw : swappedStores [.Tuple [.Name x px, .Name y py] kt pt] (.Tuple [ea, eb] k2 pt2) X.env = pure (some [x, y]))
    (hs : swapsWithSole [.Tuple [.Name x px, .Name y py] kt pt] (.Tuple [ea, eb] k2 pt2) pos.line X.env = pure false := by with_unfolding_all rfl)
    (h1 : starEach [ea, eb] X.env = (false, eval ea X.env) :: starEach [eb] X.env := by with_unfolding_all rfl) (h2 : starEach [eb] X.env = (false, eval eb X.env) :: starEach [] X.env := by with_unfolding_all rfl)
    (ix : ∃ i j : Nat, N[i]? = some x ∧ N[j]? = some y) :
    WS X (.Assign [.Tuple [.Name x px, .Name y py] kt pt] (.Tuple [ea, eb] k2 pt2) pos) D σ H := by
  obtain ⟨i, j, hi, hj⟩ := ix
  have nd : X.N.Nodup := by rw [c.names]; exact c.nd
  have hi' : X.N[i]? = some x := by rw [c.names]; exact hi
  have hj' : X.N[j]? = some y := by rw [c.names]; exact hj
  have hij : i ≠ j := fun z => by
    rw [z, hj'] at hi'
    exact hxy (Option.some.inj hi').symm
  refine (ps_par (i := i) (j := j) c.calm nd hi' hj' hij hx hy (pa_cons pe_w (pa_cons pe_w pa_nil h2) h1) hw hs).w ?_
  refine WE.imp h fun v H1 h1 => WE.imp h1 fun w H2 ⟨σ1, σ2, p1, p2, q⟩ => ⟨v, w, rfl, ?_⟩
  obtain ⟨i', hi2, rfl⟩ := p1.ix
  obtain ⟨j', hj2, rfl⟩ := p2.ix
  have ei : i' = i := nodup_ix nd (by rw [c.names]; exact hi2) hi'
  have ej : j' = j := nodup_ix nd (by rw [c.names]; exact hj2) hj'
  subst ei ej
  exact q
theorem ws_never (h : False) : WS X st D σ H := h.elim
/-- targets -/
theorem wgs_nil {Q : L2.St → Hp → Prop} (q : Q σ H) : WGs X [] [] σ H Q := pgs_nil.w ⟨rfl, q⟩
theorem wgs_cons {Q : L2.St → Hp → Prop} {es : List Expr} {v : V} {vs : List V} (h : WG X e v σ H fun σ' H' => WGs X es vs σ' H' Q) (hs : (assignEach (e :: es) X.env).map (·.2) = assign e X.env :: (assignEach es X.env).map (·.2) := by with_unfolding_all rfl) : WGs X (e :: es) (v :: vs) σ H Q :=
  (pgs_cons pg_w pgs_w hs).w ⟨v, vs, rfl, h⟩
theorem wg_tup {Q : L2.St → Hp → Prop} {es : List Expr} {k} {p : Addr} {xs : List V} (c : Nm X N L S G B) (h : SqT X.K H p xs) (q : WGs X es xs σ H Q) (hn : (assignEach es X.env).length = xs.length := by with_unfolding_all rfl) (hst : (assignEach es X.env).findIdx? (·.1) = none := by with_unfolding_all rfl) :
    WG X (.Tuple es k pos) (.ref p) σ H Q := (pg_tup c.calm pgs_w hn hst).w ⟨p, xs, rfl, h, rfl, q⟩
theorem wg_lst {Q : L2.St → Hp → Prop} {es : List Expr} {k} {p : Addr} {xs : List V} (c : Nm X N L S G B) (h : SqL X.K H p xs) (q : WGs X es xs σ H Q) (hn : (assignEach es X.env).length = xs.length := by with_unfolding_all rfl) (hst : (assignEach es X.env).findIdx? (·.1) = none := by with_unfolding_all rfl) :
    WG X (.Tuple es k pos) (.ref p) σ H Q := (pg_lst c.calm pgs_w hn hst).w ⟨p, xs, rfl, h, rfl, q⟩
/-- o[i] = v of a list -/
theorem wg_subL {Q : L2.St → Hp → Prop} {o i : Expr} {v : V} (h : WE X o σ H fun x H1 => WE X i σ H1 fun y H2 => ∃ l xs k j, x = .ref l ∧ y = .int k ∧ H2 l = some (.lst xs) ∧ ixN xs.length k = some j ∧ Q σ (upd H2 l (.lst (xs.set j v))))
    (ha : ∀ v, assign (.Subscript o i pos) X.env v = (do
      let ov ← holding [v] (eval o X.env)
      let iv ← holding [v, ov] (eval i X.env)
      standAt pos
      holding [v, ov, iv] (setItem ov iv v)
      release [v, ov, iv] []) := by intro _; with_unfolding_all rfl) : WG X (.Subscript o i pos) v σ H Q := (pg_sub pe_w pe_w set_list ha).w h
/-- o.f = e -/
theorem ws_fld {o e : Expr} {f : Str} {p' : Pos} (h : WE X e σ H fun y H1 => WE X o σ H1 fun x H2 => ∃ a C dx fs, x = .ref a ∧ H2 a = some (.ins C dx fs) ∧ Cls X.K C ∧ NoAttr X.K C f ∧ fs.length < 1000 ∧ D.nx σ (upd H2 a (.ins C dx (putF f y fs))))
    (hs : swapsWith e (some (.Attribute o f p')) pos.line X.env = pure false := by with_unfolding_all rfl) : WS X (.Assign [.Attribute o f p'] e pos) D σ H := (ps_fld pe_w pe_w hs).w h
/-- x op= e -/
theorem ws_aug {p' : Pos} {op : Operator} {v : V} (c : Nm X N L S G B) (m : Mb x S) (h0 : At N σ x v) (h : WE X e σ H fun w H1 => WB X (inplaceOp op) v w σ H1 fun z H2 => ∃ σ', Put N σ x z σ' ∧ D.nx σ' H2) : WS X (.AugAssign (.Name x p') op e pos) D σ H := by
  obtain ⟨a, b⟩ := c.sto x m.mem
  obtain ⟨i, h1, h2⟩ := h0.ix
  have nd : X.N.Nodup := by rw [c.names]; exact c.nd
  have h1' : X.N[i]? = some x := by rw [c.names]; exact h1
  have hip : PIp X op fun x y H Q => ∀ σ, WB X (inplaceOp op) x y σ H Q := fun pins s σ H x y v u Q I rx ry q => (q σ).run pins s v u I rx ry
  refine ⟨fun pins s I => ?_⟩
  obtain ⟨mm, hn, hl⟩ := I.loc
  have vis : Vis X.env.scope x := by rcases a with k | k; exact .inl k; exact .inr (.inl k)
  obtain ⟨u, r, l⟩ := hl i x v h1' h2 vis
  refine wpAny_AugAssign_Name ?_
  have go : wpAny (model X.prog X.w) X.A (eval e X.env) (fun w s₂ => wpAny (model X.prog X.w) X.A (inplaceOp op u w) (fun r s₃ => wpAny (model X.prog X.w) X.A (storeName X.env x r) (fun _ => SP X pins D .next) X.xe s₃) X.xe s₂) X.xe s := by
    refine thn (h.run pins s I) fun w s1 ⟨y, H1, I1, r1, q1⟩ => ?_
    refine thn (q1.run pins s1 u w I1 r r1) fun z s2 ⟨zv, H2, I2, r2, σ', hp, q2⟩ => ?_
    obtain ⟨i', hi2, rfl⟩ := hp.ix
    exact store_ok I2 nd (by rw [c.names]; exact hi2) a r2 (fun s3 I3 => ⟨_, H2, I3, q2⟩) b
  rcases l with ⟨hk, hm⟩ | ⟨hk, c', hc, hcell⟩
  · exact wpAny_loadName_local I.ok.kind hk hn hm go
  · rcases hk with hk | hk
    · exact wpAny_loadName_cell I.ok.kind hk hc hcell go
    · rcases a with k | k
      · have : X.env.scope.names.lookup x = some .free := hk
        rw [k] at this; cases this
      · have : X.env.scope.names.lookup x = some .free := hk
        rw [k] at this; cases this
theorem i_add {i j : Int} {Q : VK} (q : Q (.int (i + j)) H) : WB X (inplaceOp .Add) (.int i) (.int j) σ H Q := iop_add.w ⟨_, _, rfl, rfl, q⟩
theorem i_sub {i j : Int} {Q : VK} (q : Q (.int (i - j)) H) : WB X (inplaceOp .Sub) (.int i) (.int j) σ H Q := iop_sub.w ⟨_, _, rfl, rfl, q⟩
end
/-- a branch by its known bool, by a decided one -/
theorem if_dec {p : Prop} [Decidable p] {A B : Prop} (h1 : p → A) (h2 : ¬ p → B) : if decide p = true then A else B := by
  by_cases h : p
  · rw [decide_eq_true h, if_pos rfl]; exact h1 h
  · rw [decide_eq_false h, if_neg (by decide)]; exact h2 h
theorem if_ndec {p : Prop} [Decidable p] {A B : Prop} (h1 : ¬ p → A) (h2 : p → B) : if (!decide p) = true then A else B := by
  by_cases h : p
  · rw [decide_eq_true h]; exact h2 h
  · rw [decide_eq_false h]; exact h1 h
end Sv

namespace Sv
open PySem PySem.Spec PyProof.Rows L2

/-! ### walks that hand out new tuples -/
def Itg (n : Nat) (xs : Nat → List V) : It := ⟨fun i _ => i < n, fun i H v H' => i < n ∧ ∃ T, v = .ref T ∧ H T = none ∧ H' = upd H T (.tup (xs i)), fun i _ => n ≤ i⟩
theorem turn_goes {P : Program} {w : World} {K : PySem.W.Frag} {elts : List Expr} {kk : Nat} {tpos : Pos} {I : Addr} {fp wr : List Addr} {n : Nat} {St : Nat → Heap → Prop} {xs : Nat → List V}
    (W : ∀ A : Around, A.handled = none → ∃ Y, GoesN P w A (.Tuple elts kk tpos) I fp wr n Y St ∧ ∀ i h0 v h, i < n → Y i h0 v h → ∃ T vals, v = .ref T ∧ h0.objs.size ≤ T ∧ Vals (xs i) vals.toList ∧ h.IsTuple T vals)
    (hz : ∀ i, i < n → (xs i).length ≤ sizeLine) (mem : I ∈ fp) (obj : ∀ i h, St i h → ∀ b ∈ fp, ∃ o, h.get? b = some o ∧ ∀ v, o.data ≠ .cell v)
    (fr : ∀ i h h', St i h → (∀ b ∈ fp, ∀ o, h.get? b = some o → h'.get? b = some o) → St i h')
    (sf : ∀ (A : Around) (i : Nat) (s : Shared) (Q : Value → Shared → Prop) (E : Value → Shared → Prop), St i s.heap → Q (.ref I) s → wpAny (model P w) A (pyIter (.ref I)) Q E s) :
    Turn P w K (.Tuple elts kk tpos) (Itg n xs) fp I (fun i h => i ≤ n ∧ St i h) where
  mem := mem
  obj := fun i h st b hb => obj i h st.2 b hb
  keep := fun i h h' st k => ⟨st.1, fr i h h' st.2 k⟩
  item := by
    intro X hP hw hK hc i pins s σ H E I0 hf st hg
    subst hP hw hK
    obtain ⟨Y, G, hY⟩ := W X.A (I0.ok.hd hc)
    have hi : i < n := hg
    refine thn (G.goes i s (fun u s2 => ∃ x H', Inv X pins σ H' s2 ∧ RelV x u ∧ (Itg n xs).yld i H x H' ∧ (i + 1 ≤ n ∧ St (i + 1) s2.heap) ∧ ∀ b ∈ fp, H' b = none) E hi st.2 fun v h' tk y st' k _ => ?_) fun r s1 h => h
    obtain ⟨T, vals, rfl, hT, rv, ht⟩ := hY i s.heap v h' hi y
    have hwf : ∀ b ∈ wr, b ∈ fp := G.sub
    have new : ObjOk X.prog X.w (upd H T (.tup (xs i))) h' T (.tup (xs i)) := ⟨hz i hi, vals.toList, rv, by
      obtain ⟨o, ho, hcl, m, hd⟩ := ht
      exact ⟨o, ho, hcl, m, by simpa using hd⟩⟩
    have I1 : Inv X pins σ (upd H T (.tup (xs i))) { s with heap := h', toks := tk } :=
      I0.turnedNew (ch := fp) (fun b ob hb q => k b ob (fun z => hb (hwf b z)) q) hf hT new
    refine ⟨.ref T, _, I1, rfl, ⟨hi, T, rfl, I0.hok.fresh hT, rfl⟩, ⟨hi, st'⟩, fun b hb => ?_⟩
    obtain ⟨o, ho, _⟩ := obj i s.heap st.2 b hb
    rw [upd_ne (Nat.ne_of_lt (Nat.lt_of_lt_of_le (Heap.lt_size ho) hT))]
    exact (hf b hb).1
  done := by
    intro X hP hw hK hc i pins s σ H E I0 hf st hg
    subst hP hw hK
    obtain ⟨Y, G, hY⟩ := W X.A (I0.ok.hd hc)
    have hi : n ≤ i := hg
    have e : i = n := Nat.le_antisymm st.1 hi
    subst e
    refine thn (G.stops s (fun s1 => Inv X pins σ H s1) E st.2 fun h' tk k _ => ?_) fun r s1 h => h
    have hwf : ∀ b ∈ wr, b ∈ fp := G.sub
    refine I0.step (g' := s.gens) (d' := s.drawn) (ch := fp) (fun b hb => ⟨(hf b hb).2.2.2.1, (hf b hb).2.1, (hf b hb).2.2.2.2.1, (hf b hb).2.2.2.2.2⟩) (fun b o _ _ hc e _ => k b o (fun z => hc (hwf b z)) e) (fun b o _ _ hc e _ => ⟨o.slots, k b o (fun z => hc (hwf b z)) e⟩) (fun _ _ _ _ n => n)
      (fun b o hc e => ⟨o, k b o (fun z => hc (hwf b z)) e⟩) (fun _ _ e => e) (fun _ _ _ e => e) (fun b ps e => ⟨#[], by rw [e]; simp⟩) (fun m hm => ?_) (fun b u e => ?_) I0.bare
    · obtain ⟨o, es, ep, ho, r⟩ := hm
      exact ⟨o, es, ep, k _ o (fun z => (hf _ (hwf _ z)).2.1 rfl) ho, r⟩
    · refine (I0.hok b u e).stay (fun c v hc q => k c v (fun z => ?_) q) (fun _ q => q) fun _ _ q => q
      have hn := (hf c (hwf c z)).1
      rcases hc with rfl | hc
      · rw [hn] at e; cases e
      · rw [hn] at hc; cases hc
  self := fun A i s Q E st h => sf A i s Q E st.2 h

/-- the signs of a text, numbered -/
def signAt (x : Str) (i : Nat) : V := .str ⟨#[x.cps.getD i 0]⟩
def iEnumS (ta : TA) : TI := fun σ H R => ta σ H fun vs H1 => ∃ x, vs = [.str x] ∧ R (Itg x.cps.size fun i => [.int (i : Nat), signAt x i]) H1
theorem pi_enumS {X : Cx} {e : Expr} {ta : TA} {p pos tpos : Pos} {elts : List Expr} {kk : Nat} (hg : Gl X "enumerate") (hm : X.mg "enumerate" = none) (ha : PA X [e] ta) (hs : starEach [e] X.env = [(false, eval e X.env)] := by with_unfolding_all rfl) :
    PI X (.Tuple elts kk tpos) (.Call (.Name "enumerate" p) [e] [] pos) (iEnumS ta) := by
  refine ⟨fun pins s σ H R I h => ?_⟩
  refine Call_ (ld_blt I hg hm boot_enumerate (PyProof.Rows.callWith_type1 (thn (ha.run pos pins s σ H _ I h) fun us s1 ⟨vs, H1, I1, r1, q1⟩ => ?_) hs rfl))
  obtain ⟨x, ex, q⟩ := q1
  subst ex
  cases r1 with
  | cons r rr =>
    cases rr
    obtain ⟨t, rfl⟩ := r
    refine call_enumerate_str fun h' he hit hsz hk => wpAny_pyIter_enum he ?_
    have I2 : Inv X pins σ H1 { s1 with heap := h' } := I1.kept (t' := s1.toks) hk
    have T := turn_goes (P := X.prog) (w := X.w) (K := X.K) (elts := elts) (kk := kk) (tpos := tpos) (I := s1.heap.objs.size + 1) (fp := [s1.heap.objs.size + 1, s1.heap.objs.size]) (n := x.cps.size) (xs := fun i => [.int (i : Nat), signAt x i])
      (fun A hA => ⟨_, GoesN.enumFrom (elts := elts) (x1 := kk) (pos := tpos) 0 (Draws.text (A := A.in1) hA s1.heap.objs.size x t) (s1.heap.objs.size + 1) (Nat.succ_ne_self _) (by simp) (by simp), fun i h0 v h hi ⟨T, tk, y, ev, hn, ⟨c, u, hc, ey⟩, hT⟩ => ⟨T, _, ev, hn, .cons ⟨tk, by simp⟩ (.cons ⟨u, by rw [ey, Array.getD_eq_getD_getElem?, hc]; rfl⟩ .nil), hT⟩⟩)
      (fun i _ => by show 2 ≤ sizeLine; decide) (by simp) (fun i h st b hb => ?_) (fun i h h' st k => ?_) (fun A i s Q E st h => let ⟨⟨_, he⟩, _⟩ := st; wpAny_pyIter_enum he h)
    · refine ⟨_, _, _, _, H1, rfl, I2, T, ⟨Nat.zero_le _, ⟨.none, by simpa using he⟩, hit⟩, fun b hb => ?_, q⟩
      have e' : b = s1.heap.objs.size + 1 ∨ b = s1.heap.objs.size := by simpa using hb
      have hle : s1.heap.objs.size ≤ b := by
        rcases e' with z | z
        · rw [z]; exact Nat.le_add_right _ _
        · rw [z]; exact Nat.le_refl _
      exact I1.fpOk hle (I1.hok.fresh hle)
    · obtain ⟨⟨old, he⟩, ⟨o, ho, hc, hd⟩⟩ := st
      have e' : b = s1.heap.objs.size + 1 ∨ b = s1.heap.objs.size := by simpa using hb
      rcases e' with z | z
      · rw [z]; exact ⟨_, he, fun v q => nomatch q⟩
      · rw [z]; exact ⟨o, ho, fun v q => by rw [hd] at q; cases q⟩
    · obtain ⟨⟨old, he⟩, o, ho, hc, hd⟩ := st
      exact ⟨⟨old, k _ (by simp) _ he⟩, o, k _ (by simp) o ho, hc, hd⟩

/-! ### what is walked -/
structure WI (X : Cx) (tg iter : Expr) (σ : L2.St) (H : Hp) (R : It → Hp → Prop) : Prop where
  run : ∀ (pins : List (Addr × Obj)) (s : Shared), Inv X pins σ H s → wpAny (model X.prog X.w) X.A (eval iter X.env) (fun v s1 => wpAny (model X.prog X.w) X.A (pyIter v) (PIE X pins σ tg R) X.xe s1) X.xe s
theorem pi_w {X : Cx} {tg iter : Expr} : PI X tg iter (WI X tg iter) := ⟨fun pins s _ _ _ I h => h.run pins s I⟩
theorem _root_.L2.PI.w {X : Cx} {tg iter : Expr} {t : TI} {σ : L2.St} {H : Hp} {R : It → Hp → Prop} (h : PI X tg iter t) (q : t σ H R) : WI X tg iter σ H R := ⟨fun pins s I => h.run pins s σ H R I q⟩
/-- J walks n items, the i-th it i, while what stood in H1 stands -/
structure Wlk (J : It) (n : Nat) (it : Nat → V) (H1 : Hp) : Prop where
  go : ∀ i H, i < n → Same H1 H → J.go i H
  yld : ∀ i H v H', i < n → Same H1 H → J.yld i H v H' → v = it i ∧ H' = H
  stop : ∀ i H, n ≤ i → Same H1 H → J.stop i H
/-- the same, each item a new tuple -/
structure WlkT (J : It) (n : Nat) (it : Nat → List V) (H1 : Hp) : Prop where
  go : ∀ i H, i < n → Same H1 H → J.go i H
  yld : ∀ i H v H', i < n → Same H1 H → J.yld i H v H' → ∃ T, v = .ref T ∧ H T = none ∧ H' = upd H T (.tup (it i))
  stop : ∀ i H, n ≤ i → Same H1 H → J.stop i H
theorem wlk_list {K : PySem.W.Frag} {a : Addr} {xs : List V} {H1 : Hp} (h : SqL K H1 a xs) : Wlk (Itl K a) xs.length (fun i => xs.getD i .non) H1 where
  go := fun i H hi e => ⟨xs, xs[i], Same.seq e h, by simp [hi]⟩
  yld := fun i H v H' hi e y => ⟨by have := y.2 xs (Same.seq e h); rw [List.getD_eq_getElem?_getD, this]; rfl, y.1⟩
  stop := fun i H hi e => ⟨xs, Same.seq e h, hi⟩
theorem wlk_tup {K : PySem.W.Frag} {a : Addr} {xs : List V} {H1 : Hp} (h : SqT K H1 a xs) : Wlk (Itt K a) xs.length (fun i => xs.getD i .non) H1 where
  go := fun i H hi e => ⟨xs, xs[i], same_t e h, by simp [hi]⟩
  yld := fun i H v H' hi e y => ⟨by have := y.2 xs (same_t e h); rw [List.getD_eq_getElem?_getD, this]; rfl, y.1⟩
  stop := fun i H hi e => ⟨xs, same_t e h, hi⟩
theorem wlk_range {lo : Int} {n : Nat} {H1 : Hp} : Wlk (Itr lo n) n (fun i => .int (lo + (i : Nat))) H1 where
  go := fun i H hi e => hi
  yld := fun i H v H' hi e y => ⟨y.2, y.1⟩
  stop := fun i H hi e => hi
theorem wlk_str {x : Str} {H1 : Hp} : Wlk (Its x) x.cps.size (signAt x) H1 where
  go := fun i H hi e => hi
  yld := fun i H v H' hi e y => by
    obtain ⟨e1, c, hc, ev⟩ := y
    refine ⟨?_, e1⟩
    rw [ev]
    unfold signAt
    rw [Array.getD_eq_getD_getElem?, hc]; rfl
  stop := fun i H hi e => hi
theorem wlk_g {n : Nat} {xs : Nat → List V} {H1 : Hp} : WlkT (Itg n xs) n xs H1 where
  go := fun i H hi e => hi
  yld := fun i H v H' hi e y => y.2
  stop := fun i H hi e => hi
theorem wlk_enum {K : PySem.W.Frag} {a : Addr} {xs : List V} {H1 : Hp} (h : SqL K H1 a xs) : WlkT (Ite K a) xs.length (fun i => [.int (i : Nat), xs.getD i .non]) H1 where
  go := fun i H hi e => ⟨xs, xs[i], Same.seq e h, by simp [hi]⟩
  yld := fun i H v H' hi e y => by
    obtain ⟨T, x, ev, hT, eH, hx⟩ := y
    have := hx xs (Same.seq e h)
    exact ⟨T, ev, hT, by rw [eH, List.getD_eq_getElem?_getD, this]; rfl⟩
  stop := fun i H hi e => ⟨xs, Same.seq e h, hi⟩
theorem wlk_zip {K : PySem.W.Frag} {a b : Addr} {xs ys : List V} {H1 : Hp} (h : SqL K H1 a xs) (h' : SqL K H1 b ys) : WlkT (Itz K a b) (min xs.length ys.length) (fun i => [xs.getD i .non, ys.getD i .non]) H1 where
  go := fun i H hi e => ⟨xs, ys, xs[i]'(by omega), ys[i]'(by omega), Same.seq e h, Same.seq e h', by simp [show i < xs.length by omega], by simp [show i < ys.length by omega]⟩
  yld := fun i H v H' hi e y => by
    obtain ⟨T, x, z, ev, hT, eH, hx, hy⟩ := y
    have e1 := hx xs (Same.seq e h)
    have e2 := hy ys (Same.seq e h')
    exact ⟨T, ev, hT, by rw [eH, List.getD_eq_getElem?_getD, List.getD_eq_getElem?_getD, e1, e2]; rfl⟩
  stop := fun i H hi e => ⟨xs, ys, Same.seq e h, Same.seq e h', by omega⟩
section
variable {X : Cx} {N L S G B : List Str} {tg e a b : Expr} {σ : L2.St} {H : Hp} {R : It → Hp → Prop} {p pos : Pos}
theorem wi_list (h : WE X e σ H fun x H1 => ∃ a xs, x = .ref a ∧ SqL X.K H1 a xs ∧ R (Itl X.K a) H1) : WI X tg e σ H R := (pi_list pe_w).w (WE.imp h fun x H1 ⟨a, xs, e, h, q⟩ => ⟨a, e, ⟨xs, h⟩, q⟩)
theorem wi_tup (h : WE X e σ H fun x H1 => ∃ a xs, x = .ref a ∧ SqT X.K H1 a xs ∧ R (Itt X.K a) H1) : WI X tg e σ H R := (pi_tup pe_w).w (WE.imp h fun x H1 ⟨a, xs, e, h, q⟩ => ⟨a, e, ⟨xs, h⟩, q⟩)
theorem wi_str (h : WE X e σ H fun x H1 => ∃ z, x = .str z ∧ R (Its z) H1) : WI X tg e σ H R := (pi_str pe_w).w h
theorem wi_range1 (c : Nm X N L S G B) (m : Mb "range" B) (h : WE X a σ H fun x H1 => ∃ j : Int, x = .int j ∧ -(2 ^ 62) ≤ j ∧ j < 2 ^ 62 ∧ R (Itr 0 j.toNat) H1) (hs : starEach [a] X.env = [(false, eval a X.env)] := by with_unfolding_all rfl) : WI X tg (.Call (.Name "range" p) [a] [] pos) σ H R :=
  (pi_range1 (c.bgl _ m.mem).1 (c.blt _ m.mem) (pa_cons pe_w pa_nil hs) hs).w (WE.imp h fun x H1 ⟨j, e, h⟩ => ⟨j, by rw [e], h⟩)
theorem wi_range2 (c : Nm X N L S G B) (m : Mb "range" B) (h : WE X a σ H fun x H1 => WE X b σ H1 fun y H2 => ∃ i j : Int, x = .int i ∧ y = .int j ∧ (-(2 ^ 62) ≤ i ∧ i < 2 ^ 62 ∧ -(2 ^ 62) ≤ j ∧ j < 2 ^ 62) ∧ R (Itr i (j - i).toNat) H2) (hs : starEach [a, b] X.env = [(false, eval a X.env), (false, eval b X.env)] := by with_unfolding_all rfl) (hs2 : starEach [b] X.env = [(false, eval b X.env)] := by with_unfolding_all rfl) :
    WI X tg (.Call (.Name "range" p) [a, b] [] pos) σ H R :=
  (pi_range2 (c.bgl _ m.mem).1 (c.blt _ m.mem) (pa_cons pe_w (pa_cons pe_w pa_nil hs2) (hs.trans (by rw [hs2]))) hs hs2).w (WE.imp h fun x H1 h1 => WE.imp h1 fun y H2 ⟨i, j, e1, e2, h⟩ => ⟨i, j, by rw [e1, e2], h⟩)
theorem wi_enumS {elts : List Expr} {kk : Nat} {tpos : Pos} (c : Nm X N L S G B) (m : Mb "enumerate" B) (h : WE X a σ H fun x H1 => ∃ z, x = .str z ∧ R (Itg z.cps.size fun i => [.int (i : Nat), signAt z i]) H1) (hs : starEach [a] X.env = [(false, eval a X.env)] := by with_unfolding_all rfl) :
    WI X (.Tuple elts kk tpos) (.Call (.Name "enumerate" p) [a] [] pos) σ H R :=
  (pi_enumS (c.bgl _ m.mem).1 (c.blt _ m.mem) (pa_cons pe_w pa_nil hs) hs).w (WE.imp h fun x H1 ⟨j, e, h⟩ => ⟨j, by rw [e], h⟩)
theorem wi_enumL {elts : List Expr} {kk : Nat} {tpos : Pos} (c : Nm X N L S G B) (m : Mb "enumerate" B) (h : WE X a σ H fun x H1 => ∃ l xs, x = .ref l ∧ SqL X.K H1 l xs ∧ R (Ite X.K l) H1) (hs : starEach [a] X.env = [(false, eval a X.env)] := by with_unfolding_all rfl) :
    WI X (.Tuple elts kk tpos) (.Call (.Name "enumerate" p) [a] [] pos) σ H R :=
  (pi_enum (c.bgl _ m.mem).1 (c.blt _ m.mem) (pa_cons pe_w pa_nil hs) hs).w (WE.imp h fun x H1 ⟨l, xs, e, h, q⟩ => ⟨l, xs, by rw [e], h, q⟩)
theorem wi_zip {elts : List Expr} {kk : Nat} {tpos : Pos} (c : Nm X N L S G B) (m : Mb "zip" B) (h : WE X a σ H fun x H1 => WE X b σ H1 fun y H2 => ∃ l l' xs ys, x = .ref l ∧ y = .ref l' ∧ SqL X.K H2 l xs ∧ SqL X.K H2 l' ys ∧ R (Itz X.K l l') H2) (hs : starEach [a, b] X.env = [(false, eval a X.env), (false, eval b X.env)] := by with_unfolding_all rfl) (hs2 : starEach [b] X.env = [(false, eval b X.env)] := by with_unfolding_all rfl) :
    WI X (.Tuple elts kk tpos) (.Call (.Name "zip" p) [a, b] [] pos) σ H R :=
  (pi_zip (c.bgl _ m.mem).1 (c.blt _ m.mem) (pa_cons pe_w (pa_cons pe_w pa_nil hs2) (hs.trans (by rw [hs2]))) (hs.trans (by rw [hs2])) (by rw [hs2]; rfl)).w (WE.imp h fun x H1 h1 => WE.imp h1 fun y H2 ⟨l, l', xs, ys, e1, e2, h, h', q⟩ => ⟨l, l', xs, ys, by rw [e1, e2], h, h', q⟩)
end

/-! ### loops -/
section
variable {X : Cx} {N L S G B : List Str} {tg iter c : Expr} {body : List Stmt} {σ : L2.St} {H : Hp} {D : Ends} {pos : Pos}
/-- for: W over n items, an invariant -/
theorem ws_for (hp : PassesOwn (model X.prog X.w) X.A X.env X.xe) (hc : Nm X N L S G B)
    (h : WI X tg iter σ H fun J H1 => ∃ n it, Wlk J n it H1 ∧ ∃ Pv : Nat → L2.St → Hp → Prop, Pv 0 σ H1 ∧ (∀ i σ' H', Pv i σ' H' → Same H1 H') ∧
      (∀ i σ' H', i < n → Pv i σ' H' → WG X tg (it i) σ' H' fun σ2 H2 => WL X body { D with nx := Pv (i + 1), ct := Pv (i + 1), bk := D.nx } σ2 H2) ∧ ∀ σ' H', Pv n σ' H' → D.nx σ' H')
    (hs : ∀ x, foldedSetIterable iter X.env x = pure x := by intro _; with_unfolding_all rfl) : WS X (.For tg iter body [] pos) D σ H := by
  refine (ps_for hp hc.calm pi_w pg_w pss_w hs).w ?_
  refine ⟨fun pins s I => thn (h.run pins s I) fun v s1 h1 => thn h1 fun itv s2 ⟨it, fp, tn, J, H', e, I', T, t0, hf, n, itm, W, Pv, p0, hsm, hst, hd⟩ => ⟨it, fp, tn, J, H', e, I', T, t0, hf, ?_⟩⟩
  refine ⟨fun i m σ' H'' => m = n - i ∧ i ≤ n ∧ Pv i σ' H'', ⟨n, by simp, Nat.zero_le _, p0⟩, ?_⟩
  rintro i m σ' H'' ⟨rfl, hi, p⟩
  by_cases hlt : i < n
  · refine .inr ⟨W.go i H'' hlt (hsm _ _ _ p), Pv (i + 1), fun σ2 H2 p' => ⟨n - (i + 1), by omega, rfl, hlt, p'⟩, fun x H3 y => ?_⟩
    obtain ⟨rfl, rfl⟩ := W.yld i H'' x H3 hlt (hsm _ _ _ p) y
    exact hst i σ' _ hlt p
  · have e : i = n := by omega
    subst e
    exact .inl ⟨W.stop _ _ (Nat.le_refl _) (hsm _ _ _ p), hd _ _ p⟩
/-- .. each item a new tuple -/
theorem ws_forT (hp : PassesOwn (model X.prog X.w) X.A X.env X.xe) (hc : Nm X N L S G B)
    (h : WI X tg iter σ H fun J H1 => ∃ n it, WlkT J n it H1 ∧ ∃ Pv : Nat → L2.St → Hp → Prop, Pv 0 σ H1 ∧ (∀ i σ' H', Pv i σ' H' → Same H1 H') ∧
      (∀ i σ' H', i < n → Pv i σ' H' → ∀ T H'', H' T = none → Same H' H'' → H'' T = some (.tup (it i)) → WG X tg (.ref T) σ' H'' fun σ2 H2 => WL X body { D with nx := Pv (i + 1), ct := Pv (i + 1), bk := D.nx } σ2 H2) ∧ ∀ σ' H', Pv n σ' H' → D.nx σ' H')
    (hs : ∀ x, foldedSetIterable iter X.env x = pure x := by intro _; with_unfolding_all rfl) : WS X (.For tg iter body [] pos) D σ H := by
  refine (ps_for hp hc.calm pi_w pg_w pss_w hs).w ?_
  refine ⟨fun pins s I => thn (h.run pins s I) fun v s1 h1 => thn h1 fun itv s2 ⟨it, fp, tn, J, H', e, I', T, t0, hf, n, itm, W, Pv, p0, hsm, hst, hd⟩ => ⟨it, fp, tn, J, H', e, I', T, t0, hf, ?_⟩⟩
  refine ⟨fun i m σ' H'' => m = n - i ∧ i ≤ n ∧ Pv i σ' H'', ⟨n, by simp, Nat.zero_le _, p0⟩, ?_⟩
  rintro i m σ' H'' ⟨rfl, hi, p⟩
  by_cases hlt : i < n
  · refine .inr ⟨W.go i H'' hlt (hsm _ _ _ p), Pv (i + 1), fun σ2 H2 p' => ⟨n - (i + 1), by omega, rfl, hlt, p'⟩, fun x H3 y => ?_⟩
    obtain ⟨T, rfl, hT, rfl⟩ := W.yld i H'' x H3 hlt (hsm _ _ _ p) y
    exact hst i σ' _ hlt p T _ hT (same_new hT) upd_same
  · have e : i = n := by omega
    subst e
    exact .inl ⟨W.stop _ _ (Nat.le_refl _) (hsm _ _ _ p), hd _ _ p⟩
theorem ws_while (hp : PassesOwn (model X.prog X.w) X.A X.env X.xe) (Pv : Nat → L2.St → Hp → Prop) (m : Nat) (h0 : Pv m σ H)
    (hs : ∀ m σ' H', Pv m σ' H' → WT X c σ' H' fun k H1 => if k = true then WL X body { D with nx := fun σ2 H2 => ∃ m', m' < m ∧ Pv m' σ2 H2, ct := fun σ2 H2 => ∃ m', m' < m ∧ Pv m' σ2 H2, bk := D.nx } σ' H1 else D.nx σ' H1) : WS X (.While c body [] pos) D σ H :=
  (ps_while hp pt_w pss_w).w ⟨Pv, ⟨m, h0⟩, fun m σ' H' p => WT.imp (hs m σ' H' p) fun k H1 q => by
    cases k with
    | true => exact ⟨_, fun _ _ z => z, q⟩
    | false => exact q⟩
end
end Sv

namespace Sv
open PySem PySem.Spec PyProof.Rows L2

/-! ### comprehensions -/
/-- X' is the context of a block (of that scope) of X -/
def Blk (X : Cx) (scope : Scope) (X' : Cx) : Prop := ∃ (s : Shared) (H : Hp) (C : Addr) (cl : List (Str × Addr)) (fp : List Addr), X' = X.blk s H scope (compEnvC scope cl C X.env) fp
structure WTs (X : Cx) (ifs : List Expr) (σ : L2.St) (H : Hp) (Q : Bool → Hp → Prop) : Prop where
  run : ∀ (pins : List (Addr × Obj)) (s : Shared), Inv X pins σ H s →
    wpAny (model X.prog X.w) X.A (forIn ifs true fun c r => if r = true then do let ok ← isTrue c X.env (eval c X.env); pure (ForInStep.yield ok) else pure (ForInStep.yield r)) (TP X pins σ Q) X.xe s
theorem pts_w {X : Cx} {ifs : List Expr} : PTs X ifs (WTs X ifs) := ⟨fun pins s _ _ _ I h => h.run pins s I⟩
theorem wts_nil {X : Cx} {σ : L2.St} {H : Hp} {Q : Bool → Hp → Prop} (q : Q true H) : WTs X [] σ H Q := ⟨fun pins s I => pts_nil.run pins s σ H Q I q⟩
theorem wts_one {X : Cx} {c : Expr} {σ : L2.St} {H : Hp} {Q : Bool → Hp → Prop} (h : WT X c σ H Q) : WTs X [c] σ H Q := ⟨fun pins s I => (pts_one pt_w).run pins s σ H Q I h⟩
def WEb (X : Cx) (scope : Scope) (e : Expr) (σ : L2.St) (H : Hp) (Q : VK) : Prop := ∀ X', Blk X scope X' → WE X' e σ H Q
def WTb (X : Cx) (scope : Scope) (ifs : List Expr) (σ : L2.St) (H : Hp) (Q : Bool → Hp → Prop) : Prop := ∀ X', Blk X scope X' → WTs X' ifs σ H Q
def WGb (X : Cx) (scope : Scope) (tg : Expr) (v : V) (σ : L2.St) (H : Hp) (Q : L2.St → Hp → Prop) : Prop := ∀ X', Blk X scope X' → WG X' tg v σ H Q

/-- a list comprehension over W's items, by an invariant of the list so far; new objects may be made, nothing that stood changes -/
theorem lc_of {X : Cx} {N L S G B : List Str} {tg elt iter : Expr} {ifs : List Expr} {scope : Scope} {own : List (Str × Nat)} {σ : L2.St} {H : Hp} {Q : VK} (c : Nm X N L S G B) (P : Nat → List V → Prop)
    (h : WI X tg iter σ H fun J H1 => ∃ n it, Wlk J n it H1 ∧ n < sizeLine ∧ P 0 [] ∧
      (∀ i acc H', i < n → acc.length ≤ i → P i acc → Same H1 H' → WGb X scope tg (it i) (wipe σ (own.map (·.2))) H' fun σ2 H2 => H2 = H' ∧ wipe σ2 (own.map (·.2)) = wipe σ (own.map (·.2)) ∧ WTb X scope ifs σ2 H2 fun k H3 => Same H2 H3 ∧
        if k = true then WEb X scope elt σ2 H3 fun y H4 => Same H3 H4 ∧ P (i + 1) (acc ++ [y]) else P (i + 1) acc) ∧
      ∀ acc D H', acc.length ≤ n → P n acc → H1 D = none → Same H1 H' → H' D = some (.lst acc) → Q (.ref D) H') :
    tLc (WI X tg iter) (WGb X scope tg) (WTb X scope ifs) (WEb X scope elt) (own.map (·.2)) σ H Q := by
  refine ⟨fun pins s I => thn (h.run pins s I) fun v s1 h1 => thn h1 fun itv s2 ⟨it, fp, tn, J, H1, e, I', T, t0, hf, n, itm, W, hz, p0, hst, hd⟩ => ⟨it, fp, tn, J, H1, e, I', T, t0, hf, fun D hD => ?_⟩⟩
  refine ⟨fun i m H' => m = n - i ∧ i ≤ n ∧ ∃ acc, acc.length ≤ i ∧ P i acc ∧ Same H1 H' ∧ H' D = some (.lst acc), ⟨n, by simp, Nat.zero_le _, [], Nat.le_refl _, p0, same_new hD, upd_same⟩, ?_⟩
  rintro i m H' ⟨rfl, hi, acc, hl, hp, hsm, hDa⟩
  by_cases hlt : i < n
  · refine .inr ⟨W.go i H' hlt hsm, fun H2 => i + 1 ≤ n ∧ ∃ acc, acc.length ≤ i + 1 ∧ P (i + 1) acc ∧ Same H1 H2 ∧ H2 D = some (.lst acc), fun H2 q => ⟨n - (i + 1), by omega, rfl, q⟩, fun x H3 y => ?_⟩
    obtain ⟨rfl, rfl⟩ := W.yld i H' x H3 hlt hsm y
    intro X' bX
    refine ⟨fun pins' s' u I' r => thn ((hst i acc H3 hlt hl hp hsm X' bX).run pins' s' u I' r) fun _ s2 ⟨σ2, H2, I2, e2, ew, q2⟩ => ⟨σ2, H2, I2, ew, fun X2 b2 => ?_⟩⟩
    subst e2
    refine ⟨fun pins3 s3 I3 => thn ((q2 X2 b2).run pins3 s3 I3) fun k s4 ⟨H4, I4, e4, q4⟩ => ⟨H4, I4, ?_⟩⟩
    cases k with
    | false =>
      rw [if_neg (by decide)] at q4 ⊢
      exact ⟨hlt, acc, Nat.le_succ_of_le hl, q4, hsm.trans e4, e4 _ _ hDa⟩
    | true =>
      rw [if_pos rfl] at q4 ⊢
      intro X5 b5
      refine WE.imp (q4 X5 b5) fun y H5 ⟨e5, q5⟩ => ⟨acc, e5 _ _ (e4 _ _ hDa), by omega, hlt, acc ++ [y], by rw [List.length_append]; show acc.length + 1 ≤ i + 1; omega, q5, same_mut (hsm.trans (e4.trans e5)) hD, upd_same⟩
  · have e : i = n := by omega
    subst e
    exact .inl ⟨W.stop _ _ (Nat.le_refl _) hsm, hd acc D H' hl hp hD hsm hDa⟩
theorem w_lc {X : Cx} {N L S G B : List Str} {tg elt iter : Expr} {ifs : List Expr} {scope : Scope} {own : List (Str × Nat)} {σ : L2.St} {H : Hp} {Q : VK} {pos : Pos} (c : Nm X N L S G B) (ok : blkC N X.env.scope scope own = true) (P : Nat → List V → Prop)
    (h : WI X tg iter σ H fun J H1 => ∃ n it, Wlk J n it H1 ∧ n < sizeLine ∧ P 0 [] ∧
      (∀ i acc H', i < n → acc.length ≤ i → P i acc → Same H1 H' → WGb X scope tg (it i) (wipe σ (own.map (·.2))) H' fun σ2 H2 => H2 = H' ∧ wipe σ2 (own.map (·.2)) = wipe σ (own.map (·.2)) ∧ WTb X scope ifs σ2 H2 fun k H3 => Same H2 H3 ∧
        if k = true then WEb X scope elt σ2 H3 fun y H4 => Same H3 H4 ∧ P (i + 1) (acc ++ [y]) else P (i + 1) acc) ∧
      ∀ acc D H', acc.length ≤ n → P n acc → H1 D = none → Same H1 H' → H' D = some (.lst acc) → Q (.ref D) H')
    (hs : ∀ x, foldedSetIterable iter X.env x = pure x := by intro _; with_unfolding_all rfl) : WE X (.ListComp elt [⟨tg, iter, ifs, 0⟩] scope pos) σ H Q := by
  have hN : X.N.Nodup := by rw [c.names]; exact c.nd
  have ok' : BlkOk X.N X.env.scope scope own := by rw [c.names]; exact blkOk_by ok
  have p := pe_lc (X := X) (pos := pos) (g := WGb X scope tg) (tt := WTb X scope ifs) (te := WEb X scope elt) c.calm hN (pi_w (X := X) (tg := tg) (iter := iter)) ok'
    (fun s H C cl fp => ⟨fun pins s1 σ1 H1 v u R I r q => (q _ ⟨s, H, C, cl, fp, rfl⟩).run pins s1 u I r⟩)
    (fun s H C cl fp => ⟨fun pins s1 σ1 H1 R I q => (q _ ⟨s, H, C, cl, fp, rfl⟩).run pins s1 I⟩)
    (fun s H C cl fp => ⟨fun pins s1 σ1 H1 R I q => (q _ ⟨s, H, C, cl, fp, rfl⟩).run pins s1 I⟩) hs
  exact p.w (lc_of c P h)
theorem ws_setLc {y : Str} {py spos : Pos} {D0 : Ends} {X : Cx} {N L S G B : List Str} {tg elt iter : Expr} {ifs : List Expr} {scope : Scope} {own : List (Str × Nat)} {σ : L2.St} {H : Hp} {pos : Pos} (c : Nm X N L S G B) (ok : blkC N X.env.scope scope own = true) (P : Nat → List V → Prop)
    (h : WI X tg iter σ H fun J H1 => ∃ n it, Wlk J n it H1 ∧ n < sizeLine ∧ P 0 [] ∧
      (∀ i acc H', i < n → acc.length ≤ i → P i acc → Same H1 H' → WGb X scope tg (it i) (wipe σ (own.map (·.2))) H' fun σ2 H2 => H2 = H' ∧ wipe σ2 (own.map (·.2)) = wipe σ (own.map (·.2)) ∧ WTb X scope ifs σ2 H2 fun k H3 => Same H2 H3 ∧
        if k = true then WEb X scope elt σ2 H3 fun y H4 => Same H3 H4 ∧ P (i + 1) (acc ++ [y]) else P (i + 1) acc) ∧
      ∀ acc D H', acc.length ≤ n → P n acc → H1 D = none → Same H1 H' → H' D = some (.lst acc) → ∃ σ', Put N σ y (.ref D) σ' ∧ D0.nx σ' H')
    (hyl : X.env.scope.names.lookup y = some .local) (hsw : swapsWith (.ListComp elt [⟨tg, iter, ifs, 0⟩] scope pos) (some (.Name y py)) spos.line X.env = pure true)
    (hs : ∀ x, foldedSetIterable iter X.env x = pure x := by intro _; with_unfolding_all rfl) (iy : ∃ i : Nat, N[i]? = some y) : WS X (.Assign [.Name y py] (.ListComp elt [⟨tg, iter, ifs, 0⟩] scope pos) spos) D0 σ H := by
  have hN : X.N.Nodup := by rw [c.names]; exact c.nd
  have ok' : BlkOk X.N X.env.scope scope own := by rw [c.names]; exact blkOk_by ok
  obtain ⟨i, hi⟩ := iy
  have hi' : X.N[i]? = some y := by rw [c.names]; exact hi
  have p := ps_setLc (X := X) (pos := pos) (spos := spos) (py := py) (g := WGb X scope tg) (tt := WTb X scope ifs) (te := WEb X scope elt) c.calm hN hi' hyl hsw (pi_w (X := X) (tg := tg) (iter := iter)) ok'
    (fun s H C cl fp => ⟨fun pins s1 σ1 H1 v u R I r q => (q _ ⟨s, H, C, cl, fp, rfl⟩).run pins s1 u I r⟩)
    (fun s H C cl fp => ⟨fun pins s1 σ1 H1 R I q => (q _ ⟨s, H, C, cl, fp, rfl⟩).run pins s1 I⟩)
    (fun s H C cl fp => ⟨fun pins s1 σ1 H1 R I q => (q _ ⟨s, H, C, cl, fp, rfl⟩).run pins s1 I⟩) hs
  refine p.w ?_
  refine lc_of (Q := fun v H1 => D0.nx (σ.set i (some v)) H1) c P ⟨fun pins s I => thn (h.run pins s I) fun v s1 h1 => thn h1 fun itv s2 ⟨it, fp, tn, J, H1, e, I', T, t0, hf, n, itm, W, hz, p0, hst, hd⟩ => ⟨it, fp, tn, J, H1, e, I', T, t0, hf, n, itm, W, hz, p0, hst, fun acc D H' h1 h2 h3 h4 h5 => ?_⟩⟩
  obtain ⟨σ', hp, q⟩ := hd acc D H' h1 h2 h3 h4 h5
  obtain ⟨i', hi2, rfl⟩ := hp.ix
  have ei : i' = i := nodup_ix hN (by rw [c.names]; exact hi2) hi'
  rw [← ei]
  exact q
/-- .. where each item is a new tuple -/
theorem lc_ofT {X : Cx} {N L S G B : List Str} {tg elt iter : Expr} {ifs : List Expr} {scope : Scope} {own : List (Str × Nat)} {σ : L2.St} {H : Hp} {Q : VK} (c : Nm X N L S G B) (P : Nat → List V → Prop)
    (h : WI X tg iter σ H fun J H1 => ∃ n it, WlkT J n it H1 ∧ n < sizeLine ∧ P 0 [] ∧
      (∀ i acc H0 H' T, i < n → acc.length ≤ i → P i acc → Same H1 H0 → Same H0 H' → H' T = some (.tup (it i)) → WGb X scope tg (.ref T) (wipe σ (own.map (·.2))) H' fun σ2 H2 => H2 = H' ∧ wipe σ2 (own.map (·.2)) = wipe σ (own.map (·.2)) ∧ WTb X scope ifs σ2 H2 fun k H3 => Same H2 H3 ∧
        if k = true then WEb X scope elt σ2 H3 fun y H4 => Same H3 H4 ∧ P (i + 1) (acc ++ [y]) else P (i + 1) acc) ∧
      ∀ acc D H', acc.length ≤ n → P n acc → H1 D = none → Same H1 H' → H' D = some (.lst acc) → Q (.ref D) H') :
    tLc (WI X tg iter) (WGb X scope tg) (WTb X scope ifs) (WEb X scope elt) (own.map (·.2)) σ H Q := by
  refine ⟨fun pins s I => thn (h.run pins s I) fun v s1 h1 => thn h1 fun itv s2 ⟨it, fp, tn, J, H1, e, I', T, t0, hf, n, itm, W, hz, p0, hst, hd⟩ => ⟨it, fp, tn, J, H1, e, I', T, t0, hf, fun D hD => ?_⟩⟩
  refine ⟨fun i m H' => m = n - i ∧ i ≤ n ∧ ∃ acc, acc.length ≤ i ∧ P i acc ∧ Same H1 H' ∧ H' D = some (.lst acc), ⟨n, by simp, Nat.zero_le _, [], Nat.le_refl _, p0, same_new hD, upd_same⟩, ?_⟩
  rintro i m H' ⟨rfl, hi, acc, hl, hp, hsm, hDa⟩
  by_cases hlt : i < n
  · refine .inr ⟨W.go i H' hlt hsm, fun H2 => i + 1 ≤ n ∧ ∃ acc, acc.length ≤ i + 1 ∧ P (i + 1) acc ∧ Same H1 H2 ∧ H2 D = some (.lst acc), fun H2 q => ⟨n - (i + 1), by omega, rfl, q⟩, fun x H3 y => ?_⟩
    obtain ⟨T, rfl, hT, rfl⟩ := W.yld i H' x H3 hlt hsm y
    have eT := same_new (o := .tup (itm i)) hT
    intro X' bX
    refine ⟨fun pins' s' u I' r => thn ((hst i acc H' _ T hlt hl hp hsm eT upd_same X' bX).run pins' s' u I' r) fun _ s2 ⟨σ2, H2, I2, e2, ew, q2⟩ => ⟨σ2, H2, I2, ew, fun X2 b2 => ?_⟩⟩
    subst e2
    refine ⟨fun pins3 s3 I3 => thn ((q2 X2 b2).run pins3 s3 I3) fun k s4 ⟨H4, I4, e4, q4⟩ => ⟨H4, I4, ?_⟩⟩
    cases k with
    | false =>
      rw [if_neg (by decide)] at q4 ⊢
      exact ⟨hlt, acc, Nat.le_succ_of_le hl, q4, hsm.trans (eT.trans e4), e4 _ _ (eT _ _ hDa)⟩
    | true =>
      rw [if_pos rfl] at q4 ⊢
      intro X5 b5
      refine WE.imp (q4 X5 b5) fun y H5 ⟨e5, q5⟩ => ⟨acc, e5 _ _ (e4 _ _ (eT _ _ hDa)), by omega, hlt, acc ++ [y], by rw [List.length_append]; show acc.length + 1 ≤ i + 1; omega, q5, same_mut (hsm.trans (eT.trans (e4.trans e5))) hD, upd_same⟩
  · have e : i = n := by omega
    subst e
    exact .inl ⟨W.stop _ _ (Nat.le_refl _) hsm, hd acc D H' hl hp hD hsm hDa⟩
theorem w_lcT {X : Cx} {N L S G B : List Str} {tg elt iter : Expr} {ifs : List Expr} {scope : Scope} {own : List (Str × Nat)} {σ : L2.St} {H : Hp} {Q : VK} {pos : Pos} (c : Nm X N L S G B) (ok : blkC N X.env.scope scope own = true) (P : Nat → List V → Prop)
    (h : WI X tg iter σ H fun J H1 => ∃ n it, WlkT J n it H1 ∧ n < sizeLine ∧ P 0 [] ∧
      (∀ i acc H0 H' T, i < n → acc.length ≤ i → P i acc → Same H1 H0 → Same H0 H' → H' T = some (.tup (it i)) → WGb X scope tg (.ref T) (wipe σ (own.map (·.2))) H' fun σ2 H2 => H2 = H' ∧ wipe σ2 (own.map (·.2)) = wipe σ (own.map (·.2)) ∧ WTb X scope ifs σ2 H2 fun k H3 => Same H2 H3 ∧
        if k = true then WEb X scope elt σ2 H3 fun y H4 => Same H3 H4 ∧ P (i + 1) (acc ++ [y]) else P (i + 1) acc) ∧
      ∀ acc D H', acc.length ≤ n → P n acc → H1 D = none → Same H1 H' → H' D = some (.lst acc) → Q (.ref D) H')
    (hs : ∀ x, foldedSetIterable iter X.env x = pure x := by intro _; with_unfolding_all rfl) : WE X (.ListComp elt [⟨tg, iter, ifs, 0⟩] scope pos) σ H Q := by
  have hN : X.N.Nodup := by rw [c.names]; exact c.nd
  have ok' : BlkOk X.N X.env.scope scope own := by rw [c.names]; exact blkOk_by ok
  have p := pe_lc (X := X) (pos := pos) (g := WGb X scope tg) (tt := WTb X scope ifs) (te := WEb X scope elt) c.calm hN (pi_w (X := X) (tg := tg) (iter := iter)) ok'
    (fun s H C cl fp => ⟨fun pins s1 σ1 H1 v u R I r q => (q _ ⟨s, H, C, cl, fp, rfl⟩).run pins s1 u I r⟩)
    (fun s H C cl fp => ⟨fun pins s1 σ1 H1 R I q => (q _ ⟨s, H, C, cl, fp, rfl⟩).run pins s1 I⟩)
    (fun s H C cl fp => ⟨fun pins s1 σ1 H1 R I q => (q _ ⟨s, H, C, cl, fp, rfl⟩).run pins s1 I⟩) hs
  exact p.w (lc_ofT c P h)
theorem ws_setLcT {y : Str} {py spos : Pos} {D0 : Ends} {X : Cx} {N L S G B : List Str} {tg elt iter : Expr} {ifs : List Expr} {scope : Scope} {own : List (Str × Nat)} {σ : L2.St} {H : Hp} {pos : Pos} (c : Nm X N L S G B) (ok : blkC N X.env.scope scope own = true) (P : Nat → List V → Prop)
    (h : WI X tg iter σ H fun J H1 => ∃ n it, WlkT J n it H1 ∧ n < sizeLine ∧ P 0 [] ∧
      (∀ i acc H0 H' T, i < n → acc.length ≤ i → P i acc → Same H1 H0 → Same H0 H' → H' T = some (.tup (it i)) → WGb X scope tg (.ref T) (wipe σ (own.map (·.2))) H' fun σ2 H2 => H2 = H' ∧ wipe σ2 (own.map (·.2)) = wipe σ (own.map (·.2)) ∧ WTb X scope ifs σ2 H2 fun k H3 => Same H2 H3 ∧
        if k = true then WEb X scope elt σ2 H3 fun y H4 => Same H3 H4 ∧ P (i + 1) (acc ++ [y]) else P (i + 1) acc) ∧
      ∀ acc D H', acc.length ≤ n → P n acc → H1 D = none → Same H1 H' → H' D = some (.lst acc) → ∃ σ', Put N σ y (.ref D) σ' ∧ D0.nx σ' H')
    (hyl : X.env.scope.names.lookup y = some .local) (hsw : swapsWith (.ListComp elt [⟨tg, iter, ifs, 0⟩] scope pos) (some (.Name y py)) spos.line X.env = pure true)
    (hs : ∀ x, foldedSetIterable iter X.env x = pure x := by intro _; with_unfolding_all rfl) (iy : ∃ i : Nat, N[i]? = some y) : WS X (.Assign [.Name y py] (.ListComp elt [⟨tg, iter, ifs, 0⟩] scope pos) spos) D0 σ H := by
  have hN : X.N.Nodup := by rw [c.names]; exact c.nd
  have ok' : BlkOk X.N X.env.scope scope own := by rw [c.names]; exact blkOk_by ok
  obtain ⟨i, hi⟩ := iy
  have hi' : X.N[i]? = some y := by rw [c.names]; exact hi
  have p := ps_setLc (X := X) (pos := pos) (spos := spos) (py := py) (g := WGb X scope tg) (tt := WTb X scope ifs) (te := WEb X scope elt) c.calm hN hi' hyl hsw (pi_w (X := X) (tg := tg) (iter := iter)) ok'
    (fun s H C cl fp => ⟨fun pins s1 σ1 H1 v u R I r q => (q _ ⟨s, H, C, cl, fp, rfl⟩).run pins s1 u I r⟩)
    (fun s H C cl fp => ⟨fun pins s1 σ1 H1 R I q => (q _ ⟨s, H, C, cl, fp, rfl⟩).run pins s1 I⟩)
    (fun s H C cl fp => ⟨fun pins s1 σ1 H1 R I q => (q _ ⟨s, H, C, cl, fp, rfl⟩).run pins s1 I⟩) hs
  refine p.w ?_
  refine lc_ofT (Q := fun v H1 => D0.nx (σ.set i (some v)) H1) c P ⟨fun pins s I => thn (h.run pins s I) fun v s1 h1 => thn h1 fun itv s2 ⟨it, fp, tn, J, H1, e, I', T, t0, hf, n, itm, W, hz, p0, hst, hd⟩ => ⟨it, fp, tn, J, H1, e, I', T, t0, hf, n, itm, W, hz, p0, hst, fun acc D H' h1 h2 h3 h4 h5 => ?_⟩⟩
  obtain ⟨σ', hp, q⟩ := hd acc D H' h1 h2 h3 h4 h5
  obtain ⟨i', hi2, rfl⟩ := hp.ix
  have ei : i' = i := nodup_ix hN (by rw [c.names]; exact hi2) hi'
  rw [← ei]
  exact q

/-! ### calls -/
structure WC (X : Cx) (f : Value) (xs : List V) (σ : L2.St) (H : Hp) (Q : VK) : Prop where
  run : ∀ (pins : List (Addr × Obj)) (s : Shared) (us : List Value), Inv X pins σ H s → Vals xs us → wpAny (model X.prog X.w) X.A (call f us) (EP X pins σ Q) X.xe s
theorem cr_w {X : Cx} {f : Value} : CallR X f fun xs H Q => ∀ σ, WC X f xs σ H Q := fun pins s σ H xs us Q I r q => (q σ).run pins s us I r
theorem _root_.L2.CallR.w {X : Cx} {f : Value} {r : List V → Hp → VK → Prop} {xs : List V} {σ : L2.St} {H : Hp} {Q : VK} (h : CallR X f r) (q : r xs H Q) : WC X f xs σ H Q := ⟨fun pins s us I rv => h pins s σ H xs us Q I rv q⟩
section
variable {X : Cx} {N L S G B : List Str} {e o : Expr} {es : List Expr} {σ : L2.St} {H : Hp} {Q : VK} {x m : Str} {p pos apos : Pos} {id T : String}
/-- f(e, ..), f a built-in function; T(e, ..) a built-in type -/
theorem w_callB (c : Nm X N L S G B) (m : Mb x B) (hv : bootBuiltins x = some (.builtin id)) (h : WA X (e :: es) σ H fun vs H1 => WC X (.builtin id) vs σ H1 Q)
    (he : starEach (e :: es) X.env = (false, eval e X.env) :: starEach es X.env := by with_unfolding_all rfl) (hpl : (backTo pos (starEach es X.env)).any (·.1) = false := by with_unfolding_all rfl) : WE X (.Call (.Name x p) (e :: es) [] pos) σ H Q := by
  obtain ⟨a, b, d⟩ := c.bgl x m.mem
  refine ⟨fun pins s I => wpAny_Call_Name_kw (ld_blt I a (c.blt x m.mem) hv ?_ d b)⟩
  exact PyProof.Rows.callWith_builtin1 (thn (h.run pos pins s I) fun us s1 ⟨vs, H1, I1, r1, q1⟩ => q1.run pins s1 us I1 r1) he hpl
theorem w_callTy (c : Nm X N L S G B) (m : Mb x B) (hv : bootBuiltins x = some (.type T)) (h : WA X (e :: es) σ H fun vs H1 => WC X (.type T) vs σ H1 Q)
    (he : starEach (e :: es) X.env = (false, eval e X.env) :: starEach es X.env := by with_unfolding_all rfl) (hpl : (backTo pos (starEach es X.env)).any (·.1) = false := by with_unfolding_all rfl) : WE X (.Call (.Name x p) (e :: es) [] pos) σ H Q := by
  obtain ⟨a, b, d⟩ := c.bgl x m.mem
  refine ⟨fun pins s I => wpAny_Call_Name_kw (ld_blt I a (c.blt x m.mem) hv ?_ d b)⟩
  exact PyProof.Rows.callWith_type1 (thn (h.run pos pins s I) fun us s1 ⟨vs, H1, I1, r1, q1⟩ => q1.run pins s1 us I1 r1) he hpl
theorem c_len {x : V} {n : Nat} (h : LenV X.K x H n) (q : Q (.int n) H) : WC X (.builtin "len") [x] σ H Q := call_len.w ⟨x, n, rfl, h, q⟩
theorem c_abs {i : Int} (q : Q (.int (if i < 0 then -i else i)) H) : WC X (.builtin "abs") [.int i] σ H Q := call_abs.w ⟨i, rfl, q⟩
theorem c_max {i j : Int} (hc : X.calm = true) (q : Q (.int (if j > i then j else i)) H) : WC X (.builtin "max") [.int i, .int j] σ H Q := (call_max2 hc).w ⟨i, j, rfl, q⟩
theorem c_min {i j : Int} (hc : X.calm = true) (q : Q (.int (if j < i then j else i)) H) : WC X (.builtin "min") [.int i, .int j] σ H Q := (call_min2 hc).w ⟨i, j, rfl, q⟩
theorem c_intB {k : Bool} (q : Q (.int (if k then 1 else 0)) H) : WC X (.type "int") [.bl k] σ H Q := call_int1.w (.inr ⟨k, rfl, q⟩)
theorem c_divmod {i j : Int} (h : 0 < j ∧ j < 1073741824) (q : ∀ p H', H p = none → Same H H' → H' p = some (.tup [.int (i / j), .int (i % j)]) → Q (.ref p) H') : WC X (.builtin "divmod") [.int i, .int j] σ H Q :=
  call_divmod.w ⟨i, j, rfl, h, newly' (Q := fun p H' => Q (.ref p) H') q⟩
theorem c_all {a : Addr} {bs : List Bool} (hc : X.calm = true) (h : SqL X.K H a (bs.map V.bl)) (q : Q (.bl (bs.all fun k => k)) H) : WC X (.builtin "all") [.ref a] σ H Q := (cr_all hc).w ⟨a, bs, rfl, h, q⟩
theorem c_sum {a : Addr} {ns : List Int} (hc : X.calm = true) (h : SqL X.K H a (ns.map V.int)) (q : Q (.int ns.sum) H) : WC X (.builtin "sum") [.ref a] σ H Q := (cr_sum hc).w ⟨a, ns, rfl, h, q⟩
theorem c_list {a : Addr} {xs : List V} (h : SqL X.K H a xs ∨ SqT X.K H a xs) (q : ∀ p H', H p = none → Same H H' → H' p = some (.lst xs) → Q (.ref p) H') : WC X (.type "list") [.ref a] σ H Q :=
  call_list_of.w ⟨a, xs, rfl, h, newly' (Q := fun p H' => Q (.ref p) H') q⟩
theorem c_isi {x c : V} {t u : Value} {b : Bool} (hc : ClsV c u) (ht : TyX X.K H x t) (hk : PySem.W.kitOne X.K t u = some b) (q : Q (.bl b) H) : WC X (.builtin "isinstance") [x, c] σ H Q := call_isi.w ⟨x, c, t, u, b, rfl, hc, ht, hk, q⟩
/-- a set of ints -/
def SetI (P : Program) (w : World) (a : Addr) (S : Int → Bool) (n : Nat) : HO := .ext fun h => h.SetOf (intKind P w) a S n
theorem setI_at {P : Program} {w : World} {h h' : Heap} {a : Addr} {S : Int → Bool} {n : Nat} (R : h.SetOf (intKind P w) a S n) (k : ∀ o, h.get? a = some o → h'.get? a = some o) : h'.SetOf (intKind P w) a S n := by
  obtain ⟨o, es, ep, t, e, c⟩ := R
  exact ⟨o, es, ep, t, k _ e, c⟩
theorem c_set {a : Addr} {ns : List Int} (hc : X.calm = true) (h : SqL X.K H a (ns.map V.int)) (hz : ns.length + 1 < scanBound) (q : ∀ p H' n, H p = none → Same H H' → H' p = some (SetI X.prog X.w p (fun k => ns.any (· == k)) n) → Q (.ref p) H') : WC X (.type "set") [.ref a] σ H Q := by
  refine ⟨fun pins s us I rv => ?_⟩
  obtain ⟨its, rw', hl, hzl⟩ := I.list h
  rw [Vals.ref1 rv]
  have hi := rw'.ints
  have hlen : its.length = ns.length := by rw [← rw'.length, List.length_map]
  refine call_set_list (I.ok.hd hc) hl.isList (by simpa using hi) (by simpa [hlen] using hz) fun h' tk hS hk => ?_
  have hS' : h'.SetOf (intKind X.prog X.w) s.heap.objs.size (fun k => ns.any (· == k)) (firstMet (fun i => ns.getD i 0) its.toArray.size).length := by
    refine SetOf_congr hS (fun k => ?_) rfl
    rw [firstMet_any]
    have e : (List.range its.toArray.size).map (fun i => ns.getD i 0) = ns := by
      apply List.ext_getElem
      · simp [hlen]
      · intro i h1 h2
        simp [h2]
    rw [e]
  have hn : H s.heap.objs.size = none := I.fresh
  have new : ObjOk X.prog X.w (upd H s.heap.objs.size (SetI X.prog X.w s.heap.objs.size (fun k => ns.any (· == k)) (firstMet (fun i => ns.getD i 0) its.toArray.size).length)) h' s.heap.objs.size (SetI X.prog X.w s.heap.objs.size (fun k => ns.any (· == k)) (firstMet (fun i => ns.getD i 0) its.toArray.size).length) := by
    have hS2 := hS'
    obtain ⟨o, es, ep, t, e, c⟩ := hS2
    exact ⟨hS', ⟨o, e⟩, fun h1 h2 p k => setI_at p k⟩
  exact ⟨.ref s.heap.objs.size, _, I.laid (t' := tk) (fun b o e => hk b o (Heap.lt_size e) e) (Nat.le_refl _) new, rfl, q _ _ _ hn (same_new hn) upd_same⟩
theorem b_inSetI {k : Int} {a : Addr} {S : Int → Bool} {n : Nat} (h : H a = some (SetI X.prog X.w a S n)) (q : Q (.bl (S k)) H) : WB X (compareOp .In) (.int k) (.ref a) σ H Q :=
  ⟨fun pins s v u I rx ry => by
    obtain ⟨tk, rfl⟩ := rx
    cases ry
    exact wpAny_inSet_of (intKind_is _ _ _ _) rfl (I.hok a _ h).1 (show EP X pins σ Q _ _ from ⟨.bl (S k), H, I.tok _, rfl, q⟩)⟩
/-! ### the calls of the text's own -/
/-- the module's name x is a def with the positional promise sp -/
structure Fn (P : Program) (w : World) (K : PySem.W.Frag) (mg : Str → Option Value) (base : Heap) (x : Str) (k : Nat) (sp : Sp) : Prop where
  ex : ∃ f, mg x = some (.ref f) ∧ PySem.W.keepIn K (.ref f) = true ∧ FnR P w K mg base (L2.CX P w) k f sp
theorem w_call {k j : Nat} {sp : Sp} {E : XK} (c : Nm X N L S G B) (mm : Mb x G) (F : Fn X.prog X.w X.K X.mg X.base x k sp) (hr : Room j X.A) (hj : k ≤ j) (hx : Passes (L2.CX X.prog X.w) X E) (h : WA X (e :: es) σ H fun vs H1 => sp vs H1 Q E)
    (he : starEach (e :: es) X.env = (false, eval e X.env) :: starEach es X.env := by with_unfolding_all rfl) (hpl : (backTo pos (starEach es X.env)).any (·.1) = false := by with_unfolding_all rfl) : WE X (.Call (.Name x p) (e :: es) [] pos) σ H Q := by
  obtain ⟨f, hm, hk, F⟩ := F.ex
  obtain ⟨a, b, d⟩ := c.glo x mm.mem
  refine ⟨fun pins s I => wpAny_Call_Name_kw (ld_glob I a hm ?_ b)⟩
  refine PySem.W.callWith_K (h₀ := X.base) I.ok.mod.kin hk (thn (h.run pos pins s I) fun us s1 ⟨vs, H1, I1, r, q⟩ => ⟨I1.kIn, ?_⟩) he hpl
  exact wpAny_call (run_fnR F (hr.mono hj) hx I1 r q)
theorem w_call0 {k j : Nat} {sp : Sp} {E : XK} (c : Nm X N L S G B) (mm : Mb x G) (F : Fn X.prog X.w X.K X.mg X.base x k sp) (hr : Room j X.A) (hj : k ≤ j) (hx : Passes (L2.CX X.prog X.w) X E) (h : sp [] H Q E) : WE X (.Call (.Name x p) [] [] pos) σ H Q := by
  obtain ⟨f, hm, hk, F⟩ := F.ex
  obtain ⟨a, b, d⟩ := c.glo x mm.mem
  refine ⟨fun pins s I => wpAny_Call_Name_kw (ld_glob I a hm ?_ b)⟩
  exact PySem.W.callWith_K0 I.kIn hk (wpAny_call (run_fnR F (hr.mono hj) hx I .nil h))
/-- C(e, ..) -/
structure Mkr (P : Program) (w : World) (K : PySem.W.Frag) (mg : Str → Option Value) (base : Heap) (C : Addr) (k : Nat) (sp : Sp) : Prop where
  ex : ∃ f, Mk K C f ∧ FnR P w K mg base (L2.CX P w) k f sp
/-- what a new instance owes -/
def Made (C : Addr) (sp : Sp) (vs : List V) (H1 : Hp) (Q : VK) (E : XK) : Prop :=
  ∀ x dx H2, H1 x = none → H1 dx = none → dx ≠ x → Same H1 H2 → H2 dx = some (.own x) → H2 x = some (.ins C dx []) → sp (.ref x :: vs) H2 (fun v H3 => v = .non ∧ Q (.ref x) H3) E
theorem run_mkr {k j : Nat} {C : Addr} {sp : Sp} {E : XK} {pins : List (Addr × Obj)} {s : Shared} {us : List Value} {vs : List V} (F : Mkr X.prog X.w X.K X.mg X.base C k sp) (hr : Room j X.A) (hj : k + 1 ≤ j) (hx : Passes (L2.CX X.prog X.w) X E) (I : Inv X pins σ H s) (r : Vals vs us) (q : Made C sp vs H Q E) :
    wpAny (model X.prog X.w) X.A (call (.ref C) us) (EP X pins σ Q) X.xe s := by
  obtain ⟨f, M, F⟩ := F.ex
  exact StX.run_makeR M F (hr.mono hj) hx I r fun x dx nx nd ne => q x dx _ nx nd ne ((same_new nd).trans (same_new (by rw [upd_ne (Ne.symm ne)]; exact nx))) (by rw [upd_ne ne]; exact upd_same) upd_same
theorem w_make {k j : Nat} {C : Addr} {sp : Sp} {E : XK} (c : Nm X N L S G B) (mm : Mb x G) (hm : X.mg x = some (.ref C)) (F : Mkr X.prog X.w X.K X.mg X.base C k sp) (hr : Room j X.A) (hj : k + 1 ≤ j) (hx : Passes (L2.CX X.prog X.w) X E)
    (h : WA X (e :: es) σ H fun vs H1 => Made C sp vs H1 Q E)
    (he : starEach (e :: es) X.env = (false, eval e X.env) :: starEach es X.env := by with_unfolding_all rfl) (hpl : (backTo pos (starEach es X.env)).any (·.1) = false := by with_unfolding_all rfl) : WE X (.Call (.Name x p) (e :: es) [] pos) σ H Q := by
  have kp := F.ex
  obtain ⟨f, M, _⟩ := kp
  obtain ⟨a, b, d⟩ := c.glo x mm.mem
  refine ⟨fun pins s I => wpAny_Call_Name_kw (ld_glob I a hm ?_ b)⟩
  refine PySem.W.callWith_K (h₀ := X.base) I.ok.mod.kin M.kp (thn (h.run pos pins s I) fun us s1 ⟨vs, H1, I1, r, q⟩ => ⟨I1.kIn, ?_⟩) he hpl
  exact run_mkr F hr hj hx I1 r q
/-- x(e, ..) where the local x holds the class at C -/
theorem w_makeL {k j : Nat} {C : Addr} {sp : Sp} {E : XK} (c : Nm X N L S G B) (ha : At N σ x (.ref C)) (mm : Mb x L) (F : Mkr X.prog X.w X.K X.mg X.base C k sp) (hr : Room j X.A) (hj : k + 1 ≤ j) (hx : Passes (L2.CX X.prog X.w) X E)
    (h : WA X (e :: es) σ H fun vs H1 => Made C sp vs H1 Q E)
    (he : starEach (e :: es) X.env = (false, eval e X.env) :: starEach es X.env := by with_unfolding_all rfl) (hpl : (backTo pos (starEach es X.env)).any (·.1) = false := by with_unfolding_all rfl) : WE X (.Call (.Name x p) (e :: es) [] pos) σ H Q := by
  have kp := F.ex
  obtain ⟨f, M, _⟩ := kp
  refine ⟨fun pins s I => wpAny_Call_Name_kw ?_⟩
  refine thn ((w_name (Q := fun v H' => v = .ref C ∧ H' = H) c ha mm ⟨rfl, rfl⟩).run pins s I) fun u s1 ⟨v, H', I', rv, ev, eH⟩ => ?_
  subst ev eH
  obtain rfl : u = Value.ref C := rv
  refine PySem.W.callWith_K (h₀ := X.base) I'.ok.mod.kin M.kp (thn (h.run pos pins s1 I') fun us s1 ⟨vs, H1, I1, r, q⟩ => ⟨I1.kIn, ?_⟩) he hpl
  exact run_mkr F hr hj hx I1 r q
/-! ### attributes -/
structure WAt (X : Cx) (x : V) (f : Str) (σ : L2.St) (H : Hp) (Q : VK) : Prop where
  run : ∀ (pins : List (Addr × Obj)) (s : Shared) (v : Value), Inv X pins σ H s → RelV x v → wpAny (model X.prog X.w) X.A (getAttr v f true) (EP X pins σ Q) X.xe s
theorem w_attr {f : Str} (h : WE X e σ H fun x H1 => WAt X x f σ H1 Q) (hb : attributeBase e f X.env (eval e X.env) = eval e X.env := by with_unfolding_all rfl) : WE X (.Attribute e f pos) σ H Q :=
  ⟨fun pins s I => attr_of hb (thn (h.run pins s I) fun u s1 ⟨x, H1, I1, rx, q⟩ => q.run pins s1 u I1 rx)⟩
theorem a_fld {a C dx : Addr} {fs : List (Str × V)} {f : Str} {v : V} (hc : Cls X.K C) (hn : NoAttr X.K C f) (h : H a = some (.ins C dx fs)) (hl : fs.lookup f = some v) (q : Q v H) : WAt X (.ref a) f σ H Q :=
  ⟨fun pins s u I rx => by
    obtain rfl : u = Value.ref a := rx
    exact getattr_ok I h hc hn hl fun u' s2 I2 ru => ⟨v, H, I2, ru, q⟩⟩
theorem a_cval {C : Addr} {mc u : Value} {f : Str} {v : V} (r : ClX.CRead X.K C mc) (k : ClX.CVal X.K C mc f v u) (q : Q v H) : WAt X (.ref C) f σ H Q :=
  ⟨fun pins s u I rx => by
    obtain rfl : u = Value.ref C := rx
    exact ClX.getcval_ok I r k fun s2 I2 => ⟨v, H, I2, k.rel, q⟩⟩
/-- a property, by its getter's positional promise -/
theorem a_prop {C p' g a dx : Addr} {fs : List (Str × V)} {f : Str} {k : Nat} {sp : Sp} {E : XK} (c : Cls X.K C) (hp : PropOf X.K C f p' g) (F : FnR X.prog X.w X.K X.mg X.base (L2.CX X.prog X.w) k g sp) (hr : Room (k + 1) X.A) (ea : H a = some (.ins C dx fs))
    (h : sp [.ref a] H Q E0) : WAt X (.ref a) f σ H Q := by
  refine ⟨fun pins s u I rx => ?_⟩
  obtain rfl : u = Value.ref a := rx
  obtain ⟨mA, O, _, _, _, _⟩ := ins_get I.hok ea
  obtain ⟨od, J, _⟩ := O.look
  obtain ⟨rest, hrec⟩ := hp.rec_
  have I1 := I.tok (s.toks + 1)
  have hc : (PySem.W.clsIn X.K C).isSome = true := by
    obtain ⟨cd, hc, _⟩ := PySem.W.any_some c.hd
    rw [hc]
    rfl
  refine PySem.W.get_bind I.kIn J (PySem.W.plainGet_of (c.get f)).1 (PySem.W.findObj_data hc hp.at_ hp.get hp.tak) (PySem.W.plainGet_of (c.get f)).2 (wpAny_call (PySem.W.prop_get (s := { s with toks := s.toks + 1 }) I.kIn hrec ?_))
  refine codeAny_mono (F X.A.in1 X.stack { s with toks := s.toks + 1 } H [.ref a] [.ref a] Q E0 hr.in1 I1.env0.in1 (.cons rfl .nil) h) fun r s' hq => ?_
  cases r with
  | error er => exact False.elim (passL (X := X.nox) pins σ H { s with toks := s.toks + 1 } er s' (I1.wish _) hq)
  | ok fl =>
    cases fl with
    | ret u =>
      obtain ⟨v, H', I3, rv, q3⟩ := I1.after hq
      show wpAny _ _ (handedOut u) _ _ _
      rw [PySem.W.handedOut_of (handed_of rv)]
      exact wpAny_pure ⟨v, H', I3, rv, q3⟩
    | next => exact False.elim hq
    | brk => exact False.elim hq
    | cont => exact False.elim hq
/-! ### methods -/
/-- o.m(e, ..) of an instance of the class at C, by a positional promise -/
structure Mth (P : Program) (w : World) (K : PySem.W.Frag) (mg : Str → Option Value) (base : Heap) (C : Addr) (m : Str) (k : Nat) (sp : Sp) : Prop where
  ex : ∃ f, Cls K C ∧ Meth K C m f ∧ FnR P w K mg base (L2.CX P w) k f sp
theorem w_meth {C : Addr} {k j : Nat} {sp : Sp} {E : XK} {pl : Sem Bool} (F : Mth X.prog X.w X.K X.mg X.base C m k sp) (hr : Room j X.A) (hj : k ≤ j) (hx : Passes (L2.CX X.prog X.w) X E)
    (h : WE X o σ H fun x H1 => ∃ a dx fs, x = .ref a ∧ H1 a = some (.ins C dx fs) ∧ fs.lookup m = none ∧ WA X (e :: es) σ H1 fun vs H2 => sp (.ref a :: vs) H2 Q E)
    (hst : starEach (e :: es) X.env = (false, eval e X.env) :: starEach es X.env := by with_unfolding_all rfl) (hpl : (backTo pos (starEach es X.env)).any (·.1) = false := by with_unfolding_all rfl)
    (ht : eval (.Call (.Attribute o m apos) (e :: es) [] pos) X.env = (do
      let ov ← eval o X.env
      standAt apos.atName
      let (f, first) ← holding [ov] (getMethod ov m pl)
      callWith pos f first (backTo pos (starEach (e :: es) X.env)) (backToKw pos (keywordEach [] X.env))) := by with_unfolding_all rfl) : WE X (.Call (.Attribute o m apos) (e :: es) [] pos) σ H Q := by
  obtain ⟨f, c, hm, F⟩ := F.ex
  refine (pe_methR pe_w c hm F (hr.mono hj) hx pa_w hst hpl ht).w ?_
  exact WE.imp h fun x H1 ⟨a, dx, fs, e1, e2, e3, q⟩ => ⟨a, dx, fs, e1, e2, e3, by rw [e1]; exact q⟩
theorem w_meth0 {C : Addr} {k j : Nat} {sp : Sp} {E : XK} {pl : Sem Bool} (F : Mth X.prog X.w X.K X.mg X.base C m k sp) (hr : Room j X.A) (hj : k ≤ j) (hx : Passes (L2.CX X.prog X.w) X E)
    (h : WE X o σ H fun x H1 => ∃ a dx fs, x = .ref a ∧ H1 a = some (.ins C dx fs) ∧ fs.lookup m = none ∧ sp [.ref a] H1 Q E)
    (ht : eval (.Call (.Attribute o m apos) [] [] pos) X.env = (do
      let ov ← eval o X.env
      standAt apos.atName
      let (f, first) ← holding [ov] (getMethod ov m pl)
      callWith pos f first (backTo pos (starEach [] X.env)) (backToKw pos (keywordEach [] X.env))) := by with_unfolding_all rfl) : WE X (.Call (.Attribute o m apos) [] [] pos) σ H Q := by
  obtain ⟨f, c, hm, F⟩ := F.ex
  refine ⟨fun pins s I => ?_⟩
  refine PySem.W.methodCall_KW (pl := pl) (thn (h.run pins s I) fun u s1 ⟨x, H1, I1, rx, a, dx, fs, ex, ea, l, q⟩ => ?_) ht
  subst ex
  obtain rfl : u = Value.ref a := rx
  refine getmeth_ok I1 ea c hm l ?_
  exact PySem.W.callWith_K0 (first := [.ref a]) I1.kIn hm.kp (wpAny_call (run_fnR (us := [.ref a]) (vs := [.ref a]) F (hr.mono hj) hx I1 (.cons rfl .nil) q))
/-- C.m(e, ..), a static method -/
structure SMt (P : Program) (w : World) (K : PySem.W.Frag) (mg : Str → Option Value) (base : Heap) (C : Addr) (m : Str) (k : Nat) (sp : Sp) : Prop where
  ex : ∃ (p g : Addr) (rest : List Value), ClX.CRead K C (.type "type") ∧ PySem.W.findCls K (.ref C) (.type "type") m = some (.get (.builtin "staticmethod.__get__") (.ref p) .none (.ref C)) ∧ PySem.W.recIn K p "staticmethod" = some (.ref g :: rest) ∧
    PySem.W.keepIn K (.ref g) = true ∧ FnR P w K mg base (L2.CX P w) k g sp
theorem w_smeth {C : Addr} {k j : Nat} {sp : Sp} {E : XK} {pl : Sem Bool} (F : SMt X.prog X.w X.K X.mg X.base C m k sp) (hr : Room j X.A) (hj : k ≤ j) (hx : Passes (L2.CX X.prog X.w) X E)
    (h : WE X o σ H fun x H1 => x = .ref C ∧ WA X (e :: es) σ H1 fun vs H2 => sp vs H2 Q E)
    (hst : starEach (e :: es) X.env = (false, eval e X.env) :: starEach es X.env := by with_unfolding_all rfl) (hpl : (backTo pos (starEach es X.env)).any (·.1) = false := by with_unfolding_all rfl)
    (ht : eval (.Call (.Attribute o m apos) (e :: es) [] pos) X.env = (do
      let ov ← eval o X.env
      standAt apos.atName
      let (f, first) ← holding [ov] (getMethod ov m pl)
      callWith pos f first (backTo pos (starEach (e :: es) X.env)) (backToKw pos (keywordEach [] X.env))) := by with_unfolding_all rfl) : WE X (.Call (.Attribute o m apos) (e :: es) [] pos) σ H Q := by
  obtain ⟨p', g, rest, r, fc, rc, kp, F⟩ := F.ex
  refine ⟨fun pins s I => ?_⟩
  refine PySem.W.methodCall_KW (pl := pl) (thn (h.run pins s I) fun u s1 ⟨x, H1, I1, rx, ex, q⟩ => ?_) ht
  subst ex
  obtain rfl : u = Value.ref C := rx
  refine PySem.W.method_cls I1.kIn r.ga (PySem.W.cls_bind I1.kIn r.rd fc ?_)
  refine wpAny_call (PySem.W.sm_get (s := { s1 with toks := s1.toks + 1 }) I1.kIn rc (PySem.W.handed_on rfl ?_))
  have I2 := I1.tok (s1.toks + 1)
  refine PySem.W.callWith_K (first := []) (h₀ := X.base) I.ok.mod.kin kp (thn (q.run pos pins _ I2) fun us s2 ⟨vs, H2, I3, rv, q2⟩ => ⟨I3.kIn, ?_⟩) hst hpl
  exact wpAny_call (run_fnR (us := us) (vs := vs) F (hr.mono hj) hx I3 rv q2)
/-- C.m(), C.m(e, ..), a classmethod: its promise is of the class ahead of the arguments -/
structure CMt (P : Program) (w : World) (K : PySem.W.Frag) (mg : Str → Option Value) (base : Heap) (C : Addr) (m : Str) (k : Nat) (sp : Sp) : Prop where
  ex : ∃ (p g : Addr), ClX.CRead K C (.type "type") ∧ ClX.CMet K C (.type "type") m p g ∧ FnR P w K mg base (L2.CX P w) k g sp
theorem w_cmeth {C : Addr} {k j : Nat} {sp : Sp} {E : XK} {pl : Sem Bool} (F : CMt X.prog X.w X.K X.mg X.base C m k sp) (hr : Room j X.A) (hj : k ≤ j) (hx : Passes (L2.CX X.prog X.w) X E)
    (h : WE X o σ H fun x H1 => x = .ref C ∧ WA X (e :: es) σ H1 fun vs H2 => sp (.ref C :: vs) H2 Q E)
    (hst : starEach (e :: es) X.env = (false, eval e X.env) :: starEach es X.env := by with_unfolding_all rfl) (hpl : (backTo pos (starEach es X.env)).any (·.1) = false := by with_unfolding_all rfl)
    (ht : eval (.Call (.Attribute o m apos) (e :: es) [] pos) X.env = (do
      let ov ← eval o X.env
      standAt apos.atName
      let (f, first) ← holding [ov] (getMethod ov m pl)
      callWith pos f first (backTo pos (starEach (e :: es) X.env)) (backToKw pos (keywordEach [] X.env))) := by with_unfolding_all rfl) : WE X (.Call (.Attribute o m apos) (e :: es) [] pos) σ H Q := by
  obtain ⟨p', g, r, c, F⟩ := F.ex
  exact (ClX.pe_cmeth pe_w r c F (hr.mono hj) hx pa_w hst hpl ht).w h
theorem w_cmeth0 {C : Addr} {k j : Nat} {sp : Sp} {E : XK} {pl : Sem Bool} (F : CMt X.prog X.w X.K X.mg X.base C m k sp) (hr : Room j X.A) (hj : k ≤ j) (hx : Passes (L2.CX X.prog X.w) X E)
    (h : WE X o σ H fun x H1 => x = .ref C ∧ sp [.ref C] H1 Q E)
    (ht : eval (.Call (.Attribute o m apos) [] [] pos) X.env = (do
      let ov ← eval o X.env
      standAt apos.atName
      let (f, first) ← holding [ov] (getMethod ov m pl)
      callWith pos f first (backTo pos (starEach [] X.env)) (backToKw pos (keywordEach [] X.env))) := by with_unfolding_all rfl) : WE X (.Call (.Attribute o m apos) [] [] pos) σ H Q := by
  obtain ⟨p', g, r, c, F⟩ := F.ex
  refine ⟨fun pins s I => ?_⟩
  refine PySem.W.methodCall_KW (pl := pl) (thn (h.run pins s I) fun u s1 ⟨x, H1, I1, rx, ex, q⟩ => ?_) ht
  subst ex
  obtain rfl : u = Value.ref C := rx
  refine ClX.getmethcm_ok I1 r c fun s2 I2 => ?_
  have hq := ClX.pin_at I2
  refine PySem.W.callWith_M0 (first := []) ⟨hq, I2.kIn⟩ c.fi ?_
  exact ClX.run_cm (us := []) (vs := []) F (hr.mono hj) hx I2 .nil q
end
end Sv

namespace Sv
open PySem PySem.Spec PyProof.Rows L2

/-! ### == and != by an own __eq__ -/
/-- the class at C has __eq__ at f and no __ne__ -/
structure EqC (K : PySem.W.Frag) (C f : Addr) : Prop where
  eq : PySem.W.findIn K (.ref C) "__eq__" = some (some (.ref f))
  fn : PySem.W.isFn K (.ref f) = true
  ne : ∃ (nm q : Str) (N : Addr) (bs : List Value) (hdct : Bool) (sn : List Str) (sub : List Value) (ab : Bool) (col : Option Bool) (dd : Option Addr) (k0 k1 k2 k3 k5 : Option Value) (newId : String) (oN : Obj) (es : Array DictEntry) (ep : Nat) (of : Obj),
    K.lookup C = some (excClassObj nm q C N bs [.type "object"] hdct sn sub ab col dd k0 k1 k2 k3 k5 newId) ∧ K.lookup N = some oN ∧ oN.data = .dict es ep ∧ StrKeys es ∧ nsFind es "__eq__" = some (.ref f) ∧ nsFind es "__ne__" = none ∧
    K.lookup f = some of ∧ of.cls = .type "function"
/-- the promise of that __eq__, of two instances -/
structure EqM (P : Program) (w : World) (K : PySem.W.Frag) (mg : Str → Option Value) (base : Heap) (C : Addr) (k : Nat) (sp : Sp) : Prop where
  ex : ∃ f, EqC K C f ∧ FnR P w K mg base (L2.CX P w) k f sp
theorem bl_of {v : V} {u : Value} (r : RelV v u) {b : Bool} (e : v = .bl b) : u = .bool b := by
  subst e
  exact r
section
variable {X : Cx} {σ : L2.St} {H : Hp} {Q : VK} {a b C dx dy : Addr} {fs gs : List (Str × V)} {k j : Nat} {sp : Sp}
theorem b_eqO (F : EqM X.prog X.w X.K X.mg X.base C k sp) (hr : Room j X.A) (hj : k + 1 ≤ j) (ha : H a = some (.ins C dx fs)) (hb : H b = some (.ins C dy gs)) (q : sp [.ref a, .ref b] H (fun v H' => ∃ r, v = .bl r ∧ Q (.bl r) H') E0) :
    WB X (compareOp .Eq) (.ref a) (.ref b) σ H Q := by
  obtain ⟨f, c, F⟩ := F.ex
  refine ⟨fun pins s v u I rx ry => ?_⟩
  cases rx
  cases ry
  obtain ⟨mA, O, _⟩ := ins_get I.hok ha
  obtain ⟨mB, O', _⟩ := ins_get I.hok hb
  obtain ⟨od, J, _⟩ := O.look
  obtain ⟨od', J', _⟩ := O'.look
  obtain ⟨m, hF⟩ := I.fr
  refine PySem.W.cmp_K (op := .Eq) (tb := .ref C) hr.units0 hF I.ok.mod.kin J J'.type (by simp [PySem.W.notFirst]) c.eq c.fn ?_
  refine wpAny_mono (wpAny_call (run_fnR (us := [.ref a, .ref b]) (vs := [.ref a, .ref b]) F (hr.mono (by omega)) passL I (.cons rfl (.cons rfl .nil)) q)) (fun w s' z => ?_) fun _ _ x => x
  obtain ⟨z', H', I', rz, r, ez, qz⟩ := z
  subst ez
  cases rz
  exact ⟨.bl r, H', I', rfl, qz⟩
theorem b_neO (F : EqM X.prog X.w X.K X.mg X.base C k sp) (hr : Room j X.A) (hj : k + 1 ≤ j) (ha : H a = some (.ins C dx fs)) (hb : H b = some (.ins C dy gs)) (q : sp [.ref a, .ref b] H (fun v H' => ∃ r, v = .bl r ∧ Q (.bl (!r)) H') E0) :
    WB X (compareOp .NotEq) (.ref a) (.ref b) σ H Q := by
  obtain ⟨f, c, F⟩ := F.ex
  refine ⟨fun pins s v u I rx ry => ?_⟩
  cases rx
  cases ry
  obtain ⟨mA, O, _⟩ := ins_get I.hok ha
  obtain ⟨mB, O', _⟩ := ins_get I.hok hb
  obtain ⟨nm, qn, N, bs, hdct, sn, sub, ab, col, dd, k0, k1, k2, k3, k5, newId, oN, es, ep, of, lC, lN, dN, hk, he, hne, lf, cf⟩ := c.ne
  have X1 := I.kIn
  have own : s.heap.OwnEqNoNe a C f "object" [.type "object"] := ⟨_, of, nm, qn, N, bs, hdct, sn, sub, ab, col, dd, k0, k1, k2, k3, k5, newId, fun z => nsFind es z, some (.builtin "object.__eq__"), O.obj, rfl, X1 _ _ lC, ⟨oN, es, ep, X1 _ _ lN, dN, hk, fun _ => rfl⟩, he, X1 _ _ lf, cf, PySem.F.cmp_object.mro, PySem.F.cmp_object.eq.lookup, hne⟩
  have hr1 : Room k X.A.in1 := (hr.mono hj).in1
  have hu : X.A.units + 1 < cLine := by have := hr.un; omega
  refine compareOp_ne_ownEq PySem.F.cmp_object own O'.obj rfl hu ?_
  refine wpAny_mono (wpAny_call (codeAny_mono (F X.A.in1 X.stack s H [.ref a, .ref b] [.ref a, .ref b] _ E0 hr1 I.env0.in1 (.cons rfl (.cons rfl .nil)) q) fun r s' hq => ?_)) (fun v s' z => z) fun _ _ x => x
  cases r with
  | error er => exact False.elim (passL (X := X.nox) pins σ H s er s' (I.wish _) hq)
  | ok fl =>
    cases fl with
    | ret u =>
      obtain ⟨v, H', I3, rv, r, ev, q3⟩ := I.after hq
      subst ev
      cases rv
      exact ⟨r, rfl, .bl (!r), H', I3, rfl, q3⟩
    | next => exact False.elim hq
    | brk => exact False.elim hq
    | cont => exact False.elim hq
end

/-! ### methods of built-in values -/
section
variable {X : Cx} {o e : Expr} {es : List Expr} {σ : L2.St} {H : Hp} {Q : VK} {apos pos : Pos}
/-- xs.append(e) -/
theorem w_append (h : WE X o σ H fun x H1 => ∃ l, x = .ref l ∧ (∃ xs, SqL X.K H1 l xs) ∧ WE X e σ H1 fun y H2 => ∃ xs, H2 l = some (.lst xs) ∧ xs.length < sizeLine ∧ Q .non (upd H2 l (.lst (xs ++ [y]))))
    (hbase : attributeBase o "append" X.env (eval o X.env) = eval o X.env := by with_unfolding_all rfl)
    (hfew : ((backTo pos (starEach [e] X.env)).all (fun x => !x.1) && (backToKw pos (keywordEach [] X.env)).all (fun x => x.1.isSome)
      && decide ([e].length + ([] : List Keyword).length + (if ([] : List Keyword).isEmpty then 0 else 1) < 30)) = true := by with_unfolding_all rfl)
    (hline : (apos.endLine == pos.line) = true := by with_unfolding_all rfl) (hs : starEach [e] X.env = (false, eval e X.env) :: starEach [] X.env := by with_unfolding_all rfl) : WE X (.Call (.Attribute o "append" apos) [e] [] pos) σ H Q := by
  refine (pe_bm PySem.F.plainAttrs_list PySem.F.slot_list_append PySem.F.type_list_append mt_append pe_w (pa_cons pe_w pa_nil hs) hbase hfew hline hs rfl).w ?_
  exact WE.imp h fun x H1 ⟨l, e1, ⟨xs, hx⟩, q⟩ => ⟨by rw [e1]; exact Or.inl ⟨rfl, xs, hx⟩, WE.imp q fun y H2 ⟨xs, h2, hz, q⟩ => ⟨l, xs, y, e1, rfl, h2, hz, q⟩⟩
/-- sep.join(xs) of a list of texts -/
theorem w_join (h : WE X o σ H fun x H1 => ∃ a, x = .str a ∧ WE X e σ H1 fun y H2 => ∃ p, ∃ ys : List Str, y = .ref p ∧ (SqL X.K H2 p (ys.map V.str) ∨ SqT X.K H2 p (ys.map V.str)) ∧ (ys.map fun x => x.length).sum + ys.length * a.length ≤ 16777216 ∧ Q (.str (Txt.join a ys)) H2)
    (hs : starEach [e] X.env = [(false, eval e X.env)] := by with_unfolding_all rfl) (hbase : attributeBase o "join" X.env (eval o X.env) = eval o X.env := by with_unfolding_all rfl) (hline : (apos.endLine == pos.line) = true := by with_unfolding_all rfl) : WE X (.Call (.Attribute o "join" apos) [e] [] pos) σ H Q :=
  (pe_join pe_w pe_w hs hbase hline).w (WE.imp h fun x H1 ⟨a, e1, q⟩ => ⟨⟨a, e1⟩, WE.imp q fun y H2 ⟨p, ys, e2, h2, hz, q⟩ => ⟨a, p, ys, e1, by rw [e2], h2, hz, q⟩⟩)
/-- s.count(t) -/
theorem w_count (h : WE X o σ H fun x H1 => ∃ a, x = .str a ∧ WE X e σ H1 fun y H2 => ∃ b, y = .str b ∧ Q (.int (Txt.count a b)) H2)
    (hs : starEach [e] X.env = [(false, eval e X.env)] := by with_unfolding_all rfl) (hbase : attributeBase o "count" X.env (eval o X.env) = eval o X.env := by with_unfolding_all rfl) (hline : (apos.endLine == pos.line) = true := by with_unfolding_all rfl) : WE X (.Call (.Attribute o "count" apos) [e] [] pos) σ H Q :=
  (pe_m1 PySem.F.slot_str_count PySem.F.type_str_count mt_count pe_w pe_w hs hbase hline).w (WE.imp h fun x H1 ⟨a, e1, q⟩ => ⟨⟨a, e1⟩, WE.imp q fun y H2 ⟨b, e2, q⟩ => ⟨a, b, e1, by rw [e2], q⟩⟩)
end

/-! ### a def's names -/
def visB (sc : Scope) (x : Str) : Bool := match sc.names.lookup x with
  | some .local | some .cell | some .free => true
  | _ => false
def locB (sc : Scope) (x : Str) : Bool := match sc.names.lookup x with
  | some .local | some .cell => true
  | _ => false
def gloB (sc : Scope) (x : Str) : Bool := match sc.names.lookup x with
  | some .globalImplicit => true
  | _ => false
theorem visB_ok {sc : Scope} {x : Str} (h : visB sc x = true) : Vis sc x := by
  unfold visB at h
  split at h
  · exact .inl (by assumption)
  · exact .inr (.inl (by assumption))
  · exact .inr (.inr (by assumption))
  · cases h
theorem locB_ok {sc : Scope} {x : Str} (h : locB sc x = true) : Loc sc x := by
  unfold locB at h
  split at h
  · exact .inl (by assumption)
  · exact .inr (by assumption)
  · cases h
theorem gloB_ok {sc : Scope} {x : Str} (h : gloB sc x = true) : sc.names.lookup x = some .globalImplicit := by
  unfold gloB at h
  split at h
  · assumption
  · cases h
/-- names: N all slots (the parameters ps first), L the def's own, G the module's, B the built-in ones -/
def scB (N ps L G B : List Str) (sc : Scope) : Bool :=
  (match sc.kind with | .function => true | _ => false) && !sc.isCoroutine && !sc.isGenerator && decide N.Nodup && decide (N.take ps.length = ps) && ps.all (locB sc) && (sc.names.all fun y => match y.2 with | .free => false | _ => true) &&
  (L.all fun x => locB sc x && !(x == ("__debug__" : Str)) && !(x == ("__classdict__" : Str))) && (G.all fun x => gloB sc x && !(x == ("__debug__" : Str)) && decide (x ≠ "__name__")) && (B.all fun x => gloB sc x && !(x == ("__debug__" : Str)) && decide (x ≠ "__name__"))
theorem scB_ok {N ps L G B : List Str} {sc : Scope} (h : scB N ps L G B sc = true) : FnScope N ps sc ∧ (∀ x ∈ L, Loc sc x ∧ (x == ("__debug__" : Str)) = false ∧ (x == ("__classdict__" : Str)) = false) ∧
    (∀ x ∈ G, sc.names.lookup x = some .globalImplicit ∧ (x == ("__debug__" : Str)) = false ∧ x ≠ "__name__") ∧ (∀ x ∈ B, sc.names.lookup x = some .globalImplicit ∧ (x == ("__debug__" : Str)) = false ∧ x ≠ "__name__") := by
  unfold scB at h
  simp only [Bool.and_eq_true, List.all_eq_true, decide_eq_true_eq, Bool.not_eq_true'] at h
  obtain ⟨⟨⟨⟨⟨⟨⟨⟨⟨h1, h2⟩, h3⟩, h4⟩, h5⟩, h6⟩, h7⟩, h8⟩, h9⟩, h10⟩ := h
  refine ⟨⟨?_, h2, h3, h4, h5, fun x hx => locB_ok (h6 x hx), fun y hy e => ?_⟩, fun x hx => ⟨locB_ok (h8 x hx).1.1, (h8 x hx).1.2, (h8 x hx).2⟩, fun x hx => ⟨gloB_ok (h9 x hx).1.1, (h9 x hx).1.2, (h9 x hx).2⟩, fun x hx => ⟨gloB_ok (h10 x hx).1.1, (h10 x hx).1.2, (h10 x hx).2⟩⟩
  · split at h1
    · assumption
    · cases h1
  · have := h7 y hy
    rw [e] at this
    cases this
theorem nm_of {CX : CXT} {P : Program} {w : World} {K : PySem.W.Frag} {mg : Str → Option Value} {base : Heap} {N ps L G B : List Str} {qual : Str} {sc : Scope} {f : Addr} {cd : Value} {A : Around} {outer : List Env} {s : Shared} {H : Hp} {E : XK} (h : scB N ps L G B sc = true) (hb : ∀ x ∈ B, mg x = none) :
    Nm (cxOf CX P w K mg base N qual sc f cd A outer s H E) N L L G B := by
  obtain ⟨F, hL, hG, hB⟩ := scB_ok h
  exact ⟨rfl, F.nd, fun x hx => ⟨by rcases (hL x hx).1 with z | z; exact .inl z; exact .inr (.inl z), (hL x hx).2⟩, fun x hx => ⟨(hL x hx).1, .inl rfl⟩, hG, hb, hB, rfl⟩
theorem nm_nox {X : Cx} {N L S G B : List Str} (c : Nm X N L S G B) : Nm X.nox N L S G B := ⟨c.names, c.nd, c.vis, c.sto, c.glo, c.blt, c.bgl, c.calm⟩
/-- .. of a block: L the visible ones, S its own -/
def bkB (sc scope : Scope) (L S G B : List Str) : Bool :=
  (L.all fun x => visB (relS scope sc) x && !(x == ("__debug__" : Str)) && !(x == ("__classdict__" : Str))) && (S.all fun x => locB (relS scope sc) x && (match (relS scope sc).names.lookup x, scope.names.lookup x with | some .local, _ => true | _, some .cell => true | _, _ => false)) &&
  (G.all fun x => gloB (relS scope sc) x && !(x == ("__debug__" : Str)) && decide (x ≠ "__name__")) && (B.all fun x => gloB (relS scope sc) x && !(x == ("__debug__" : Str)) && decide (x ≠ "__name__"))
theorem nm_blk {X X' : Cx} {N L S G B L' S' G' B' : List Str} {scope : Scope} (b : Blk X scope X') (c : Nm X N L S G B) (h : bkB X.env.scope scope L' S' G' B' = true) (hb : ∀ x ∈ B', X.mg x = none) : Nm X' N L' S' G' B' := by
  obtain ⟨s, H, C, cl, fp, rfl⟩ := b
  unfold bkB at h
  simp only [Bool.and_eq_true, List.all_eq_true, decide_eq_true_eq, Bool.not_eq_true'] at h
  obtain ⟨⟨⟨h8, h6⟩, h9⟩, h10⟩ := h
  refine ⟨c.names, c.nd, fun x hx => ⟨visB_ok (h8 x hx).1.1, (h8 x hx).1.2, (h8 x hx).2⟩, fun x hx => ⟨locB_ok (h6 x hx).1, ?_⟩, fun x hx => ⟨gloB_ok (h9 x hx).1.1, (h9 x hx).1.2, (h9 x hx).2⟩, hb, fun x hx => ⟨gloB_ok (h10 x hx).1.1, (h10 x hx).1.2, (h10 x hx).2⟩, c.calm⟩
  have z := (h6 x hx).2
  split at z
  · exact .inr (by assumption)
  · refine .inl ?_
    show (scope.names.lookup x == some .cell) = true
    simp [*]
  · cases z

/-! ### what the top has written: defs by where they stand, facts as Bools -/
open He in
structure DefY where
  at_ : PySem.W.Frag → Addr
  name : Str
  qual : Str
  params : Arguments
  body : List Stmt
  scope : Scope
  dfl : List Dv := []
  cells : List Str := []
open He in
def fnY (K : PySem.W.Frag) (a : Addr) : FnW := match K.lookup a with
  | some ⟨_, _, .func fd, _⟩ => some (fd.name, fd.qualname, fd.params, fd.body, fd.scope, fd.globals, fd.closure.map fun p => (p.1, 0), fd.builtins)
  | _ => none
open He in
def DefY.val (d : DefY) : FnW := some (d.name, d.qual, d.params, .stmts d.body, d.scope, mainGlobals, d.cells.map fun x => (x, 0), builtinsNs)
open He in
def DefY.ok (K : PySem.W.Frag) (d : DefY) : Bool := PySem.W.keepIn K (.ref (d.at_ K)) && (match K.lookup (d.at_ K) with
  | some ⟨_, _, .func fd, _⟩ => PySem.W.codeIn K fd.code d.qual && dflB K fd.defaults (d.dfl.map (Dv.v K))
  | _ => false)
open He in
theorem DefY.funD {K : PySem.W.Frag} {d : DefY} (hcl : d.cells = []) (e : fnY K (d.at_ K) = d.val) (c : d.ok K = true) : ∃ fd, FunD K d.name d.qual d.params d.body d.scope (d.dfl.map (Dv.v K)) [] (d.at_ K) fd := by
  obtain ⟨kp, c2⟩ := ba c
  unfold fnY at e
  cases q : K.lookup (d.at_ K) with
  | none =>
    rw [q] at c2
    cases c2
  | some o =>
    obtain ⟨oc, od, dt, osl⟩ := o
    rw [q] at c2 e
    cases dt with
    | func fd =>
      obtain ⟨n1, n2, n3, n4, n5, n6, n7, n8, n9, n10, n11, n12, n13, n14, n15⟩ := fd
      have e2 : (some (n1, n2, n3, n4, n5, n6, n7.map (fun p => (p.1, 0)), n15) : FnW) = some (d.name, d.qual, d.params, .stmts d.body, d.scope, mainGlobals, d.cells.map (fun x => (x, 0)), builtinsNs) := e
      rw [hcl] at e2
      simp only [Option.some.injEq, Prod.mk.injEq, List.map_nil, List.map_eq_nil_iff] at e2
      obtain ⟨h1, h2, h3, h4, h5, h6, h7, h8⟩ := e2
      subst h1 h2 h3 h4 h5 h6 h7 h8
      have c3 : (PySem.W.codeIn K n13 d.qual && dflB K n8 (d.dfl.map (Dv.v K))) = true := c2
      obtain ⟨k1, k2⟩ := ba c3
      exact ⟨_, ⟨oc, od, n8, n9, n10, n11, n12, n13, n14, osl, rfl, q, k1, dflB_ok k2, .inl rfl⟩, kp⟩
    | _ => cases c2
open He in
abbrev AlY : Type := Bool × List FnW
open He in
def obsY (fs : List (PySem.W.Frag → Bool)) (fn : List DefY) (K : PySem.W.Frag) : AlY := ((fs.all fun f => f K) && fn.all fun d => d.ok K, fn.map fun d => fnY K (d.at_ K))
open He in
def valY (fn : List DefY) : AlY := (true, fn.map DefY.val)
def SaysY (fs : List (PySem.W.Frag → Bool)) (fn : List DefY) (K : PySem.W.Frag) : Prop := obsY fs fn K = valY fn
open He in
def obsYG (n : Nat) (fs : List (PySem.W.Frag → Bool)) (fn : List DefY) (g : Addr → Option Obj) : AlY := obsY fs fn (frG g (PySem.sysModules :: PySem.cStatics :: asD g n))
open He in
def hookY (n : Nat) (fs : List (PySem.W.Frag → Bool)) (fn : List DefY) : PySem.W.Hook where
  α := AlY
  obs := fun s => obsYG n fs fn s.heap.get?
  val := fun _ => valY fn
  says := fun _ h => ∃ K : PySem.W.Frag, K.In h ∧ SaysY fs fn K
  of := fun _ _ e => ⟨_, frG_in, e⟩
  keeps := fun _ _ _ ⟨K, hK, c⟩ k => ⟨K, PySem.W.Frag.In.keeps hK k, c⟩
theorem obsYG_eq {n : Nat} {fs : List (PySem.W.Frag → Bool)} {fn : List DefY} {g : Addr → Option Obj} {s : Shared} (h : ∀ a, g a = s.heap.get? a) : obsYG n fs fn g = (hookY n fs fn).obs s := by
  have e : g = s.heap.get? := funext h
  rw [e] <;> rfl
section
variable {fs : List (PySem.W.Frag → Bool)} {fn : List DefY} {K : PySem.W.Frag}
open He in
theorem SaysY.fact (c : SaysY fs fn K) (i : Nat) {f : PySem.W.Frag → Bool} (h : fs[i]? = some f := by with_unfolding_all rfl) : f K = true := by
  have c1 := (ba (show ((fs.all fun f => f K) && fn.all fun d => d.ok K) = true from congrArg (fun z : AlY => z.1) c)).1
  exact List.all_eq_true.mp c1 f (List.mem_of_getElem? h)
open He in
theorem SaysY.mem (c : SaysY fs fn K) {f : PySem.W.Frag → Bool} (h : f ∈ fs) : f K = true := by
  have c1 := (ba (show ((fs.all fun f => f K) && fn.all fun d => d.ok K) = true from congrArg (fun z : AlY => z.1) c)).1
  exact List.all_eq_true.mp c1 f h
open He in
theorem SaysY.def_ (c : SaysY fs fn K) (i : Nat) {d : DefY} (h : fn[i]? = some d := by with_unfolding_all rfl) (hcl : d.cells = [] := by rfl) : ∃ fd, FunD K d.name d.qual d.params d.body d.scope (d.dfl.map (Dv.v K)) [] (d.at_ K) fd := by
  have c2 := (ba (show ((fs.all fun f => f K) && fn.all fun d => d.ok K) = true from congrArg (fun z : AlY => z.1) c)).2
  have e : fn.map (fun d => fnY K (d.at_ K)) = fn.map DefY.val := congrArg (fun z : AlY => z.2) c
  have e2 : (fn.map fun d => fnY K (d.at_ K))[i]? = (fn.map DefY.val)[i]? := by rw [e]
  rw [List.getElem?_map, List.getElem?_map, h] at e2
  exact DefY.funD hcl (Option.some.inj e2) (List.all_eq_true.mp c2 d (List.mem_of_getElem? h))
end

section
variable {fs : List (PySem.W.Frag → Bool)} {fn : List DefY} {K : PySem.W.Frag}
open He in
theorem SaysY.defR (c : SaysY fs fn K) (i : Nat) {d : DefY} (h : fn[i]? = some d := by with_unfolding_all rfl) : fnY K (d.at_ K) = d.val ∧ d.ok K = true := by
  have c2 := (ba (show ((fs.all fun f => f K) && fn.all fun d => d.ok K) = true from congrArg (fun z : AlY => z.1) c)).2
  have e : fn.map (fun d => fnY K (d.at_ K)) = fn.map DefY.val := congrArg (fun z : AlY => z.2) c
  have e2 : (fn.map fun d => fnY K (d.at_ K))[i]? = (fn.map DefY.val)[i]? := by rw [e]
  rw [List.getElem?_map, List.getElem?_map, h] at e2
  exact ⟨Option.some.inj e2, List.all_eq_true.mp c2 d (List.mem_of_getElem? h)⟩
end

/-! ### facts of classes -/
open He in
/-- what a record of that kind (property, staticmethod, classmethod) at a class's name holds -/
def rcA (kind : String) (C m : Str) (K : PySem.W.Frag) : Addr := match PySem.W.recIn K (ma K (ga K C) m) kind with
  | some (.ref g :: _) => g
  | _ => 0
theorem rcA_ok {kind : String} {C m : Str} {K : PySem.W.Frag} (h : (match PySem.W.recIn K (He.ma K (He.ga K C) m) kind with | some (.ref _ :: _) => true | _ => false) = true) : ∃ rest, PySem.W.recIn K (He.ma K (He.ga K C) m) kind = some (.ref (rcA kind C m K) :: rest) := by
  unfold rcA
  split at h
  · rename_i g r q
    rw [q]
    exact ⟨r, rfl⟩
  · cases h
open He in
def propB (C f : Str) (K : PySem.W.Frag) : Bool := eqO (PySem.W.findIn K (.ref (ga K C)) f) (some (some (.ref (ma K (ga K C) f)))) && eqO (PySem.W.specialIn K (.ref (ma K (ga K C) f)) "__get__") (some (some (.builtin "property.__get__"))) &&
  decide (PySem.W.takesIn K (.ref (ma K (ga K C) f)) = some true) && (match PySem.W.recIn K (ma K (ga K C) f) "property" with | some (.ref _ :: _) => true | _ => false)
open He in
theorem propB_ok {C f : Str} {K : PySem.W.Frag} (h : propB C f K = true) : PropOf K (ga K C) f (ma K (ga K C) f) (rcA "property" C f K) := by
  obtain ⟨h1, h4⟩ := ba h
  obtain ⟨h1, h3⟩ := ba h1
  obtain ⟨h1, h2⟩ := ba h1
  exact ⟨eqO_ok h1, eqO_ok h2, of_decide_eq_true h3, rcA_ok h4⟩
open He in
def creadB (C : Str) (K : PySem.W.Frag) : Bool := PySem.W.readsIn K (ga K C) (.type "type") && eqO (PySem.W.specialIn K (.ref (ga K C)) "__getattribute__") (some (some (.builtin "type.__getattribute__")))
open He in
theorem creadB_ok {C : Str} {K : PySem.W.Frag} (h : creadB C K = true) : ClX.CRead K (ga K C) (.type "type") := by
  obtain ⟨h1, h2⟩ := ba h
  exact ⟨h1, eqO_ok h2⟩
open He in
def cvalB (C f : Str) (v : Dv) (K : PySem.W.Frag) : Bool := match PySem.W.findCls K (.ref (ga K C)) (.type "type") f with
  | some (.val u) => relB (v.v K) u
  | _ => false
open He in
theorem cvalB_ok {C f : Str} {v : Dv} {K : PySem.W.Frag} (h : cvalB C f v K = true) : ∃ u, ClX.CVal K (ga K C) (.type "type") f (v.v K) u := by
  unfold cvalB at h
  split at h
  · rename_i u q
    exact ⟨u, q, relB_ok h⟩
  · cases h
open He in
def getB (C m : Str) (kind : String) (g : String) (K : PySem.W.Frag) : Bool := (match PySem.W.findCls K (.ref (ga K C)) (.type "type") m with
  | some (.get (.builtin g') (.ref p) .none (.ref c)) => decide (g' = g) && decide (p = ma K (ga K C) m) && decide (c = ga K C)
  | _ => false) && (match PySem.W.recIn K (ma K (ga K C) m) kind with | some (.ref _ :: _) => true | _ => false)
open He in
theorem getB_ok {C m : Str} {kind g : String} {K : PySem.W.Frag} (h : getB C m kind g K = true) :
    PySem.W.findCls K (.ref (ga K C)) (.type "type") m = some (.get (.builtin g) (.ref (ma K (ga K C) m)) .none (.ref (ga K C))) ∧ ∃ rest, PySem.W.recIn K (ma K (ga K C) m) kind = some (.ref (rcA kind C m K) :: rest) := by
  obtain ⟨h1, h2⟩ := ba h
  refine ⟨?_, rcA_ok h2⟩
  split at h1
  · rename_i g' p c q
    obtain ⟨h1, e3⟩ := ba h1
    obtain ⟨e1, e2⟩ := ba h1
    rw [q, of_decide_eq_true e1, of_decide_eq_true e2, of_decide_eq_true e3]
  · cases h1
open He in
def fnInB (a : PySem.W.Frag → Addr) (K : PySem.W.Frag) : Bool := PySem.W.fnIn K (a K)
open He in
def keepB (a : PySem.W.Frag → Addr) (K : PySem.W.Frag) : Bool := PySem.W.keepIn K (.ref (a K))
open He in
/-- an instance of C, asked for its class -/
def tyB (C : Str) (K : PySem.W.Frag) : Bool := eqO (PySem.W.findIn K (.ref (ga K C)) "__class__") (some (some (.builtin "object.__class__"))) && eqO (PySem.W.specialIn K (.builtin "object.__class__") "__get__") (some (some (.builtin "getset_descriptor.__get__"))) &&
  decide (PySem.W.takesIn K (.builtin "object.__class__") = some true) && decide (PySem.W.mroIn K (ga K C) (.type "object") = some true)
open He in
theorem tyB_ok {C : Str} {K : PySem.W.Frag} (h : tyB C K = true) (cl : Cls K (ga K C)) {H : Hp} {a dx : Addr} {fs : List (Str × V)} (e : H a = some (.ins (ga K C) dx fs)) : TyX K H (.ref a) (.ref (ga K C)) := by
  obtain ⟨h1, h4⟩ := ba h
  obtain ⟨h1, h3⟩ := ba h1
  obtain ⟨h1, h2⟩ := ba h1
  exact .base (.ins e cl (eqO_ok h1) (eqO_ok h2) (of_decide_eq_true h3) (of_decide_eq_true h4))
open He in
/-- isinstance of what has the type t, by the class of the text -/
def kitC (t : PySem.W.Frag → Value) (C : Str) (b : Bool) (K : PySem.W.Frag) : Bool := decide (PySem.W.kitOne K (t K) (.ref (ga K C)) = some b)
open He in
def eqcB (C : Str) (K : PySem.W.Frag) : Bool := eqO (PySem.W.findIn K (.ref (ga K C)) "__eq__") (some (some (.ref (ma K (ga K C) "__eq__")))) && PySem.W.isFn K (.ref (ma K (ga K C) "__eq__")) && (match K.lookup (ga K C) with
  | some ⟨.type t, _, .cls cd, sl⟩ => (match sl.toList with | [_, _, _, _, some (.builtin _), _] => true | _ => false) && decide (t = "type") && decide (cd.mro = [.ref (ga K C), .type "object"]) && !cd.hasDel && (match K.lookup cd.ns with
    | some ⟨_, _, .dict es _, _⟩ => (es.toList.all fun e => match e.key with | .str _ _ => true | _ => false) && decide (nsFind es "__eq__" = some (.ref (ma K (ga K C) "__eq__"))) && decide (nsFind es "__ne__" = none)
    | _ => false)
  | _ => false) && (match K.lookup (ma K (ga K C) "__eq__") with
  | some ⟨.type t, _, _, _⟩ => decide (t = "function")
  | _ => false)
open He in
theorem eqcB_ok {C : Str} {K : PySem.W.Frag} (h : eqcB C K = true) : EqC K (ga K C) (ma K (ga K C) "__eq__") := by
  obtain ⟨h, h4⟩ := ba h
  obtain ⟨h, h3⟩ := ba h
  obtain ⟨h1, h2⟩ := ba h
  refine ⟨eqO_ok h1, h2, ?_⟩
  split at h3
  · rename_i t dd cd sl q
    obtain ⟨h3, h8⟩ := ba h3
    obtain ⟨h3, h7⟩ := ba h3
    obtain ⟨h3, h6⟩ := ba h3
    obtain ⟨h12, h5⟩ := ba h3
    obtain ⟨sl⟩ := sl
    split at h12
    case h_2 => cases h12
    rename_i k0 k1 k2 k3 nid k5 es
    have es' : sl = [k0, k1, k2, k3, some (.builtin nid), k5] := es
    subst es'
    split at h8
    · rename_i oc od es ep osl qn
      obtain ⟨h8, h11⟩ := ba h8
      obtain ⟨h9, h10⟩ := ba h8
      split at h4
      · rename_i t' od' dt' sl' qf
        refine ⟨cd.name, cd.qualname, cd.ns, cd.bases, cd.hasDict, cd.slotNames, cd.subclasses, cd.abstract, cd.collection, dd, k0, k1, k2, k3, k5, nid, _, es, ep, _, ?_, qn, rfl, ?_, of_decide_eq_true h10, of_decide_eq_true h11, qf, ?_⟩
        · rw [q]
          obtain ⟨n1, n2, n3, n4, n5, n6, n7, n8, n9, n10, n11⟩ := cd
          have e1 : n3 = [.ref (ga K C), .type "object"] := of_decide_eq_true h6
          have e2 : n11 = false := by
            have z : (!n11) = true := h7
            simpa using z
          have e3 : t = "type" := of_decide_eq_true h5
          subst e1 e2 e3
          rfl
        · intro e he
          have z := List.all_eq_true.mp h9 e (Array.mem_toList_iff.mpr he)
          split at z
          · rename_i n tk qk
            exact ⟨n, tk, qk⟩
          · cases z
        · exact congrArg Value.type (of_decide_eq_true h4)
      · cases h4
    · cases h8
  · cases h3
end Sv

namespace Sv
open PySem PySem.Spec PyProof.Rows L2

/-- the context of a def's body -/
abbrev cx (P : Program) (w : World) (K : PySem.W.Frag) (mg : Str → Option Value) (base : Heap) (N : List Str) (qual : Str) (sc : Scope) (f : Addr) (cd : Value) (A : Around) (outer : List Env) (s : Shared) (H : Hp) (E : XK) : Cx := cxOf (L2.CX P w) P w K mg base N qual sc f cd A outer s H E
section
variable {P : Program} {w : World} {K : PySem.W.Frag} {mg : Str → Option Value} {base : Heap} {N ps L G B : List Str} {k : Nat} {x qual : Str} {params : Arguments} {body : List Stmt} {sc : Scope} {f : Addr} {fd : FuncData} {sp : Sp}
theorem takes_cx {cd : Value} {A : Around} {outer : List Env} {s : Shared} {H : Hp} {E : XK} : Takes (cx P w K mg base N qual sc f cd A outer s H E) (fun cls d _ H' => E cls d H') := takes_of rfl rfl rfl rfl
theorem owns_cx {cd : Value} {A : Around} {outer : List Env} {s : Shared} {H : Hp} {E : XK} : PassesOwn (model P w) (cx P w K mg base N qual sc f cd A outer s H E).A (cx P w K mg base N qual sc f cd A outer s H E).env (cx P w K mg base N qual sc f cd A outer s H E).xe := passes_of (X := cx P w K mg base N qual sc f cd A outer s H E) rfl
/-- THE RULE for a def without defaults -/
theorem fnr_of (F : FunD K x qual params body sc [] [] f fd) (S : scB N ps L G B sc = true) (len : ∀ vs H Q E, sp vs H Q E → vs.length = ps.length)
    (hbind : ∀ (kV doc pm : Value) (an : Option Addr) (cdv ct : Value) (us : List Value), us.length = ps.length → bindArgs (PySem.W.fnOf x qual params body sc .none kV doc pm an cdv ct) ⟨us, []⟩ = pure (ps.zip us))
    (hb : ∀ x ∈ B, mg x = none)
    (hbody : ∀ (cd : Value) (A : Around) (outer : List Env) (s : Shared) (H : Hp) (vs : List V) (Q : VK) (E : XK), Room k (cx P w K mg base N qual sc f cd A outer s H E).A → Nm (cx P w K mg base N qual sc f cd A outer s H E) N L L G B → sp vs H Q E →
      WL (cx P w K mg base N qual sc f cd A outer s H E) body { nx := fun _ H' => Q .non H', rt := Q } (start N vs) H) : FnR P w K mg base (L2.CX P w) (k + 1) f sp := by
  have S' := (scB_ok S).1
  have G := F.ok (P := P) (w := w) (mg := mg) (base := base) (CX := L2.CX P w) (k := k) (sp := sp) S' len fun cdv A outer s H vs Q E hr h => ⟨WL (cx P w K mg base N qual sc f cdv A outer s H E) body, pss_w, hbody cdv A outer s H vs Q E hr (nm_of S hb) h⟩
  have R := G.raw (F.bindsN hbind) (dvs := []) .nil
  exact R.imp fun vs H Q E h => by rw [List.append_nil]; exact h
/-- THE RULE for a def with defaults dvs behind n parameters: the promise is of all parameters; called with n + j of them -/
theorem fnr_ofD {dvs : List V} (F : FunD K x qual params body sc dvs [] f fd) (S : scB N ps L G B sc = true) (len : ∀ vs H Q E, sp vs H Q E → vs.length = ps.length)
    (hb : ∀ x ∈ B, mg x = none)
    (hbody : ∀ (cd : Value) (A : Around) (outer : List Env) (s : Shared) (H : Hp) (vs : List V) (Q : VK) (E : XK), Room k (cx P w K mg base N qual sc f cd A outer s H E).A → Nm (cx P w K mg base N qual sc f cd A outer s H E) N L L G B → sp vs H Q E →
      WL (cx P w K mg base N qual sc f cd A outer s H E) body { nx := fun _ H' => Q .non H', rt := Q } (start N vs) H) : FnOk P w K mg base (L2.CX P w) (k + 1) f fd ps sp :=
  F.ok (P := P) (w := w) (mg := mg) (base := base) (CX := L2.CX P w) (k := k) (sp := sp) (scB_ok S).1 len fun cdv A outer s H vs Q E hr h => ⟨WL (cx P w K mg base N qual sc f cdv A outer s H E) body, pss_w, hbody cdv A outer s H vs Q E hr (nm_of S hb) h⟩
/-- THE RULE for a def with a star parameter -/
theorem fnr_star {pv : Str} (F : FunD K x qual params body sc [] [] f fd) (S : scB N (ps ++ [pv]) L G B sc = true)
    (hbind : ∀ (kV doc pm : Value) (an : Option Addr) (cdv ct : Value) (us rest : List Value), us.length = ps.length → bindArgs (PySem.W.fnOf x qual params body sc .none kV doc pm an cdv ct) ⟨us ++ rest, []⟩ = (newTuple rest >>= fun t => pure (ps.zip us ++ [(pv, t)])))
    (hb : ∀ x ∈ B, mg x = none)
    (hbody : ∀ (cd : Value) (A : Around) (outer : List Env) (s : Shared) (H : Hp) (vs : List V) (Q : VK) (E : XK), Room k (cx P w K mg base N qual sc f cd A outer s H E).A → Nm (cx P w K mg base N qual sc f cd A outer s H E) N L L G B → sp vs H Q E →
      WL (cx P w K mg base N qual sc f cd A outer s H E) body { nx := fun _ H' => Q .non H', rt := Q } (start N vs) H) :
    FnR P w K mg base (L2.CX P w) (k + 1) f (fun vs H Q E => ∃ ws rest, vs = ws ++ rest ∧ ws.length = ps.length ∧ rest.length ≤ sizeLine ∧ ∀ p, H p = Option.none → sp (ws ++ [V.ref p]) (upd H p (.tup rest)) Q E) := by
  obtain ⟨oc, od, dV, kV, doc, pm, an, cdv, ct, osl, rfl, lk, hcd, hD, _⟩ := F.ex
  have eD : dV = .none := by
    rcases hD with ⟨_, e⟩ | ⟨e, _⟩
    · exact e
    · exact absurd rfl e
  subst eD
  exact StX.fn_star lk hcd (scB_ok S).1 StX.cxUp (hbind kV doc pm an cdv ct) fun A outer s H vs Q E hr hsp => ⟨WL (cx P w K mg base N qual sc f cdv A outer s H E) body, pss_w, hbody cdv A outer s H vs Q E hr (nm_of S hb) hsp⟩
end

/-! ### a list of two numbers that are drawn from: what stands there is not told -/
def poolP (p : Addr) (h : Heap) : Prop := ∃ (i j : Int) (t u : Tok) (n : Nat), 0 ≤ i ∧ 0 ≤ j ∧ h.get? p = some { cls := .type "list", data := .seq #[.int i t, .int j u] n }
def pool (p : Addr) : HO := .ext (poolP p)
/-- the same state, told otherwise -/
def Abs (H H' : Hp) : Prop := ∀ (X : Cx) (pins : List (Addr × Obj)) (σ : L2.St) (s : Shared), Inv X pins σ H s → Inv X pins σ H' s
def plainHO : HO → Bool
  | .lst _ => true
  | .ext _ => true
  | _ => false
theorem swap_ho {X : Cx} {pins : List (Addr × Obj)} {σ : L2.St} {H : Hp} {s : Shared} {p : Addr} {o o' : HO} (I : Inv X pins σ H s) (h : H p = some o) (ho : plainHO o = true) (new : ObjOk X.prog X.w (upd H p o') s.heap p o') : Inv X pins σ (upd H p o') s := by
  have ne : ∀ b u, H b = some u → plainHO u = false → b ≠ p := fun b u e z q => by
    rw [q, h] at e
    cases e
    rw [ho] at z
    cases z
  have nn : ∀ b, H b = none → b ≠ p := fun b e q => by
    rw [q, h] at e
    cases e
  refine ⟨I.ok, I.os, I.bare, ⟨I.base.keep, I.base.slot, fun b ob e n hx => ?_, I.base.there, fun b xs e => ?_, fun b ob u e => ?_, fun b ps e => ?_⟩, I.loc, I.cell, ?_, fun x c e => ?_, fun q hq => ?_, fun a u e => ?_, I.len⟩
  · have z := I.base.free b ob e n hx
    rw [upd_ne (nn b z)]; exact z
  · have z := I.base.tups b xs e
    rw [upd_ne (ne b _ z rfl)]; exact z
  · have z := I.base.frzs b ob u e
    rw [upd_ne (ne b _ z rfl)]; exact z
  · obtain ⟨more, z⟩ := I.base.tbls b ps e
    exact ⟨more, by rw [upd_ne (ne b _ z rfl)]; exact z⟩
  · rw [upd_ne (nn _ I.free)]; exact I.free
  · rw [upd_ne (nn _ (I.freeC x c e))]; exact I.freeC x c e
  · obtain ⟨a1, a2, a3, a4, a5⟩ := I.pin q hq
    exact ⟨a1, by rw [upd_ne (nn _ a2)]; exact a2, a3, a4, a5⟩
  · by_cases z : a = p
    · subst z
      rw [upd_same] at e
      cases e
      exact new
    · rw [upd_ne z] at e
      exact (I.hok a u e).stay (fun b ob _ q => q) (fun b q => by rw [upd_ne (ne b _ q rfl)]; exact q) fun b xs q => by rw [upd_ne (ne b _ q rfl)]; exact q
theorem vals_ii {i j : Int} {us : List Value} (r : Vals [V.int i, V.int j] us) : ∃ t u, us = [.int i t, .int j u] := r.int2
theorem pool_abs {H : Hp} {p : Addr} {i j : Int} (h : H p = some (.lst [.int i, .int j])) (hi : 0 ≤ i) (hj : 0 ≤ j) : Abs H (upd H p (pool p)) := fun X pins σ s I => by
  obtain ⟨_, its, n, rv, e⟩ := (show ObjOk X.prog X.w H s.heap p (.lst [.int i, .int j]) from I.hok p _ h)
  obtain ⟨t, u, rfl⟩ := vals_ii rv
  exact swap_ho I h rfl ⟨⟨i, j, t, u, n, hi, hj, e⟩, ⟨_, e⟩, fun h1 h2 ⟨i, j, t, u, n, a, b, e⟩ k => ⟨i, j, t, u, n, a, b, k _ e⟩⟩
theorem pool_open {X : Cx} {pins : List (Addr × Obj)} {σ : L2.St} {H : Hp} {s : Shared} {p : Addr} (I : Inv X pins σ H s) (h : H p = some (pool p)) : ∃ i j, 0 ≤ i ∧ 0 ≤ j ∧ Inv X pins σ (upd H p (.lst [.int i, .int j])) s := by
  obtain ⟨⟨i, j, t, u, n, hi, hj, e⟩, _, _⟩ := (show ObjOk X.prog X.w H s.heap p (pool p) from I.hok p _ h)
  exact ⟨i, j, hi, hj, swap_ho I h rfl ⟨by show 2 ≤ sizeLine; decide, [.int i t, .int j u], n, .cons ⟨_, rfl⟩ (.cons ⟨_, rfl⟩ .nil), e⟩⟩
section
variable {X : Cx} {sts : List Stmt} {e : Expr} {σ : L2.St} {H : Hp} {D : Ends} {Q : VK} {p : Addr}
theorem wl_pool (h : H p = some (pool p)) (q : ∀ i j, 0 ≤ i → 0 ≤ j → WL X sts D σ (upd H p (.lst [.int i, .int j]))) : WL X sts D σ H := ⟨fun pins s I => by
  obtain ⟨i, j, hi, hj, I'⟩ := pool_open I h
  exact (q i j hi hj).run pins s I'⟩
theorem we_abs (h : WE X e σ H fun v H1 => ∃ H2, Abs H1 H2 ∧ Q v H2) : WE X e σ H Q := ⟨fun pins s I => thn (h.run pins s I) fun u s' ⟨v, H1, I1, r, H2, a, q⟩ => ⟨v, H2, a X pins σ s' I1, r, q⟩⟩
theorem wl_abs {H' : Hp} (a : Abs H H') (h : WL X sts D σ H') : WL X sts D σ H := ⟨fun pins s I => h.run pins s (a X pins σ s I)⟩
end
/-- back to what stood: p told as a pool again -/
theorem pool_back {H : Hp} {p : Addr} {o : HO} (h : H p = some (pool p)) : upd (upd H p o) p (pool p) = H := by
  rw [upd_upd]
  funext b
  by_cases z : b = p
  · subst z; rw [upd_same, h]
  · rw [upd_ne z]
end Sv

namespace Sv
open PySem PySem.Spec PyProof.Rows L2

/-! ### patterns as lists of marks -/
def sgn (b : Bool) : Nat := if b then 43 else 45
def sOf (l : List Bool) : Str := ⟨(l.map sgn).toArray⟩
def kp (l : List Bool) (n : Nat) : Bool := l.getD (n % l.length) false
/-- how many below n -/
def ct (f : Nat → Bool) : Nat → Nat
  | 0 => 0
  | n + 1 => ct f n + if f n then 1 else 0
def marks (l : List Bool) : List Nat := (List.range l.length).filter fun i => l.getD i false
def Prim (l : List Bool) : Prop := ∀ d, 0 < d → d < l.length → d ∣ l.length → ¬ ∀ i, kp l (i + d) = kp l i
structure Pat (l : List Bool) : Prop where
  one : 0 < l.length
  most : l.length ≤ 10000
  plus : true ∈ l
structure Good (l : List Bool) : Prop extends Pat l where
  prim : Prim l
theorem sgn_inj {a b : Bool} (h : sgn a = sgn b) : a = b := by
  cases a <;> cases b <;> first | rfl | (exact absurd h (by decide))
theorem sOf_len (l : List Bool) : (sOf l).length = l.length := by
  show ((l.map sgn).toArray).size = l.length
  simp
theorem sOf_list (l : List Bool) : (sOf l).cps.toList = l.map sgn := by
  show ((l.map sgn).toArray).toList = _
  simp
theorem sOf_inj {l m : List Bool} (h : sOf l = sOf m) : l = m := by
  have e : l.map sgn = m.map sgn := by rw [← sOf_list, ← sOf_list, h]
  exact List.map_inj_right (fun _ _ => sgn_inj) |>.mp e
theorem sOf_eq {l m : List Bool} : sOf l = sOf m ↔ l = m := ⟨sOf_inj, fun h => by rw [h]⟩
theorem sOf_app (l m : List Bool) : sOf l ++ sOf m = sOf (l ++ m) := by
  show (⟨(l.map sgn).toArray ++ (m.map sgn).toArray⟩ : Str) = ⟨((l ++ m).map sgn).toArray⟩
  simp
theorem str_ext {x y : Str} (h : x.cps.toList = y.cps.toList) : x = y := by
  obtain ⟨a⟩ := x
  obtain ⟨b⟩ := y
  exact congrArg Str.mk (Array.toList_inj.mp h)
theorem mem_plus {l : List Bool} : (43 ∈ l.map sgn) ↔ true ∈ l := by
  constructor
  · intro h
    obtain ⟨b, hb, e⟩ := List.mem_map.mp h
    cases b with
    | true => exact hb
    | false => exact absurd e (by decide)
  · intro h
    exact List.mem_map.mpr ⟨true, h, rfl⟩
theorem sgn_dec (b : Bool) : decide (sgn b = 43) = b := by cases b <;> rfl

/-! ### periodic predicates -/
/-- d is a period of f -/
def Per (f : Nat → Bool) (d : Nat) : Prop := ∀ i, f (i + d) = f i
theorem Per.mul {f : Nat → Bool} {d : Nat} (h : Per f d) : ∀ q i, f (i + q * d) = f i
  | 0, i => by simp
  | q + 1, i => by rw [Nat.succ_mul, ← Nat.add_assoc, h, h.mul q i]
theorem Per.times {f : Nat → Bool} {d : Nat} (h : Per f d) (q : Nat) : Per f (q * d) := fun i => h.mul q i
theorem Per.dvd {f : Nat → Bool} {d e : Nat} (h : Per f d) (k : d ∣ e) : Per f e := by
  obtain ⟨q, rfl⟩ := k
  rw [Nat.mul_comm]
  exact h.times q
theorem Per.mod {f : Nat → Bool} {d : Nat} (h : Per f d) (i : Nat) : f (i % d) = f i := by
  have := h.mul (i / d) (i % d)
  rw [← this, Nat.mul_comm, Nat.mod_add_div]
theorem Per.sub {f : Nat → Bool} {a b : Nat} (ha : Per f a) (hb : Per f b) (h : b ≤ a) : Per f (a - b) := fun i => by
  have e : i + (a - b) + b = i + a := by omega
  rw [← hb (i + (a - b)), e, ha]
theorem Per.gcd {f : Nat → Bool} {a b : Nat} (ha : Per f a) (hb : Per f b) : Per f (Nat.gcd a b) := by
  induction a, b using Nat.gcd.induction with
  | H0 n => rw [Nat.gcd_zero_left]; exact hb
  | H1 m n _ ih =>
    rw [Nat.gcd_rec]
    refine ih ?_ ha
    intro i
    have e : n % m + n / m * m = n := by rw [Nat.mul_comm]; exact Nat.mod_add_div n m
    rw [← ha.mul (n / m) (i + n % m), Nat.add_assoc, e, hb]
theorem kp_per (l : List Bool) : Per (kp l) l.length := fun i => by
  unfold kp
  rw [Nat.add_mod_right]
theorem kp_lt {l : List Bool} {i : Nat} (h : i < l.length) : kp l i = l[i] := by
  unfold kp
  rw [Nat.mod_eq_of_lt h, List.getD_eq_getElem?_getD, List.getElem?_eq_getElem h]
  rfl
theorem kp_ext {l m : List Bool} (hl : l.length = m.length) (h : ∀ i, i < l.length → kp l i = kp m i) : l = m := by
  apply List.ext_getElem hl
  intro i h1 h2
  rw [← kp_lt h1, ← kp_lt h2, h i h1]
/-- the list of a predicate's first n -/
def lof (f : Nat → Bool) (n : Nat) : List Bool := (List.range n).map f
theorem lof_len (f : Nat → Bool) (n : Nat) : (lof f n).length = n := by simp [lof]
theorem kp_lof {f : Nat → Bool} {n : Nat} (h : Per f n) (h0 : 0 < n) (i : Nat) : kp (lof f n) i = f i := by
  unfold kp
  rw [lof_len, List.getD_eq_getElem?_getD]
  have hi : i % n < n := Nat.mod_lt _ h0
  simp [lof, hi]
  exact h.mod i
theorem lof_kp (l : List Bool) : lof (kp l) l.length = l := by
  apply kp_ext (lof_len _ _)
  intro i h
  by_cases h0 : 0 < l.length
  · exact kp_lof (kp_per l) h0 i
  · rw [lof_len] at h; omega
theorem Good.period {l : List Bool} (g : Good l) {d : Nat} (h0 : 0 < d) (h : Per (kp l) d) : l.length ∣ d := by
  have hg := (kp_per l).gcd h
  have h1 : Nat.gcd l.length d ∣ l.length := Nat.gcd_dvd_left _ _
  have h2 : Nat.gcd l.length d ≤ l.length := Nat.le_of_dvd g.one h1
  have h3 : 0 < Nat.gcd l.length d := Nat.gcd_pos_of_pos_left _ g.one
  by_cases e : Nat.gcd l.length d = l.length
  · rw [← e]; exact Nat.gcd_dvd_right _ _
  · exact absurd hg (g.prim _ h3 (by omega) h1)
theorem Good.uniq {l m : List Bool} (g : Good l) (k : Good m) (h : ∀ n, kp l n = kp m n) : l = m := by
  have e1 : l.length ∣ m.length := g.period k.one (fun i => by rw [h, h]; exact kp_per m i)
  have e2 : m.length ∣ l.length := k.period g.one (fun i => by rw [← h, ← h]; exact kp_per l i)
  exact kp_ext (Nat.dvd_antisymm e1 e2) fun i _ => h i
theorem plus_kp {l : List Bool} (h : true ∈ l) : ∃ i, i < l.length ∧ kp l i = true := by
  obtain ⟨i, hi, e⟩ := List.getElem_of_mem h
  exact ⟨i, hi, by rw [kp_lt hi, e]⟩
theorem kp_plus {l : List Bool} (h0 : 0 < l.length) {i : Nat} (h : kp l i = true) : true ∈ l := by
  have hi : i % l.length < l.length := Nat.mod_lt _ h0
  have e : kp l (i % l.length) = true := by rw [(kp_per l).mod]; exact h
  rw [kp_lt hi] at e
  rw [← e]
  exact List.getElem_mem hi

/-! ### the least pattern -/
/-- d cuts l into equal parts -/
def Cuts (l : List Bool) (d : Nat) : Prop := d ∣ l.length ∧ Per (kp l) d
theorem take_kp {l : List Bool} {d : Nat} (h0 : 0 < d) (hd : d ≤ l.length) (h : Per (kp l) d) (i : Nat) : kp (l.take d) i = kp l i := by
  have e : (l.take d).length = d := by rw [List.length_take]; omega
  have hi : i % d < d := Nat.mod_lt _ h0
  have : kp (l.take d) i = kp l (i % d) := by
    have e1 : kp (l.take d) i = kp (l.take d) (i % d) := by
      have := ((kp_per (l.take d)).mod i)
      rw [e] at this
      exact this.symm
    rw [e1, kp_lt (by rw [e]; exact hi), kp_lt (by omega), List.getElem_take]
  rw [this, h.mod]
theorem rep_getD {xs : List Bool} {k i : Nat} (h : i < k * xs.length) : ((List.replicate k xs).flatten).getD i false = xs.getD (i % xs.length) false := by
  induction k generalizing i with
  | zero => simp at h
  | succ k ih =>
    rw [List.replicate_succ, List.flatten_cons, List.getD_eq_getElem?_getD]
    by_cases hi : i < xs.length
    · rw [List.getElem?_append_left hi, Nat.mod_eq_of_lt hi, List.getD_eq_getElem?_getD]
    · rw [List.getElem?_append_right (by omega), ← List.getD_eq_getElem?_getD, ih (by rw [Nat.succ_mul] at h; omega)]
      rw [← Nat.mod_eq_sub_mod (by omega)]
theorem rep_len (k : Nat) (xs : List Bool) : ((List.replicate k xs).flatten).length = k * xs.length := by simp
theorem cuts_iff {l : List Bool} {d : Nat} (h0 : 0 < d) (hd : d ≤ l.length) (hm : l.length % d = 0) : l = (List.replicate (l.length / d) (l.take d)).flatten ↔ Per (kp l) d := by
  have et : (l.take d).length = d := by rw [List.length_take]; omega
  have el : l.length / d * d = l.length := Nat.div_mul_cancel (Nat.dvd_of_mod_eq_zero hm)
  have elen : ((List.replicate (l.length / d) (l.take d)).flatten).length = l.length := by rw [rep_len, et, el]
  have key : ∀ i, i < l.length → kp ((List.replicate (l.length / d) (l.take d)).flatten) i = (l.take d).getD (i % d) false := fun i hi => by
    unfold kp
    rw [elen, Nat.mod_eq_of_lt hi, rep_getD (by rw [et, el]; exact hi), et]
  constructor
  · intro e i
    have z : ∀ j, kp l j = (l.take d).getD (j % d) false := fun j => by
      have hj : j % l.length < l.length := Nat.mod_lt _ (by omega)
      rw [← (kp_per l).mod j]
      have := key _ hj
      rw [← e] at this
      rw [this]
      congr 1
      exact Nat.mod_mod_of_dvd j (Nat.dvd_of_mod_eq_zero hm)
    rw [z, z, Nat.add_mod_right]
  · intro h
    apply kp_ext elen.symm
    intro i hi
    rw [key i hi]
    rw [← take_kp h0 hd h i]
    unfold kp
    rw [et]
theorem least_good {l : List Bool} {d : Nat} (p : Pat l) (h0 : 0 < d) (hd : d ≤ l.length) (hc : Cuts l d) (hn : ∀ e, 0 < e → e < d → ¬ Cuts l e) : Good (l.take d) ∧ (∀ n, kp (l.take d) n = kp l n) ∧ (l.take d).length ∣ l.length := by
  have et : (l.take d).length = d := by rw [List.length_take]; omega
  have hk := take_kp h0 hd hc.2
  refine ⟨⟨⟨by rw [et]; exact h0, by rw [et]; have := p.most; omega, ?_⟩, ?_⟩, hk, by rw [et]; exact hc.1⟩
  · obtain ⟨i, _, e⟩ := plus_kp p.plus
    exact kp_plus (by rw [et]; exact h0) (by rw [hk]; exact e)
  · intro e h1 h2 h3 h4
    rw [et] at h2 h3
    exact hn e h1 h2 ⟨Nat.dvd_trans h3 hc.1, fun i => by rw [← hk, ← hk]; exact h4 i⟩

/-! ### counting -/
theorem ct_le (f : Nat → Bool) (n : Nat) : ct f n ≤ n := by
  induction n with
  | zero => exact Nat.le_refl _
  | succ n ih => rw [ct]; split <;> omega
theorem ct_mono (f : Nat → Bool) {a b : Nat} (h : a ≤ b) : ct f a ≤ ct f b := by
  induction h with
  | refl => exact Nat.le_refl _
  | step _ ih => rw [ct]; omega
theorem ct_succ (f : Nat → Bool) (n : Nat) : ct f (n + 1) = ct f n + if f n then 1 else 0 := rfl
theorem ct_succ_t {f : Nat → Bool} {n : Nat} (h : f n = true) : ct f (n + 1) = ct f n + 1 := by rw [ct, h]; rfl
theorem ct_succ_f {f : Nat → Bool} {n : Nat} (h : f n = false) : ct f (n + 1) = ct f n := by rw [ct, h]; rfl
theorem ct_add {f : Nat → Bool} {p : Nat} (h : Per f p) (r : Nat) : ct f (p + r) = ct f p + ct f r := by
  induction r with
  | zero => rfl
  | succ r ih => rw [← Nat.add_assoc, ct, ct, ih, Nat.add_comm p r, h]; omega
theorem ct_mul {f : Nat → Bool} {p : Nat} (h : Per f p) (q r : Nat) : ct f (q * p + r) = q * ct f p + ct f r := by
  induction q with
  | zero => simp
  | succ q ih =>
    have e : (q + 1) * p + r = p + (q * p + r) := by rw [Nat.succ_mul]; omega
    rw [e, ct_add h, ih, Nat.succ_mul]; omega
theorem ct_mod {f : Nat → Bool} {p : Nat} (h : Per f p) (n : Nat) : ct f n = n / p * ct f p + ct f (n % p) := by
  rw [← ct_mul h, Nat.mul_comm, Nat.div_add_mod]
theorem ct_congr {f g : Nat → Bool} {n : Nat} (h : ∀ i, i < n → f i = g i) : ct f n = ct g n := by
  induction n with
  | zero => rfl
  | succ n ih => rw [ct, ct, ih (fun i hi => h i (by omega)), h n (by omega)]
/-- strictly: two kept numbers with one count are one -/
theorem ct_inj {f : Nat → Bool} {a b : Nat} (ha : f a = true) (hb : f b = true) (h : ct f a = ct f b) : a = b := by
  rcases Nat.lt_trichotomy a b with l | l | l
  · have := ct_mono f (show a + 1 ≤ b from l)
    rw [ct_succ_t ha] at this; omega
  · exact l
  · have := ct_mono f (show b + 1 ≤ a from l)
    rw [ct_succ_t hb] at this; omega
theorem ct_lt {f : Nat → Bool} {a b : Nat} (ha : f a = true) (h : a < b) : ct f a < ct f b := by
  have := ct_mono f (show a + 1 ≤ b from h)
  rw [ct_succ_t ha] at this; omega
theorem ct_lof (f : Nat → Bool) (n : Nat) : ((List.range n).filter f).length = ct f n := by
  induction n with
  | zero => rfl
  | succ n ih =>
    rw [List.range_succ, List.filter_append, List.length_append, ih, ct]
    cases h : f n <;> simp [h]
/-- the k-th below n -/
theorem filter_range {f : Nat → Bool} {n k : Nat} (h : k < ct f n) : ∃ m, ((List.range n).filter f)[k]? = some m ∧ m < n ∧ f m = true ∧ ct f m = k := by
  induction n with
  | zero => simp [ct] at h
  | succ n ih =>
    rw [List.range_succ, List.filter_append]
    by_cases hk : k < ct f n
    · obtain ⟨m, e, h1, h2, h3⟩ := ih hk
      exact ⟨m, by rw [List.getElem?_append_left (by rw [ct_lof]; exact hk)]; exact e, by omega, h2, h3⟩
    · cases hf : f n with
      | false => rw [ct_succ_f hf] at h; exact absurd h hk
      | true =>
        rw [ct_succ_t hf] at h
        have ek : k = ct f n := by omega
        refine ⟨n, ?_, by omega, hf, ek.symm⟩
        rw [List.getElem?_append_right (by rw [ct_lof]; omega), ct_lof, ek]
        simp [hf]
/-- sieves with something have an element of each index -/
theorem ct_pos {f : Nat → Bool} {p : Nat} (h : ∃ i, i < p ∧ f i = true) : 0 < ct f p := by
  obtain ⟨i, hi, e⟩ := h
  have := ct_lt e hi
  omega
theorem nth_ex {f : Nat → Bool} {p : Nat} (h : Per f p) (hp : 0 < ct f p) (i : Nat) : ∃ n, f n = true ∧ ct f n = i ∧ n / p = i / ct f p ∧ ct f (n % p) = i % ct f p ∧ n % p < p := by
  have hr : i % ct f p < ct f p := Nat.mod_lt _ hp
  obtain ⟨m, _, h1, h2, h3⟩ := filter_range hr
  have p0 : 0 < p := by omega
  refine ⟨i / ct f p * p + m, by rw [Nat.add_comm, h.mul]; exact h2, by rw [ct_mul h, h3, Nat.mul_comm, Nat.div_add_mod], ?_, ?_, Nat.mod_lt _ p0⟩
  · rw [Nat.mul_comm, Nat.mul_add_div p0, Nat.div_eq_of_lt h1, Nat.add_zero]
  · rw [Nat.mul_comm, Nat.mul_add_mod, Nat.mod_eq_of_lt h1, h3]
theorem marks_eq (l : List Bool) : marks l = (List.range l.length).filter (kp l) := by
  unfold marks
  apply List.filter_congr
  intro i hi
  have := List.mem_range.mp hi
  rw [kp_lt this, List.getD_eq_getElem?_getD, List.getElem?_eq_getElem this]; rfl
theorem marks_step {m : List Bool} {i : Nat} (h : i < m.length) : (List.range (i + 1)).filter (fun i => m.getD i false) = (List.range i).filter (fun i => m.getD i false) ++ if m[i] then [i] else [] := by
  rw [List.range_succ, List.filter_append]
  congr 1
  cases e : m[i] <;> simp [List.getElem?_eq_getElem h, e]
theorem marks_len (l : List Bool) : (marks l).length = ct (kp l) l.length := by rw [marks_eq, ct_lof]
theorem Pat.size {l : List Bool} (p : Pat l) : 0 < ct (kp l) l.length := ct_pos (plus_kp p.plus)
/-! ### composition -/
/-- what the second keeps of what the first keeps -/
def cmp (f g : Nat → Bool) (n : Nat) : Bool := f n && g (ct f n)
theorem ct_cmp (f g : Nat → Bool) (n : Nat) : ct (cmp f g) n = ct g (ct f n) := by
  induction n with
  | zero => rfl
  | succ n ih =>
    cases h : f n with
    | false => rw [ct_succ_f h, ← ih, ct_succ_f (by unfold cmp; rw [h]; rfl)]
    | true =>
      rw [ct_succ_t h]
      cases h2 : g (ct f n) with
      | false => rw [ct_succ_f h2, ← ih, ct_succ_f (by unfold cmp; rw [h, h2]; rfl)]
      | true => rw [ct_succ_t h2, ← ih, ct_succ_t (by unfold cmp; rw [h, h2]; rfl)]
theorem cmp_assoc (f g h : Nat → Bool) (n : Nat) : cmp (cmp f g) h n = cmp f (cmp g h) n := by
  show (cmp f g n && h (ct (cmp f g) n)) = (f n && (g (ct f n) && h (ct g (ct f n))))
  rw [ct_cmp]
  unfold cmp
  rw [Bool.and_assoc]
/-- lengths: p1 numbers of which s1 are kept; L is a multiple of s1 and of p2 -/
theorem cmp_per {f g : Nat → Bool} {p1 p2 L : Nat} (hf : Per f p1) (hg : Per g p2) (hs : 0 < ct f p1) (h1 : ct f p1 ∣ L) (h2 : p2 ∣ L) : Per (cmp f g) (p1 * (L / ct f p1)) := by
  intro n
  have e1 : Per f (p1 * (L / ct f p1)) := hf.dvd (Nat.dvd_mul_right _ _)
  have e2 : ct f (n + p1 * (L / ct f p1)) = ct f n + L := by
    have := ct_mul hf (L / ct f p1) n
    rw [Nat.mul_comm p1, Nat.add_comm n, this, Nat.div_mul_cancel h1, Nat.add_comm]
  show (f (n + _) && g (ct f (n + _))) = (f n && g (ct f n))
  rw [e1, e2, hg.dvd h2]
theorem ct_top {f : Nat → Bool} {p1 L : Nat} (hf : Per f p1) (h1 : ct f p1 ∣ L) : ct f (p1 * (L / ct f p1)) = L := by
  have := ct_mul hf (L / ct f p1) 0
  rw [Nat.add_zero] at this
  rw [Nat.mul_comm, this]
  show L / ct f p1 * ct f p1 + 0 = L
  rw [Nat.add_zero, Nat.div_mul_cancel h1]
/-- a number with f of each count -/
theorem nth_of {f : Nat → Bool} {p : Nat} (h : Per f p) (hp : 0 < ct f p) (i : Nat) : ∃ n, f n = true ∧ ct f n = i := by
  obtain ⟨n, a, b, _⟩ := nth_ex h hp i
  exact ⟨n, a, b⟩
theorem cmp_ex {f g : Nat → Bool} {p : Nat} (h : Per f p) (hp : 0 < ct f p) (hg : ∃ i, g i = true) : ∃ n, cmp f g n = true := by
  obtain ⟨i, hi⟩ := hg
  obtain ⟨n, a, b⟩ := nth_of h hp i
  exact ⟨n, by unfold cmp; rw [a, b, hi]; rfl⟩
/-- how many the composition keeps -/
theorem cmp_size {f g : Nat → Bool} {p1 p2 L : Nat} (hf : Per f p1) (hg : Per g p2) (h1 : ct f p1 ∣ L) (h2 : p2 ∣ L) : ct (cmp f g) (p1 * (L / ct f p1)) = L / p2 * ct g p2 := by
  rw [ct_cmp, ct_top hf h1]
  obtain ⟨q, rfl⟩ := h2
  have := ct_mul hg q 0
  rw [Nat.add_zero, Nat.mul_comm q] at this
  by_cases hp : 0 < p2
  · rw [this, Nat.mul_div_cancel_left q hp]; rfl
  · have : p2 = 0 := by omega
    subst this
    simp [ct]
/-! ### densities -/
theorem per_ratio {f : Nat → Bool} {a b : Nat} (ha : Per f a) (hb : Per f b) : ct f a * b = ct f b * a := by
  have e1 := ct_mul ha b 0
  have e2 := ct_mul hb a 0
  rw [Nat.add_zero] at e1 e2
  rw [Nat.mul_comm b a] at e1
  rw [e1] at e2
  have e3 : b * ct f a = a * ct f b := by simpa [ct] using e2
  rw [Nat.mul_comm, e3, Nat.mul_comm]
/-- the density of a composition is the product -/
theorem cmp_dens {f g : Nat → Bool} {p1 p2 p3 : Nat} (hf : Per f p1) (hg : Per g p2) (h3 : Per (cmp f g) p3) (hs : 0 < ct f p1) (h2 : 0 < p2) (h0 : 0 < p1) : ct f p1 * ct g p2 * p3 = p1 * p2 * ct (cmp f g) p3 := by
  -- over p1 * p2 numbers
  have hL1 : ct f p1 ∣ ct f p1 * p2 := Nat.dvd_mul_right _ _
  have hL2 : p2 ∣ ct f p1 * p2 := Nat.dvd_mul_left _ _
  have hP := cmp_per hf hg hs hL1 hL2
  have hS := cmp_size hf hg hL1 hL2
  rw [Nat.mul_div_cancel_left p2 hs] at hP hS
  rw [Nat.mul_div_cancel _ h2] at hS
  have e := per_ratio hP h3
  rw [hS] at e
  rw [e, Nat.mul_comm]
/-- reduced fractions multiply -/
theorem red_mul {s1 p1 s2 p2 s3 p3 g1 g2 g3 : Nat} (h : s1 * s2 * p3 = p1 * p2 * s3) (d1 : g1 ∣ s1) (e1 : g1 ∣ p1) (d2 : g2 ∣ s2) (e2 : g2 ∣ p2) (d3 : g3 ∣ s3) (e3 : g3 ∣ p3) (q1 : 0 < g1) (q2 : 0 < g2) (q3 : 0 < g3) :
    (s1 / g1) * (s2 / g2) * (p3 / g3) = (p1 / g1) * (p2 / g2) * (s3 / g3) := by
  obtain ⟨a1, rfl⟩ := d1
  obtain ⟨b1, rfl⟩ := e1
  obtain ⟨a2, rfl⟩ := d2
  obtain ⟨b2, rfl⟩ := e2
  obtain ⟨a3, rfl⟩ := d3
  obtain ⟨b3, rfl⟩ := e3
  rw [Nat.mul_div_cancel_left _ q1, Nat.mul_div_cancel_left _ q1, Nat.mul_div_cancel_left _ q2, Nat.mul_div_cancel_left _ q2, Nat.mul_div_cancel_left _ q3, Nat.mul_div_cancel_left _ q3]
  have q : 0 < g1 * g2 * g3 := Nat.mul_pos (Nat.mul_pos q1 q2) q3
  apply Nat.eq_of_mul_eq_mul_left q
  have l : g1 * g2 * g3 * (a1 * a2 * b3) = g1 * a1 * (g2 * a2) * (g3 * b3) := by
    simp only [Nat.mul_assoc, Nat.mul_comm, Nat.mul_left_comm]
  have r : g1 * g2 * g3 * (b1 * b2 * a3) = g1 * b1 * (g2 * b2) * (g3 * a3) := by
    simp only [Nat.mul_assoc, Nat.mul_comm, Nat.mul_left_comm]
  rw [l, r, h]
/-- the survivors of a composition -/
theorem cmp_nth {f g : Nat → Bool} {i a b c : Nat} (h1 : cmp f g a = true) (h2 : ct (cmp f g) a = i) (h3 : g b = true) (h4 : ct g b = i) (h5 : f c = true) (h6 : ct f c = b) : a = c := by
  have k1 : cmp f g c = true := by unfold cmp; rw [h5, h6, h3]; rfl
  have k2 : ct (cmp f g) c = i := by rw [ct_cmp, h6, h4]
  exact ct_inj h1 k1 (by rw [h2, k2])
theorem comp_small {l m : List Bool} {a b : Nat} (gl : Pat l) (gm : Pat m) (ha : l.length ≤ a) (hb : m.length ≤ b) (h1 : a * b ≤ 10000) (h2 : a * b < 4090) : l.length * (Nat.lcm (ct (kp l) l.length) m.length / ct (kp l) l.length) ≤ 10000 ∧ ct (kp m) (Nat.lcm (ct (kp l) l.length) m.length) < 4090 := by
  have s1 := gl.size
  have s2 := ct_le (kp l) l.length
  have hab : l.length * m.length ≤ a * b := Nat.mul_le_mul ha hb
  have hd : Nat.lcm (ct (kp l) l.length) m.length ∣ ct (kp l) l.length * m.length := Nat.lcm_dvd_mul _ _
  have hle : Nat.lcm (ct (kp l) l.length) m.length ≤ ct (kp l) l.length * m.length := Nat.le_of_dvd (Nat.mul_pos s1 gm.one) hd
  constructor
  · have h3 : Nat.lcm (ct (kp l) l.length) m.length / ct (kp l) l.length ≤ m.length := by
      refine Nat.div_le_of_le_mul hle
    have := Nat.mul_le_mul_left l.length h3
    omega
  · have h3 := ct_le (kp m) (Nat.lcm (ct (kp l) l.length) m.length)
    have := Nat.mul_le_mul_right m.length s2
    omega
theorem ct_true (n : Nat) : ct (fun _ => true) n = n := by
  induction n with
  | zero => rfl
  | succ n ih => rw [ct_succ, ih]; rfl
theorem cmp_top (f : Nat → Bool) : cmp (fun _ => true) f = f := funext fun n => by
  unfold cmp
  rw [ct_true]; rfl
theorem cmp_all (f : Nat → Bool) : cmp f (fun _ => true) = f := funext fun n => by
  unfold cmp
  exact Bool.and_true _
theorem cmp_assoc' (f g h : Nat → Bool) : cmp (cmp f g) h = cmp f (cmp g h) := funext fun n => cmp_assoc f g h n
theorem kp_one : kp [true] = fun _ => true := funext fun k => by
  unfold kp
  rw [show k % [true].length = 0 from Nat.mod_one k]; rfl
/-- a period of a composition, by those of the parts -/
theorem cmp_small {f g : Nat → Bool} {p q a b : Nat} (hf : Per f p) (hg : Per g q) (hs : 0 < ct f p) (h0 : 0 < q) (ha : p ≤ a) (hb : q ≤ b) : ∃ r, 0 < r ∧ r ≤ a * b ∧ Per (cmp f g) r := by
  have h1 : ct f p ∣ ct f p * q := Nat.dvd_mul_right _ _
  have h2 : q ∣ ct f p * q := Nat.dvd_mul_left _ _
  have hP := cmp_per hf hg hs h1 h2
  rw [Nat.mul_div_cancel_left q hs] at hP
  have hp : 0 < p := by
    by_cases z : p = 0
    · rw [z] at hs; simp [ct] at hs
    · omega
  exact ⟨p * q, Nat.mul_pos hp h0, Nat.mul_le_mul ha hb, hP⟩
theorem Good.le {l : List Bool} (g : Good l) {r : Nat} (h0 : 0 < r) (h : Per (kp l) r) : l.length ≤ r := Nat.le_of_dvd h0 (g.period h0 h)
theorem cmp_good {l m r : List Bool} (gl : Pat l) (gm : Pat m) (gr : Good r) (h : ∀ n, kp r n = cmp (kp l) (kp m) n) {a b : Nat} (ha : l.length ≤ a) (hb : m.length ≤ b) : r.length ≤ a * b := by
  obtain ⟨q, h0, h1, h2⟩ := cmp_small (kp_per l) (kp_per m) gl.size gm.one ha hb
  have e : kp r = cmp (kp l) (kp m) := funext h
  exact Nat.le_trans (gr.le h0 (by rw [e]; exact h2)) h1
end Sv

namespace Sv
open PySem PySem.Spec PyProof.Rows L2
section
variable {X : Cx} {σ : L2.St} {H : Hp} {Q : VK}
/-- s * n -/
def repS (x : Str) (n : Nat) : Str := ⟨(List.replicate n x.cps.toList).flatten.toArray⟩
theorem fold_rep (x : Array Nat) : ∀ (n : Nat) (a : Array Nat), ((List.replicate n x).foldl (· ++ ·) a).toList = a.toList ++ (List.replicate n x.toList).flatten
  | 0, a => by simp
  | n + 1, a => by
    rw [List.replicate_succ, List.foldl_cons, fold_rep x n (a ++ x), List.replicate_succ, List.flatten_cons, Array.toList_append, List.append_assoc]
theorem fold_repS (x : Str) (n : Nat) : (⟨(List.replicate n x.cps).foldl (· ++ ·) #[]⟩ : Str) = repS x n := by
  apply str_ext
  show ((List.replicate n x.cps).foldl (· ++ ·) #[]).toList = ((List.replicate n x.cps.toList).flatten.toArray).toList
  rw [fold_rep]
  simp
theorem b_mulS {x : Str} {n : Int} (h0 : 0 ≤ n) (hn : n ≤ 16777216) (hz : x.length * n.toNat ≤ 16777216) (q : Q (.str (repS x n.toNat)) H) : WB X (binaryOp .Mult) (.str x) (.int n) σ H Q := by
  refine ⟨fun pins s v u I rx ry => ?_⟩
  obtain ⟨t, rfl⟩ := rx
  obtain ⟨t', rfl⟩ := ry
  have hsz : (repS x n.toNat).length = x.length * n.toNat := by
    show ((List.replicate n.toNat x.cps.toList).flatten.toArray).size = x.cps.size * n.toNat
    simp [Nat.mul_comm]
  refine P.mul_str ?_ (fun h1 h2 h3 => ?_) (fun h1 h2 => ?_) ?_
  · have h1 : ¬ n < -(2 ^ 63 : Int) := by omega
    have h2 : ¬ n ≥ 2 ^ 63 := by omega
    rw [decide_eq_false h1, decide_eq_false h2]; rfl
  · have n1 : 1 ≤ n := by omega
    have h5 : (x.length : Int) ≤ 16777216 := by
      have : x.length ≤ x.length * n.toNat := Nat.le_mul_of_pos_right _ (by omega)
      omega
    have h4 : (1000000000 : Int) ≤ (2 ^ 63 - 1) / n := by
      rw [Int.le_ediv_iff_mul_le (by omega)]
      omega
    omega
  · show decide (x.length * n.toNat > sizeLine) = false
    rw [sizeLine_eq]
    exact decide_eq_false (by omega)
  · by_cases hc : n < 1
    · rw [if_pos hc]
      have e : n.toNat = 0 := by omega
      have e2 : repS x n.toNat = Str.empty := by rw [e]; rfl
      rw [e2] at q
      exact ⟨by show 0 ≤ sizeLine; decide, .str Str.empty, H, I.tok _, ⟨_, rfl⟩, q⟩
    · rw [if_neg hc]
      by_cases h2 : (n == 1 || x.length == 0) = true
      · rw [if_pos h2]
        have e2 : repS x n.toNat = x := by
          apply str_ext
          show ((List.replicate n.toNat x.cps.toList).flatten.toArray).toList = _
          rw [Bool.or_eq_true] at h2
          rcases h2 with h2 | h2
          · have : n = 1 := by simpa using h2
            rw [this]; simp
          · have h3 : x.length = 0 := by simpa using h2
            have e3 : x.cps = #[] := Array.eq_empty_of_size_eq_zero h3
            rw [e3]; simp
        rw [e2] at q
        exact ⟨.str x, H, I, ⟨_, rfl⟩, q⟩
      · rw [if_neg h2, fold_repS]
        exact ⟨by rw [hsz, sizeLine_eq]; exact hz, .str _, H, I.tok _, ⟨_, rfl⟩, q⟩
theorem rep_sOf (l : List Bool) (n : Nat) : repS (sOf l) n = sOf ((List.replicate n l).flatten) := by
  apply str_ext
  rw [sOf_list]
  show ((List.replicate n (sOf l).cps.toList).flatten.toArray).toList = _
  rw [sOf_list]
  simp
theorem cut_sOf (l : List Bool) (a b : Option Int) : cutS (sOf l) a b = sOf ((l.drop (HT.sIx l.length 0 a)).take (HT.sIx l.length l.length b - HT.sIx l.length 0 a)) := by
  apply str_ext
  rw [sOf_list]
  show (((sOf l).cps.toList.drop (HT.sIx (sOf l).length 0 a)).take (HT.sIx (sOf l).length (sOf l).length b - HT.sIx (sOf l).length 0 a)).toArray.toList = _
  rw [sOf_list, sOf_len]
  simp [List.map_take, List.map_drop]
theorem cut_to (l : List Bool) {d : Nat} {i : Int} (e : i = d) (h : d ≤ l.length) : cutS (sOf l) none (some i) = sOf (l.take d) := by
  rw [cut_sOf, e, HT.sIx_nat, HT.sIx_none]
  simp
  rw [Nat.min_eq_left h]
theorem cut_from (l : List Bool) {d : Nat} {i : Int} (e : i = d) (h : d ≤ l.length) : cutS (sOf l) (some i) none = sOf (l.drop d) := by
  rw [cut_sOf, e, HT.sIx_nat, HT.sIx_none, Nat.min_eq_left h]
  congr 1
  rw [List.take_of_length_le (by simp)]
/-- the sign at a place -/
theorem signAt_sOf {l : List Bool} {i : Nat} (h : i < l.length) : signAt (sOf l) i = .str ⟨#[sgn l[i]]⟩ := by
  unfold signAt
  rw [Array.getD_eq_getD_getElem?]
  have : (sOf l).cps[i]? = some (sgn l[i]) := by
    rw [← Array.getElem?_toList, sOf_list]
    simp [h]
  rw [this]; rfl
theorem sOf_at {l : List Bool} {i : Nat} {k : Int} (e : k = i) (h : i < l.length) : atI (sOf l).cps.toList k = some (sgn l[i]) := by
  unfold atI ixN
  rw [sOf_list, List.length_map, e, if_pos (by omega), if_pos (by omega)]
  simp [h]
theorem at_of {α : Type} {xs : List α} {i : Nat} {k : Int} {v : α} (e : k = i) (h : xs[i]? = some v) : atI xs k = some v := by
  have hi : i < xs.length := (List.getElem?_eq_some_iff.mp h).1
  unfold atI ixN
  rw [e, if_pos (by omega), if_pos (by omega)]
  simpa using h
theorem plus_str : ("+" : Str) = ⟨#[43]⟩ := by decide +kernel
theorem minus_str : ("-" : Str) = ⟨#[45]⟩ := by decide +kernel
theorem pm_str : ("+-" : Str) = ⟨#[43, 45]⟩ := by decide +kernel
theorem plus_sOf : ("+" : Str) = sOf [true] := by decide +kernel
theorem minus_sOf : ("-" : Str) = sOf [false] := by decide +kernel
theorem one_eq {a b : Nat} : decide ((⟨#[a]⟩ : Str) = ⟨#[b]⟩) = decide (a = b) := by
  by_cases h : a = b
  · rw [h]; simp
  · rw [decide_eq_false h]
    refine decide_eq_false fun e => h ?_
    have : (#[a] : Array Nat) = #[b] := congrArg Str.cps e
    simpa using this
theorem join_sOf (bs : List Bool) : Txt.join ("" : Str) (bs.map fun b => sOf [b]) = sOf bs := by
  have e0 : ("" : Str) = sOf [] := by decide +kernel
  show Builtin.Str.glued ("" : Str) _ = _
  rw [StrLaws.glued_eq_join]
  induction bs with
  | nil => rfl
  | cons b r ih =>
    cases r with
    | nil => rfl
    | cons c r =>
      show sOf [b] ++ ("" : Str) ++ Str.join ("" : Str) ((c :: r).map fun b => sOf [b]) = _
      rw [ih, e0, sOf_app, sOf_app]
      simp
theorem cnt_sgn (l : List Bool) : PyProof.Rows.cnt 43 (l.map sgn) = (l.countP (fun b => b) : Nat) := by
  induction l with
  | nil => rfl
  | cons b r ih =>
    rw [List.map_cons, cnt_cons, ih, List.countP_cons]
    cases b <;> simp [sgn] <;> omega
theorem countP_ct (l : List Bool) : l.countP (fun b => b) = ct (kp l) l.length := by
  have key : ∀ n, n ≤ l.length → (l.take n).countP (fun b => b) = ct (kp l) n := by
    intro n
    induction n with
    | zero => intro _; simp [ct]
    | succ n ih =>
      intro h
      rw [List.take_succ_eq_append_getElem (by omega), List.countP_append, ih (by omega), ct, kp_lt (show n < l.length by omega)]
      simp [List.countP_cons]
  have := key l.length (Nat.le_refl _)
  rwa [List.take_length] at this
theorem count_sOf (l : List Bool) : Txt.count (sOf l) ("+" : Str) = (l.countP (fun b => b) : Nat) := by
  rw [plus_str, count_cnt, sOf_list, cnt_sgn]
theorem countP_take {l : List Bool} {n : Nat} (h : n ≤ l.length) : (l.take n).countP (fun b => b) = ct (kp l) n := by
  rw [countP_ct]
  have e : (l.take n).length = n := by rw [List.length_take]; omega
  rw [e]
  exact ct_congr fun i hi => by rw [kp_lt (by omega), kp_lt (by omega), List.getElem_take]
end
end Sv

namespace Sv
open PySem PySem.Spec PyProof.Rows L2
section
variable {X : Cx} {N L S G B : List Str} {e e2 : Expr} {σ : L2.St} {H : Hp} {Q : VK} {p p2 pos : Pos} {x : Str}
theorem bt_all : bootBuiltins "all" = some (.builtin "all") := by decide +kernel
theorem bt_abs : bootBuiltins "abs" = some (.builtin "abs") := by decide +kernel
theorem bt_sum : bootBuiltins "sum" = some (.builtin "sum") := by decide +kernel
theorem bt_max : bootBuiltins "max" = some (.builtin "max") := by decide +kernel
theorem bt_min : bootBuiltins "min" = some (.builtin "min") := by decide +kernel
theorem bt_len : bootBuiltins "len" = some (.builtin "len") := by decide +kernel
theorem bt_int : bootBuiltins "int" = some (.type "int") := by decide +kernel
theorem bt_bool : bootBuiltins "bool" = some (.type "bool") := by decide +kernel
theorem bt_str : bootBuiltins "str" = some (.type "str") := by decide +kernel
theorem bt_set : bootBuiltins "set" = some (.type "set") := by decide +kernel
theorem bt_list : bootBuiltins "list" = some (.type "list") := by decide +kernel
theorem bt_tuple : bootBuiltins "tuple" = some (.type "tuple") := by decide +kernel
theorem bt_isi : bootBuiltins "isinstance" = some (.builtin "isinstance") := by decide +kernel
theorem bt_dm : bootBuiltins "divmod" = some (.builtin "divmod") := by decide +kernel
theorem x_len (c : Nm X N L S G B) (m : Mb "len" B) (h : WE X e σ H fun x H1 => ∃ n : Nat, LenV X.K x H1 n ∧ Q (.int n) H1) (hs : starEach [e] X.env = (false, eval e X.env) :: starEach [] X.env := by with_unfolding_all rfl) (hpl : (backTo pos (starEach [] X.env)).any (·.1) = false := by with_unfolding_all rfl) : WE X (.Call (.Name "len" p) [e] [] pos) σ H Q :=
  w_callB c m bt_len (wa_cons (WE.imp h fun x H1 ⟨n, l, q⟩ => wa_nil (c_len l q)) hs) hs hpl
theorem x_abs (c : Nm X N L S G B) (m : Mb "abs" B) (h : WE X e σ H fun x H1 => ∃ i, x = .int i ∧ Q (.int (if i < 0 then -i else i)) H1) (hs : starEach [e] X.env = (false, eval e X.env) :: starEach [] X.env := by with_unfolding_all rfl) (hpl : (backTo pos (starEach [] X.env)).any (·.1) = false := by with_unfolding_all rfl) : WE X (.Call (.Name "abs" p) [e] [] pos) σ H Q :=
  w_callB c m bt_abs (wa_cons (WE.imp h fun x H1 ⟨i, ex, q⟩ => wa_nil (by rw [ex]; exact c_abs q)) hs) hs hpl
theorem x_all (c : Nm X N L S G B) (m : Mb "all" B) (h : WE X e σ H fun x H1 => ∃ a, ∃ bs : List Bool, x = .ref a ∧ SqL X.K H1 a (bs.map V.bl) ∧ Q (.bl (bs.all fun k => k)) H1) (hs : starEach [e] X.env = (false, eval e X.env) :: starEach [] X.env := by with_unfolding_all rfl) (hpl : (backTo pos (starEach [] X.env)).any (·.1) = false := by with_unfolding_all rfl) : WE X (.Call (.Name "all" p) [e] [] pos) σ H Q :=
  w_callB c m bt_all (wa_cons (WE.imp h fun x H1 ⟨a, bs, ex, l, q⟩ => wa_nil (by rw [ex]; exact c_all c.calm l q)) hs) hs hpl
theorem x_sum (c : Nm X N L S G B) (m : Mb "sum" B) (h : WE X e σ H fun x H1 => ∃ a, ∃ ns : List Int, x = .ref a ∧ SqL X.K H1 a (ns.map V.int) ∧ Q (.int ns.sum) H1) (hs : starEach [e] X.env = (false, eval e X.env) :: starEach [] X.env := by with_unfolding_all rfl) (hpl : (backTo pos (starEach [] X.env)).any (·.1) = false := by with_unfolding_all rfl) : WE X (.Call (.Name "sum" p) [e] [] pos) σ H Q :=
  w_callB c m bt_sum (wa_cons (WE.imp h fun x H1 ⟨a, ns, ex, l, q⟩ => wa_nil (by rw [ex]; exact c_sum c.calm l q)) hs) hs hpl
theorem x_int (c : Nm X N L S G B) (m : Mb "int" B) (h : WE X e σ H fun x H1 => ∃ k, x = .bl k ∧ Q (.int (if k then 1 else 0)) H1) (hs : starEach [e] X.env = (false, eval e X.env) :: starEach [] X.env := by with_unfolding_all rfl) (hpl : (backTo pos (starEach [] X.env)).any (·.1) = false := by with_unfolding_all rfl) : WE X (.Call (.Name "int" p) [e] [] pos) σ H Q :=
  w_callTy c m bt_int (wa_cons (WE.imp h fun x H1 ⟨k, ex, q⟩ => wa_nil (by rw [ex]; exact c_intB q)) hs) hs hpl
theorem x_set (c : Nm X N L S G B) (m : Mb "set" B) (h : WE X e σ H fun x H1 => ∃ a, ∃ ns : List Int, x = .ref a ∧ SqL X.K H1 a (ns.map V.int) ∧ ns.length + 1 < scanBound ∧ ∀ p H' n, H1 p = none → Same H1 H' → H' p = some (SetI X.prog X.w p (fun k => ns.any (· == k)) n) → Q (.ref p) H') (hs : starEach [e] X.env = (false, eval e X.env) :: starEach [] X.env := by with_unfolding_all rfl) (hpl : (backTo pos (starEach [] X.env)).any (·.1) = false := by with_unfolding_all rfl) : WE X (.Call (.Name "set" p) [e] [] pos) σ H Q :=
  w_callTy c m bt_set (wa_cons (WE.imp h fun x H1 ⟨a, ns, ex, l, hz, q⟩ => wa_nil (by rw [ex]; exact c_set c.calm l hz q)) hs) hs hpl
theorem x_list (c : Nm X N L S G B) (m : Mb "list" B) (h : WE X e σ H fun x H1 => ∃ a xs, x = .ref a ∧ (SqL X.K H1 a xs ∨ SqT X.K H1 a xs) ∧ ∀ p H', H1 p = none → Same H1 H' → H' p = some (.lst xs) → Q (.ref p) H') (hs : starEach [e] X.env = (false, eval e X.env) :: starEach [] X.env := by with_unfolding_all rfl) (hpl : (backTo pos (starEach [] X.env)).any (·.1) = false := by with_unfolding_all rfl) : WE X (.Call (.Name "list" p) [e] [] pos) σ H Q :=
  w_callTy c m bt_list (wa_cons (WE.imp h fun x H1 ⟨a, xs, ex, l, q⟩ => wa_nil (by rw [ex]; exact c_list l q)) hs) hs hpl
theorem x_max (c : Nm X N L S G B) (m : Mb "max" B) (h : WE X e σ H fun x H1 => WE X e2 σ H1 fun y H2 => ∃ i j, x = .int i ∧ y = .int j ∧ Q (.int (if j > i then j else i)) H2) (hs : starEach [e, e2] X.env = (false, eval e X.env) :: starEach [e2] X.env := by with_unfolding_all rfl) (hs2 : starEach [e2] X.env = (false, eval e2 X.env) :: starEach [] X.env := by with_unfolding_all rfl) (hpl : (backTo pos (starEach [e2] X.env)).any (·.1) = false := by with_unfolding_all rfl) : WE X (.Call (.Name "max" p) [e, e2] [] pos) σ H Q :=
  w_callB c m bt_max (wa_cons (WE.imp h fun x H1 h2 => wa_cons (WE.imp h2 fun y H2 ⟨i, j, e1, e3, q⟩ => wa_nil (by rw [e1, e3]; exact c_max c.calm q)) hs2) hs) hs hpl
theorem x_min (c : Nm X N L S G B) (m : Mb "min" B) (h : WE X e σ H fun x H1 => WE X e2 σ H1 fun y H2 => ∃ i j, x = .int i ∧ y = .int j ∧ Q (.int (if j < i then j else i)) H2) (hs : starEach [e, e2] X.env = (false, eval e X.env) :: starEach [e2] X.env := by with_unfolding_all rfl) (hs2 : starEach [e2] X.env = (false, eval e2 X.env) :: starEach [] X.env := by with_unfolding_all rfl) (hpl : (backTo pos (starEach [e2] X.env)).any (·.1) = false := by with_unfolding_all rfl) : WE X (.Call (.Name "min" p) [e, e2] [] pos) σ H Q :=
  w_callB c m bt_min (wa_cons (WE.imp h fun x H1 h2 => wa_cons (WE.imp h2 fun y H2 ⟨i, j, e1, e3, q⟩ => wa_nil (by rw [e1, e3]; exact c_min c.calm q)) hs2) hs) hs hpl
theorem x_dm (c : Nm X N L S G B) (m : Mb "divmod" B) (h : WE X e σ H fun x H1 => WE X e2 σ H1 fun y H2 => ∃ i j, x = .int i ∧ y = .int j ∧ (0 < j ∧ j < 1073741824) ∧ ∀ p H', H2 p = none → Same H2 H' → H' p = some (.tup [.int (i / j), .int (i % j)]) → Q (.ref p) H') (hs : starEach [e, e2] X.env = (false, eval e X.env) :: starEach [e2] X.env := by with_unfolding_all rfl) (hs2 : starEach [e2] X.env = (false, eval e2 X.env) :: starEach [] X.env := by with_unfolding_all rfl) (hpl : (backTo pos (starEach [e2] X.env)).any (·.1) = false := by with_unfolding_all rfl) : WE X (.Call (.Name "divmod" p) [e, e2] [] pos) σ H Q :=
  w_callB c m bt_dm (wa_cons (WE.imp h fun x H1 h2 => wa_cons (WE.imp h2 fun y H2 ⟨i, j, e1, e3, hj, q⟩ => wa_nil (by rw [e1, e3]; exact c_divmod hj q)) hs2) hs) hs hpl
/-- isinstance(e, T), T built in -/
theorem x_isi {T : String} (c : Nm X N L S G B) (m : Mb "isinstance" B) (m2 : Mb x B) (hT : bootBuiltins x = some (.type T)) (h : WE X e σ H fun y H1 => ∃ t b, TyX X.K H1 y t ∧ PySem.W.kitOne X.K t (.type T) = some b ∧ Q (.bl b) H1) (hs : starEach [e, .Name x p2] X.env = (false, eval e X.env) :: starEach [.Name x p2] X.env := by with_unfolding_all rfl) (hs2 : starEach [.Name x p2] X.env = (false, eval (.Name x p2) X.env) :: starEach [] X.env := by with_unfolding_all rfl) (hpl : (backTo pos (starEach [.Name x p2] X.env)).any (·.1) = false := by with_unfolding_all rfl) : WE X (.Call (.Name "isinstance" p) [e, .Name x p2] [] pos) σ H Q :=
  w_callB c m bt_isi (wa_cons (WE.imp h fun y H1 ⟨t, b, ht, hk, q⟩ => wa_cons (w_bname (v := .ty T) c m2 hT rfl (wa_nil (c_isi (.ty T) ht hk q))) hs2) hs) hs hpl
/-- isinstance(e, C), C the text's own -/
theorem x_isiC {C : Addr} (c : Nm X N L S G B) (m : Mb "isinstance" B) (m2 : Mb x G) (hC : X.mg x = some (.ref C)) (h : WE X e σ H fun y H1 => ∃ t b, TyX X.K H1 y t ∧ PySem.W.kitOne X.K t (.ref C) = some b ∧ Q (.bl b) H1) (hs : starEach [e, .Name x p2] X.env = (false, eval e X.env) :: starEach [.Name x p2] X.env := by with_unfolding_all rfl) (hs2 : starEach [.Name x p2] X.env = (false, eval (.Name x p2) X.env) :: starEach [] X.env := by with_unfolding_all rfl) (hpl : (backTo pos (starEach [.Name x p2] X.env)).any (·.1) = false := by with_unfolding_all rfl) : WE X (.Call (.Name "isinstance" p) [e, .Name x p2] [] pos) σ H Q :=
  w_callB c m bt_isi (wa_cons (WE.imp h fun y H1 ⟨t, b, ht, hk, q⟩ => wa_cons (w_gname (v := .ref C) c m2 hC rfl (wa_nil (c_isi (.own C) ht hk q))) hs2) hs) hs hpl
theorem tru_bl {K : PySem.W.Frag} {H : Hp} {b : Bool} : TruV K (.bl b) H b := rfl
theorem ite_t {A B : Prop} (h : A) : if true = true then A else B := by rw [if_pos rfl]; exact h
theorem ite_nf {A B : Prop} (h : A) : if (!false) = true then A else B := h
theorem ite_nt {A B : Prop} (h : B) : if (!true) = true then A else B := h
theorem ite_f {A B : Prop} (h : B) : if false = true then A else B := by rw [if_neg (by decide)]; exact h
/-- the kinds of simple values, asked with isinstance -/
theorem kit_self {K : PySem.W.Frag} {t : String} : PySem.W.kitOne K (.type t) (.type t) = some true := by
  unfold PySem.W.kitOne
  rw [if_pos (beq_self_eq_true _)]
theorem kit_own {K : PySem.W.Frag} {C : Addr} : PySem.W.kitOne K (.ref C) (.ref C) = some true := by
  unfold PySem.W.kitOne
  rw [if_pos (beq_self_eq_true _)]
theorem kit_int_bool {K : PySem.W.Frag} : PySem.W.kitOne K (.type "int") (.type "bool") = some false := by
  unfold PySem.W.kitOne
  rw [if_neg (by decide)]
  kernel_rfl
theorem kit_bool_int {K : PySem.W.Frag} : PySem.W.kitOne K (.type "bool") (.type "int") = some true := by
  unfold PySem.W.kitOne
  rw [if_neg (by decide)]
  kernel_rfl
theorem kit_str_int {K : PySem.W.Frag} : PySem.W.kitOne K (.type "str") (.type "int") = some false := by
  unfold PySem.W.kitOne
  rw [if_neg (by decide)]
  kernel_rfl
theorem kit_int_str {K : PySem.W.Frag} : PySem.W.kitOne K (.type "int") (.type "str") = some false := by
  unfold PySem.W.kitOne
  rw [if_neg (by decide)]
  kernel_rfl
theorem tInt {K : PySem.W.Frag} {H : Hp} {i : Int} : TyX K H (.int i) (.type "int") := .base (.int i)
theorem tBl {K : PySem.W.Frag} {H : Hp} {i : Bool} : TyX K H (.bl i) (.type "bool") := .base (.bl i)
theorem tStr {K : PySem.W.Frag} {H : Hp} {i : Str} : TyX K H (.str i) (.type "str") := .base (.str i)
end
section
variable {P : Program} {w : World} {K : PySem.W.Frag} {mg : Str → Option Value} {base : Heap} {CX : CXT} {k : Nat} {f : Addr} {sp sp' : Sp}
theorem fnr_or (F : FnR P w K mg base CX k f sp) (F' : FnR P w K mg base CX k f sp') : FnR P w K mg base CX k f fun vs H Q E => sp vs H Q E ∨ sp' vs H Q E := fun A outer s H us vs Q E hr e0 r hs => by
  rcases hs with h | h
  · exact F A outer s H us vs Q E hr e0 r h
  · exact F' A outer s H us vs Q E hr e0 r h
theorem wl_start {X : Cx} {sts : List Stmt} {D : Ends} {σ σ' : L2.St} {H : Hp} (e : σ = σ') (h : WL X sts D σ' H) : WL X sts D σ H := e ▸ h
end
end Sv
namespace Sv
open PySem PySem.Spec PyProof.Rows L2
/-! guards: what kind of goal -/
section
variable {X : Cx} {e : Expr} {st : Stmt} {sts : List Stmt} {es : List Expr} {σ : L2.St} {H : Hp} {Q : VK} {D : Ends} {T : Bool → Hp → Prop} {R : List V → Hp → Prop} {v x y : V} {G : L2.St → Hp → Prop} {F : Value → Value → Sem Value} {U : Value → Sem Value}
theorem gWE (h : WE X e σ H Q) : WE X e σ H Q := h
theorem gWT (h : WT X e σ H T) : WT X e σ H T := h
theorem gWW (h : WW X e σ H T) : WW X e σ H T := h
theorem gWA (h : WA X es σ H R) : WA X es σ H R := h
theorem gWS (h : WS X st D σ H) : WS X st D σ H := h
theorem gWL (h : WL X sts D σ H) : WL X sts D σ H := h
theorem gWG (h : WG X e v σ H G) : WG X e v σ H G := h
theorem gWGs {vs : List V} (h : WGs X es vs σ H G) : WGs X es vs σ H G := h
theorem gWB (h : WB X F x y σ H Q) : WB X F x y σ H Q := h
theorem gWU (h : WU X U x σ H Q) : WU X U x σ H Q := h
theorem gBo {o : Operator} {x y : V} (h : WB X (binaryOp o) x y σ H Q) : WB X (binaryOp o) x y σ H Q := h
theorem gCo {o : CmpOp} {x y : V} (h : WB X (compareOp o) x y σ H Q) : WB X (compareOp o) x y σ H Q := h
theorem gCall {f : Expr} {es : List Expr} {ks : List Keyword} {p : Pos} (h : WE X (.Call f es ks p) σ H Q) : WE X (.Call f es ks p) σ H Q := h
theorem gNm {x : Str} {p : Pos} (h : WE X (.Name x p) σ H Q) : WE X (.Name x p) σ H Q := h
theorem gCn {c : Const} {j : Nat} {p : Pos} (h : WE X (.Constant c j p) σ H Q) : WE X (.Constant c j p) σ H Q := h
end
section
variable {X : Cx} {σ : L2.St} {H : Hp} {Q : VK}
theorem w_gref {N L S G B : List Str} {x : Str} {pos : Pos} {C : Addr} (c : Nm X N L S G B) (m : Mb x G) (hm : X.mg x = some (.ref C)) (q : Q (.ref C) H) : WE X (.Name x pos) σ H Q := w_gname (v := .ref C) c m hm rfl q
/-- "+" in a pattern -/
theorem b_inPlus {l : List Bool} (q : Q (.bl (decide (true ∈ l))) H) : WB X (compareOp .In) (.str "+") (.str (sOf l)) σ H Q := by
  rw [plus_str]
  refine b_inS ?_
  rw [sOf_list]
  have e : decide (43 ∈ l.map sgn) = decide (true ∈ l) := by
    by_cases h : true ∈ l
    · rw [decide_eq_true h, decide_eq_true (mem_plus.mpr h)]
    · rw [decide_eq_false h, decide_eq_false (fun z => h (mem_plus.mp z))]
  rw [e]
  exact q
theorem b_inPM {b : Bool} (q : Q (.bl true) H) : WB X (compareOp .In) (.str ⟨#[sgn b]⟩) (.str "+-") σ H Q := by
  rw [pm_str]
  refine b_inS ?_
  cases b <;> exact q
/-- a sign == "+" -/
theorem b_eqPlus {b : Bool} (q : Q (.bl b) H) : WB X (compareOp .Eq) (.str ⟨#[sgn b]⟩) (.str "+") σ H Q := by
  refine b_eqS ?_
  rw [plus_str, one_eq, sgn_dec]
  exact q
theorem dec_plus {b : Bool} : decide ((⟨#[sgn b]⟩ : Str) = "+") = b := by rw [plus_str, one_eq, sgn_dec]
end
/-! ### loops that change what stands: only the walked is asked to stand -/
/-- a heap that tells p alone -/
def one (H : Hp) (p : Addr) : Hp := fun b => if b = p then H p else none
theorem one_same {H H' : Hp} {p : Addr} (h : ∀ o, H p = some o → H' p = some o) : Same (one H p) H' := fun b o e => by
  unfold one at e
  by_cases z : b = p
  · rw [if_pos z] at e
    rw [z]
    exact h o e
  · rw [if_neg z] at e
    cases e
theorem one_at {H : Hp} {p : Addr} {o : HO} (h : H p = some o) : one H p p = some o := by
  unfold one
  rw [if_pos rfl, h]
theorem none_same {H' : Hp} : Same (fun _ => none) H' := fun b o e => nomatch e
section
variable {X : Cx} {N L S G B : List Str} {tg iter c : Expr} {body : List Stmt} {σ : L2.St} {H : Hp} {D : Ends} {pos : Pos}
theorem ws_forM (hp : PassesOwn (model X.prog X.w) X.A X.env X.xe) (hc : Nm X N L S G B)
    (h : WI X tg iter σ H fun J H1 => ∃ n it Hw, Wlk J n it Hw ∧ ∃ Pv : Nat → L2.St → Hp → Prop, Pv 0 σ H1 ∧ (∀ i σ' H', Pv i σ' H' → Same Hw H') ∧
      (∀ i σ' H', i < n → Pv i σ' H' → WG X tg (it i) σ' H' fun σ2 H2 => WL X body { D with nx := Pv (i + 1), ct := Pv (i + 1), bk := D.nx } σ2 H2) ∧ ∀ σ' H', Pv n σ' H' → D.nx σ' H')
    (hs : ∀ x, foldedSetIterable iter X.env x = pure x := by intro _; with_unfolding_all rfl) : WS X (.For tg iter body [] pos) D σ H := by
  refine (ps_for hp hc.calm pi_w pg_w pss_w hs).w ?_
  refine ⟨fun pins s I => thn (h.run pins s I) fun v s1 h1 => thn h1 fun itv s2 ⟨it, fp, tn, J, H', e, I', T, t0, hf, n, itm, Hw, W, Pv, p0, hsm, hst, hd⟩ => ⟨it, fp, tn, J, H', e, I', T, t0, hf, ?_⟩⟩
  refine ⟨fun i m σ' H'' => m = n - i ∧ i ≤ n ∧ Pv i σ' H'', ⟨n, by simp, Nat.zero_le _, p0⟩, ?_⟩
  rintro i m σ' H'' ⟨rfl, hi, p⟩
  by_cases hlt : i < n
  · refine .inr ⟨W.go i H'' hlt (hsm _ _ _ p), Pv (i + 1), fun σ2 H2 p' => ⟨n - (i + 1), by omega, rfl, hlt, p'⟩, fun x H3 y => ?_⟩
    obtain ⟨rfl, rfl⟩ := W.yld i H'' x H3 hlt (hsm _ _ _ p) y
    exact hst i σ' _ hlt p
  · have e : i = n := by omega
    subst e
    exact .inl ⟨W.stop _ _ (Nat.le_refl _) (hsm _ _ _ p), hd _ _ p⟩
end
section
variable {X : Cx} {N L S G B : List Str} {σ : L2.St} {H : Hp} {D : Ends} {pos : Pos}
/-- a, b, c = e, f, g with plain local names -/
theorem ws_par3 {x y z : Str} {ea eb ec : Expr} {px py pz pt : Pos} {kt k2 pt2} (c : Nm X N L S G B) (hx : X.env.scope.names.lookup x = some .local) (hy : X.env.scope.names.lookup y = some .local) (hz : X.env.scope.names.lookup z = some .local)
    (h : WE X ea σ H fun v H1 => WE X eb σ H1 fun w H2 => WE X ec σ H2 fun u H3 => ∃ σ1 σ2 σ3, Put N σ x v σ1 ∧ Put N σ1 y w σ2 ∧ Put N σ2 z u σ3 ∧ D.nx σ3 H3)
    (hw : swappedStores [.Tuple [.Name x px, .Name y py, .Name z pz] kt pt] (.Tuple [ea, eb, ec] k2 pt2) X.env = pure (some [x, y, z]))
    (hs : swapsWithSole [.Tuple [.Name x px, .Name y py, .Name z pz] kt pt] (.Tuple [ea, eb, ec] k2 pt2) pos.line X.env = pure false := by with_unfolding_all rfl)
    (h1 : starEach [ea, eb, ec] X.env = (false, eval ea X.env) :: starEach [eb, ec] X.env := by with_unfolding_all rfl) (h2 : starEach [eb, ec] X.env = (false, eval eb X.env) :: starEach [ec] X.env := by with_unfolding_all rfl) (h3 : starEach [ec] X.env = (false, eval ec X.env) :: starEach [] X.env := by with_unfolding_all rfl)
    (ix : ∃ i j l : Nat, N[i]? = some x ∧ N[j]? = some y ∧ N[l]? = some z ∧ i ≠ j ∧ i ≠ l ∧ j ≠ l) :
    WS X (.Assign [.Tuple [.Name x px, .Name y py, .Name z pz] kt pt] (.Tuple [ea, eb, ec] k2 pt2) pos) D σ H := by
  obtain ⟨i, j, l, hi, hj, hl, n1, n2, n3⟩ := ix
  have nd : X.N.Nodup := by rw [c.names]; exact c.nd
  have hi' : X.N[i]? = some x := by rw [c.names]; exact hi
  have hj' : X.N[j]? = some y := by rw [c.names]; exact hj
  have hl' : X.N[l]? = some z := by rw [c.names]; exact hl
  refine (L2.ps_par3 c.calm nd hi' hj' hl' n1 n2 n3 hx hy hz (pa_cons pe_w (pa_cons pe_w (pa_cons pe_w pa_nil h3) h2) h1) hw hs).w ?_
  refine WE.imp h fun v H1 h1 => WE.imp h1 fun w H2 h2 => WE.imp h2 fun u H3 ⟨σ1, σ2, σ3, p1, p2, p3, q⟩ => ⟨v, w, u, rfl, ?_⟩
  obtain ⟨i', hi2, rfl⟩ := p1.ix
  obtain ⟨j', hj2, rfl⟩ := p2.ix
  obtain ⟨l', hl2, rfl⟩ := p3.ix
  have ei : i' = i := nodup_ix nd (by rw [c.names]; exact hi2) hi'
  have ej : j' = j := nodup_ix nd (by rw [c.names]; exact hj2) hj'
  have el : l' = l := nodup_ix nd (by rw [c.names]; exact hl2) hl'
  subst ei ej el
  exact q
end
/-! ### comprehensions whose items are new objects -/
theorem lc_ofH {X : Cx} {N L S G B : List Str} {tg elt iter : Expr} {ifs : List Expr} {scope : Scope} {own : List (Str × Nat)} {σ : L2.St} {H : Hp} {Q : VK} (c : Nm X N L S G B) (P : Nat → List V → Hp → Prop)
    (h : WI X tg iter σ H fun J H1 => ∃ n it, Wlk J n it H1 ∧ n < sizeLine ∧ (∀ D, H1 D = none → P 0 [] (upd H1 D (.lst []))) ∧ (∀ i acc acc' H' D, i < n → H1 D = none → Same H1 H' → H' D = some (.lst acc') → P i acc' H' → P (i + 1) acc H' → P (i + 1) acc (upd H' D (.lst acc))) ∧
      (∀ i acc H', i < n → acc.length ≤ i → P i acc H' → Same H1 H' → WGb X scope tg (it i) (wipe σ (own.map (·.2))) H' fun σ2 H2 => H2 = H' ∧ wipe σ2 (own.map (·.2)) = wipe σ (own.map (·.2)) ∧ WTb X scope ifs σ2 H2 fun k H3 => Same H2 H3 ∧
        if k = true then WEb X scope elt σ2 H3 fun y H4 => Same H3 H4 ∧ P i acc H4 ∧ P (i + 1) (acc ++ [y]) H4 else P (i + 1) acc H3) ∧
      ∀ acc D H', acc.length ≤ n → P n acc H' → H1 D = none → Same H1 H' → H' D = some (.lst acc) → Q (.ref D) H') :
    tLc (WI X tg iter) (WGb X scope tg) (WTb X scope ifs) (WEb X scope elt) (own.map (·.2)) σ H Q := by
  refine ⟨fun pins s I => thn (h.run pins s I) fun v s1 h1 => thn h1 fun itv s2 ⟨it, fp, tn, J, H1, e, I', T, t0, hf, n, itm, W, hz, p0, hfr, hst, hd⟩ => ⟨it, fp, tn, J, H1, e, I', T, t0, hf, fun D hD => ?_⟩⟩
  refine ⟨fun i m H' => m = n - i ∧ i ≤ n ∧ ∃ acc, acc.length ≤ i ∧ P i acc H' ∧ Same H1 H' ∧ H' D = some (.lst acc), ⟨n, by simp, Nat.zero_le _, [], Nat.le_refl _, p0 D hD, same_new hD, upd_same⟩, ?_⟩
  rintro i m H' ⟨rfl, hi, acc, hl, hp, hsm, hDa⟩
  by_cases hlt : i < n
  · refine .inr ⟨W.go i H' hlt hsm, fun H2 => i + 1 ≤ n ∧ ∃ acc, acc.length ≤ i + 1 ∧ P (i + 1) acc H2 ∧ Same H1 H2 ∧ H2 D = some (.lst acc), fun H2 q => ⟨n - (i + 1), by omega, rfl, q⟩, fun x H3 y => ?_⟩
    obtain ⟨rfl, rfl⟩ := W.yld i H' x H3 hlt hsm y
    intro X' bX
    refine ⟨fun pins' s' u I' r => thn ((hst i acc H3 hlt hl hp hsm X' bX).run pins' s' u I' r) fun _ s2 ⟨σ2, H2, I2, e2, ew, q2⟩ => ⟨σ2, H2, I2, ew, fun X2 b2 => ?_⟩⟩
    subst e2
    refine ⟨fun pins3 s3 I3 => thn ((q2 X2 b2).run pins3 s3 I3) fun k s4 ⟨H4, I4, e4, q4⟩ => ⟨H4, I4, ?_⟩⟩
    cases k with
    | false =>
      rw [if_neg (by decide)] at q4 ⊢
      exact ⟨hlt, acc, Nat.le_succ_of_le hl, q4, hsm.trans e4, e4 _ _ hDa⟩
    | true =>
      rw [if_pos rfl] at q4 ⊢
      intro X5 b5
      refine WE.imp (q4 X5 b5) fun y H5 ⟨e5, q50, q5⟩ => ⟨acc, e5 _ _ (e4 _ _ hDa), by omega, hlt, acc ++ [y], by rw [List.length_append]; show acc.length + 1 ≤ i + 1; omega, hfr i _ _ _ _ hlt hD (hsm.trans (e4.trans e5)) (e5 _ _ (e4 _ _ hDa)) q50 q5, same_mut (hsm.trans (e4.trans e5)) hD, upd_same⟩
  · have e : i = n := by omega
    subst e
    exact .inl ⟨W.stop _ _ (Nat.le_refl _) hsm, hd acc D H' hl hp hD hsm hDa⟩
theorem w_lcH {X : Cx} {N L S G B : List Str} {tg elt iter : Expr} {ifs : List Expr} {scope : Scope} {own : List (Str × Nat)} {σ : L2.St} {H : Hp} {Q : VK} {pos : Pos} (c : Nm X N L S G B) (ok : blkC N X.env.scope scope own = true) (P : Nat → List V → Hp → Prop)
    (h : WI X tg iter σ H fun J H1 => ∃ n it, Wlk J n it H1 ∧ n < sizeLine ∧ (∀ D, H1 D = none → P 0 [] (upd H1 D (.lst []))) ∧ (∀ i acc acc' H' D, i < n → H1 D = none → Same H1 H' → H' D = some (.lst acc') → P i acc' H' → P (i + 1) acc H' → P (i + 1) acc (upd H' D (.lst acc))) ∧
      (∀ i acc H', i < n → acc.length ≤ i → P i acc H' → Same H1 H' → WGb X scope tg (it i) (wipe σ (own.map (·.2))) H' fun σ2 H2 => H2 = H' ∧ wipe σ2 (own.map (·.2)) = wipe σ (own.map (·.2)) ∧ WTb X scope ifs σ2 H2 fun k H3 => Same H2 H3 ∧
        if k = true then WEb X scope elt σ2 H3 fun y H4 => Same H3 H4 ∧ P i acc H4 ∧ P (i + 1) (acc ++ [y]) H4 else P (i + 1) acc H3) ∧
      ∀ acc D H', acc.length ≤ n → P n acc H' → H1 D = none → Same H1 H' → H' D = some (.lst acc) → Q (.ref D) H')
    (hs : ∀ x, foldedSetIterable iter X.env x = pure x := by intro _; with_unfolding_all rfl) : WE X (.ListComp elt [⟨tg, iter, ifs, 0⟩] scope pos) σ H Q := by
  have hN : X.N.Nodup := by rw [c.names]; exact c.nd
  have ok' : BlkOk X.N X.env.scope scope own := by rw [c.names]; exact blkOk_by ok
  have p := pe_lc (X := X) (pos := pos) (g := WGb X scope tg) (tt := WTb X scope ifs) (te := WEb X scope elt) c.calm hN (pi_w (X := X) (tg := tg) (iter := iter)) ok'
    (fun s H C cl fp => ⟨fun pins s1 σ1 H1 v u R I r q => (q _ ⟨s, H, C, cl, fp, rfl⟩).run pins s1 u I r⟩)
    (fun s H C cl fp => ⟨fun pins s1 σ1 H1 R I q => (q _ ⟨s, H, C, cl, fp, rfl⟩).run pins s1 I⟩)
    (fun s H C cl fp => ⟨fun pins s1 σ1 H1 R I q => (q _ ⟨s, H, C, cl, fp, rfl⟩).run pins s1 I⟩) hs
  exact p.w (lc_ofH c P h)
theorem ws_setLcH {y : Str} {py spos : Pos} {D0 : Ends} {X : Cx} {N L S G B : List Str} {tg elt iter : Expr} {ifs : List Expr} {scope : Scope} {own : List (Str × Nat)} {σ : L2.St} {H : Hp} {pos : Pos} (c : Nm X N L S G B) (ok : blkC N X.env.scope scope own = true) (P : Nat → List V → Hp → Prop)
    (h : WI X tg iter σ H fun J H1 => ∃ n it, Wlk J n it H1 ∧ n < sizeLine ∧ (∀ D, H1 D = none → P 0 [] (upd H1 D (.lst []))) ∧ (∀ i acc acc' H' D, i < n → H1 D = none → Same H1 H' → H' D = some (.lst acc') → P i acc' H' → P (i + 1) acc H' → P (i + 1) acc (upd H' D (.lst acc))) ∧
      (∀ i acc H', i < n → acc.length ≤ i → P i acc H' → Same H1 H' → WGb X scope tg (it i) (wipe σ (own.map (·.2))) H' fun σ2 H2 => H2 = H' ∧ wipe σ2 (own.map (·.2)) = wipe σ (own.map (·.2)) ∧ WTb X scope ifs σ2 H2 fun k H3 => Same H2 H3 ∧
        if k = true then WEb X scope elt σ2 H3 fun y H4 => Same H3 H4 ∧ P i acc H4 ∧ P (i + 1) (acc ++ [y]) H4 else P (i + 1) acc H3) ∧
      ∀ acc D H', acc.length ≤ n → P n acc H' → H1 D = none → Same H1 H' → H' D = some (.lst acc) → ∃ σ', Put N σ y (.ref D) σ' ∧ D0.nx σ' H')
    (hyl : X.env.scope.names.lookup y = some .local) (hsw : swapsWith (.ListComp elt [⟨tg, iter, ifs, 0⟩] scope pos) (some (.Name y py)) spos.line X.env = pure true)
    (hs : ∀ x, foldedSetIterable iter X.env x = pure x := by intro _; with_unfolding_all rfl) (iy : ∃ i : Nat, N[i]? = some y) : WS X (.Assign [.Name y py] (.ListComp elt [⟨tg, iter, ifs, 0⟩] scope pos) spos) D0 σ H := by
  have hN : X.N.Nodup := by rw [c.names]; exact c.nd
  have ok' : BlkOk X.N X.env.scope scope own := by rw [c.names]; exact blkOk_by ok
  obtain ⟨i, hi⟩ := iy
  have hi' : X.N[i]? = some y := by rw [c.names]; exact hi
  have p := ps_setLc (X := X) (pos := pos) (spos := spos) (py := py) (g := WGb X scope tg) (tt := WTb X scope ifs) (te := WEb X scope elt) c.calm hN hi' hyl hsw (pi_w (X := X) (tg := tg) (iter := iter)) ok'
    (fun s H C cl fp => ⟨fun pins s1 σ1 H1 v u R I r q => (q _ ⟨s, H, C, cl, fp, rfl⟩).run pins s1 u I r⟩)
    (fun s H C cl fp => ⟨fun pins s1 σ1 H1 R I q => (q _ ⟨s, H, C, cl, fp, rfl⟩).run pins s1 I⟩)
    (fun s H C cl fp => ⟨fun pins s1 σ1 H1 R I q => (q _ ⟨s, H, C, cl, fp, rfl⟩).run pins s1 I⟩) hs
  refine p.w ?_
  refine lc_ofH (Q := fun v H1 => D0.nx (σ.set i (some v)) H1) c P ⟨fun pins s I => thn (h.run pins s I) fun v s1 h1 => thn h1 fun itv s2 ⟨it, fp, tn, J, H1, e, I', T, t0, hf, n, itm, W, hz, p0, hfr, hst, hd⟩ => ⟨it, fp, tn, J, H1, e, I', T, t0, hf, n, itm, W, hz, p0, hfr, hst, fun acc D H' h1 h2 h3 h4 h5 => ?_⟩⟩
  obtain ⟨σ', hp, q⟩ := hd acc D H' h1 h2 h3 h4 h5
  obtain ⟨i', hi2, rfl⟩ := hp.ix
  have ei : i' = i := nodup_ix hN (by rw [c.names]; exact hi2) hi'
  rw [← ei]
  exact q
end Sv

namespace Sv
open PySem PySem.Spec PyProof.Rows L2
section
variable {X : Cx} {σ : L2.St} {H : Hp} {Q : VK}
theorem b_gtB {x y : Bool} (q : Q (.bl (x && !y)) H) : WB X (compareOp .Gt) (.bl x) (.bl y) σ H Q := by
  refine ⟨fun pins s v u I rx ry => ?_⟩
  obtain rfl : v = Value.bool x := rx
  obtain rfl : u = Value.bool y := ry
  refine gt_bool ?_
  have e : decide (b2i x > b2i y) = (x && !y) := by cases x <;> cases y <;> rfl
  rw [e]
  exact ⟨.bl (x && !y), H, I, rfl, q⟩
end
/-- the numbers below p with f -/
def sel (f : Nat → Bool) (p : Nat) : List Nat := (List.range p).filter f
theorem sel_step (f : Nat → Bool) (i : Nat) : sel f (i + 1) = sel f i ++ if f i then [i] else [] := by
  unfold sel
  rw [List.range_succ, List.filter_append]
  congr 1
  cases h : f i <;> simp [h]
theorem sel_len (f : Nat → Bool) (p : Nat) : (sel f p).length = ct f p := ct_lof f p
theorem sel_mem {f : Nat → Bool} {p n : Nat} : n ∈ sel f p ↔ n < p ∧ f n = true := by
  unfold sel
  rw [List.mem_filter, List.mem_range]
theorem sel_any (f : Nat → Bool) (p : Nat) {i : Nat} (h : i < p) : ((sel f p).map fun n => ((n : Nat) : Int)).any (· == ((i : Nat) : Int)) = f i := by
  rw [Bool.eq_iff_iff, List.any_eq_true]
  constructor
  · rintro ⟨x, hx, e⟩
    obtain ⟨n, hn, rfl⟩ := List.mem_map.mp hx
    have e3 : ((n : Nat) : Int) = ((i : Nat) : Int) := eq_of_beq e
    have : n = i := by omega
    rw [← this]
    exact (sel_mem.mp hn).2
  · intro hf
    exact ⟨_, List.mem_map.mpr ⟨i, sel_mem.mpr ⟨h, hf⟩, rfl⟩, by simp⟩
/-- a law's end, where what may fly depends on the world -/
theorem walk_ofW {L : PySem.W.OpenLaw} {m j : Nat} {q' : Program} {lo : List Str} {XQ : (Str → Option Value) → Heap → Prop} {YQ : World → Heap → Prop} {dr : DefRec} {par : Str} (h1 : L.most = some m) (h2 : m ≤ sizeLine) (h3 : dr.params.defaults = []) (h4 : Room j callerA)
    (go : ∀ (ww : World) (gm : Str → Option Value) (ad : Addr) (hp : Heap), YQ ww hp → hp.Ns mainGlobals gm → gm dr.name = some (.ref ad) → ∃ (KK : PySem.W.Frag) (fdd : FuncData) (spp : Sp), KK.In hp ∧ (∀ (z : Shared) (u : Value), BindsTo z fdd ⟨[u], []⟩ [(par, u)]) ∧
      (∀ (HH : Hp) (aa : Addr) (xs : List Int), xs.length ≤ m → Only HH → SqL KK HH aa (xs.map V.int) → spp [.ref aa] HH (fun v _ => v = .bl true) fun _ _ _ => False) ∧
      ∀ bs : Heap, KK.In bs → bs.Ns mainGlobals gm → FnOk L.prog ww KK gm bs (L2.CX L.prog ww) j ad fdd [par] spp) :
    PySem.W.WalkO q' lo XQ YQ L.row.toRowW dr [] (fun g us => PySem.call g us) := by
  refine Att.attach_call h1 h3 ?_
  intro ww t0 t1 gm bm ad ob pm' cd' dc aa us xs GG YY e1 e2 e3 e4 e5 e6 e7 e8
  obtain ⟨KK, fdd, spp, k1, k2, k3, k4⟩ := go ww gm ad _ YY GG.T.g e4
  refine law_call k1 GG.T.g GG.T.b GG.T.builtins GG.T.nolimit e8 e5 e6 (Nat.le_trans e7 h2) h4 k4 k2 (fun HH o1 o2 => k3 HH aa xs e7 o1 o2) ?_
  intro HH e s'
  rintro ⟨_, _, _, _, _, _, _, _, _, _, _, _, no⟩
  exact no
end Sv

namespace Sv
open PySem PySem.Spec PyProof.Rows L2
/-! ### for, in a generator -/
section
variable {M : Model} {A : Around} {R : GenEnd} {Y : Protocol} {n : Nat} {s₀ s : Shared} {c : Code} {fs : List Frame}
theorem seg_bw {α β : Type} {m : Sem α} {k : α → Sem β} {K : β → Sem PySem.Fin} {J : Value → Sem PySem.Fin} {gd : Bool → Bool} {lv : List Value → List Value}
    (h : wpAny M (A.over c fs) m (fun v s' => Seg M A R Y n s₀ c ((k v).wrap K J gd lv) fs s') (fun x s' => Seg M A R Y n s₀ c (J x) fs s') s) : Seg M A R Y n s₀ c ((m >>= k).wrap K J gd lv) fs s := by
  rw [Sem.bind_eq_wrap', Sem.wrap_wrap]
  exact seg_wrap (wpAny_mono h (fun _ _ x => x) fun _ _ x => x)
end
section
variable {prog : Program} {w : World} {A : Around} {R : GenEnd} {Y : Protocol} {n : Nat} {s₀ s : Shared} {fs : List Frame} {env : Env} {tg : Expr} {it : Value} {body : List Stmt}
theorem seg_forLoop (h : wpAny (model prog w) (A.over (.forLoop tg it body [] env) fs) (pyNext it) (fun r s1 => match r with
      | none => Seg (model prog w) A R Y n s₀ (.forLoop tg it body [] env) (.pure (.again (.block [] env))) fs s1
      | some v => wpAny (model prog w) (A.over (.forLoop tg it body [] env) fs) (letOwnedTupleGo tg it v) (fun _ s2 => wpAny (model prog w) (A.over (.forLoop tg it body [] env) fs) (assign tg env v) (fun _ s3 =>
          Seg (model prog w) A R Y n s₀ (.forLoop tg it body [] env) ((execs body env).wrap (fun f => match f with
            | .next | .cont => .pure (.again (.forLoop tg it body [] env))
            | .brk => .pure (.done .next)
            | .ret v => .pure (.done (.ret v))) (fun e => (do noteFrame e env; theTreesLotGoes e : Sem Unit).wrap (fun _ => .raise e) .raise id id) id id) fs s3)
          (fun x s' => Seg (model prog w) A R Y n s₀ (.forLoop tg it body [] env) ((do noteFrame x env; theTreesLotGoes x : Sem Unit).wrap (fun _ => .raise x) .raise id id) fs s') s2)
          (fun x s' => Seg (model prog w) A R Y n s₀ (.forLoop tg it body [] env) ((do noteFrame x env; theTreesLotGoes x : Sem Unit).wrap (fun _ => .raise x) .raise id id) fs s') s1)
      (fun x s' => Seg (model prog w) A R Y n s₀ (.forLoop tg it body [] env) ((do noteFrame x env; theTreesLotGoes x : Sem Unit).wrap (fun _ => .raise x) .raise id id) fs s') s) :
    Seg (model prog w) A R Y n s₀ (.forLoop tg it body [] env) ((model prog w).den (.forLoop tg it body [] env)) fs s := by
  show Seg _ A R Y n s₀ _ ((forTurn tg it body [] env).onRaise (fun x => do noteFrame x env; theTreesLotGoes x)) fs s
  rw [Sem.onRaise_eq_wrap]
  have fix : ∀ (x : Value) (s' : Shared), Seg (model prog w) A R Y n s₀ (.forLoop tg it body [] env) ((do noteFrame x env; theTreesLotGoes x : Sem Unit).wrap (fun _ => .raise x) .raise id id) fs s' →
      Seg (model prog w) A R Y n s₀ (.forLoop tg it body [] env) ((do noteFrame x env; theTreesLotGoes x : Sem Unit).bind (fun _ => .raise x)) fs s' := fun x s' hx => by
    rw [Sem.bind_eq_wrap]; exact hx
  unfold forTurn
  refine seg_bw (wpAny_standAt ?_)
  refine seg_bw (wpAny_onRaise (wpAny_mono h (fun r s1 h1 => ?_) fun x s' hx => wpAny_standAt (fix x s' hx)))
  cases r with
  | none => exact h1
  | some v =>
    refine seg_bw (wpAny_mono h1 (fun _ s2 h2 => ?_) fun x s' hx => fix x s' hx)
    refine seg_bw (wpAny_mono h2 (fun _ s3 h3 => ?_) fun x s' hx => fix x s' hx)
    rw [Sem.bind_eq_wrap', Sem.wrap_wrap]
    rw [Sem.wrap_congr (execs body env) _ _ (K' := fun f => match f with
            | .next | .cont => .pure (.again (.forLoop tg it body [] env))
            | .brk => .pure (.done .next)
            | .ret v => .pure (.done (.ret v))) (H' := (fun e => (do noteFrame e env; theTreesLotGoes e : Sem Unit).wrap (fun _ => .raise e) .raise id id))
        (fun f => by cases f <;> rfl)
        (fun e => by show (do noteFrame e env; theTreesLotGoes e : Sem Unit).bind (fun _ => .raise e) = _; rw [Sem.bind_eq_wrap])]
    exact h3
end
section
variable {X : Cx} {tg iter : Expr} {body : List Stmt} {pos : Pos}
theorem seg_For {A : Around} {R : GenEnd} {Y : Protocol} {n : Nat} {s₀ s : Shared} {c : Code} {fs : List Frame} {env : Env} {K : Flow → Sem PySem.Fin} {J : Value → Sem PySem.Fin} {gd : Bool → Bool} {lv : List Value → List Value} {P : Program} {w : World}
    (h : wpAny (model P w) (A.over c fs) (eval iter env) (fun x s1 => wpAny (model P w) (A.over c fs) (pyIter x) (fun it s2 => ∀ p, Seg (model P w) A R Y n s₀ (.forLoop tg it body [] env) ((model P w).den (.forLoop tg it body [] env))
      (.ret (fun r => ((match r with | .ok f => (.pure f : Sem Flow) | .error e => .raise e).onRaise (cameBack env)).wrap K J gd lv) none (gd false) (lv []) c p [] :: fs) s2) (fun x s' => Seg (model P w) A R Y n s₀ c (J x) fs s') s1) (fun x s' => Seg (model P w) A R Y n s₀ c (J x) fs s') s)
    (hs : ∀ x, foldedSetIterable iter env x = pure x) : Seg (model P w) A R Y n s₀ c ((exec (.For tg iter body [] pos) env).wrap K J gd lv) fs s := by
  rw [exec_For]
  refine seg_bw (wpAny_standAt ?_)
  refine seg_bw (wpAny_mono h (fun x s1 h1 => ?_) fun _ _ z => z)
  refine seg_bw (wpAny_of_eq (hs x) ?_)
  refine seg_bw (wpAny_standAt ?_)
  refine seg_bw (wpAny_holding (wpAny_mono h1 (fun it s2 h2 => ?_) fun _ _ z => z))
  exact seg_call h2
def tGFor (wi : TI) (g : TG) (tb : TGn) : TGn := fun D ys σ H => wi σ H fun J H1 => ∃ W : Nat → Nat → List V → L2.St → Hp → Prop, (∃ m, W 0 m ys σ H1) ∧ ∀ i m ys σ H, W i m ys σ H →
  (J.stop i H ∧ D.nx ys σ H) ∨ (J.go i H ∧ ∃ N : List V → L2.St → Hp → Prop, (∀ ys' σ' H', N ys' σ' H' → ∃ m', m' < m ∧ W (i + 1) m' ys' σ' H') ∧ ∀ x H', J.yld i H x H' → g x σ H' fun σ2 H2 => tb { D with nx := N, ct := N, bk := D.nx } ys σ2 H2)
theorem gs_for {wi : TI} {g : TG} {tb : TGn} (hp : PassesOwn (model X.prog X.w) X.A X.env X.xe) (hc : X.calm = true) (hi : PI X tg iter wi) (hg : PG X tg g) (hb : GSs X body tb)
    (hs : ∀ x, foldedSetIterable iter X.env x = pure x := by intro _; with_unfolding_all rfl) : GS X (.For tg iter body [] pos) (tGFor wi g tb) := by
  refine ⟨fun A S ip R n ys s₀ c fs K J gd lv s σ H D gc hn k hI ht => ?_⟩
  obtain ⟨acc0, c0, r0, I0⟩ := hI
  refine seg_For ?_ hs
  rw [gc.over]
  refine wpAny_mono (hi.run _ s σ H _ I0 ht) (fun v s1 h1 => wpAny_mono h1 (fun itv s2 h2 => ?_) fun x s' hx => k.exc n s₀ x s' hx) fun x s' hx => k.exc n s₀ x s' hx
  obtain ⟨it, fp, tn, Jt, H2, e, I2, T, st2, f2, W, ⟨m0, w0⟩, turn⟩ := h2
  subst e
  intro p
  have gl := fun (kk : Result → Sem PySem.Fin) => gc_loop (k := kk) (c' := .forLoop tg (.ref it) body [] X.env) (l := lv []) (kp := []) (p := p) gc rfl rfl
  have hfS : ∀ b ∈ fp, b ≠ S := fun b hb z => by
    obtain ⟨_, _, _, _, _, q⟩ := f2 b hb
    exact q (S, lstObj acc0 c0) (List.mem_append_right _ List.mem_cons_self) z.symm
  have stat : ∀ {H' : Hp} (acc : Array Value) (cc : Nat), (∀ b ∈ fp, H' b = none) → ∀ b ∈ fp, FpOk X ((S, lstObj acc cc) :: ip) H' b := fun {H'} acc cc hn b hb => by
    obtain ⟨_, q1, q2, q3, q4, q5⟩ := f2 b hb
    refine ⟨hn b hb, q1, q2, q3, q4, fun u hu => ?_⟩
    rcases List.mem_append.mp hu with hu | hu
    · exact q5 u (List.mem_append_left _ hu)
    · rcases List.mem_cons.mp hu with rfl | hu
      · exact fun z => hfS b hb z.symm
      · exact q5 u (List.mem_append_right _ (List.mem_cons_of_mem _ hu))
  have loop : ∀ (m i n : Nat) (ys : List V) (s₀ s : Shared) (σ : L2.St) (H : Hp), n + ys.length = sizeLine → W i m ys σ H → tn i s.heap → (∀ b ∈ fp, H b = none) → GI X S ip ys σ H s →
      Seg (model X.prog X.w) A R (GY X S) n s₀ (.forLoop tg (.ref it) body [] X.env) ((model X.prog X.w).den (.forLoop tg (.ref it) body [] X.env))
        (.ret (fun r => ((match r with | .ok f => (.pure f : Sem Flow) | .error e => .raise e).onRaise (cameBack X.env)).wrap K J gd lv) none (gd false) (lv []) c p [] :: fs) s := by
    intro m
    induction m using Nat.strongRecOn with
    | ind m ih =>
      intro i n ys s₀ s σ H hn w st fr hI
      have ee : ∀ (n : Nat) (s₀ : Shared) (x : Value) (s' : Shared), X.xe x s' → Seg (model X.prog X.w) A R (GY X S) n s₀ (.forLoop tg (.ref it) body [] X.env)
          ((do noteFrame x X.env; theTreesLotGoes x : Sem Unit).wrap (fun _ => .raise x) .raise id id)
          (.ret (fun r => ((match r with | .ok f => (.pure f : Sem Flow) | .error e => .raise e).onRaise (cameBack X.env)).wrap K J gd lv) none (gd false) (lv []) c p [] :: fs) s' := fun n s₀ x s' hx => by
        refine seg_wrap ?_
        rw [(gl _).over]
        refine wpAny_bind (wpAny_mono (hp x s' hx) (fun _ s'' hcb => wpAny_theTreesLotGoes ?_) fun y s'' hcb => ?_)
        · exact seg_leaf (.error x) (seg_cameBack gc k hcb)
        · exact seg_leaf (.error y) (seg_cameBack gc k hcb)
      refine seg_forLoop ?_
      rw [(gl _).over]
      obtain ⟨acc, cc, r, I⟩ := hI
      rcases turn i m ys σ H w with ⟨stop, qn⟩ | ⟨go, N, hN, step⟩
      · refine wpAny_mono (T.done X rfl rfl rfl hc i _ s σ H X.xe I (stat acc cc fr) st stop) (fun r' s4 h4 => ?_) fun x s' hx => ee n s₀ x s' hx
        obtain ⟨hr, I4⟩ := h4
        subst hr
        refine seg_again rfl ?_
        show Seg _ _ _ _ _ _ _ ((execs [] X.env).wrap (fun f => .pure (.done f)) .raise id id) _ _
        exact seg_execs_nil (seg_leaf (.ok .next) (k.ok n ys s₀ s4 .next hn ⟨σ, H, ⟨acc, cc, r, I4⟩, qn⟩))
      · refine wpAny_mono (T.item X rfl rfl rfl hc i _ s σ H X.xe I (stat acc cc fr) st go) (fun r' s4 h4 => ?_) fun x s' hx => ee n s₀ x s' hx
        obtain ⟨u, hr, h4⟩ := h4
        subst hr
        refine wpAny_mono h4 (fun _ s5 h5 => ?_) fun x s' hx => ee n s₀ x s' hx
        obtain ⟨x, H5, I5, r5, y5, st5, fr5⟩ := h5
        have I5' := I5.pinned (stat acc cc fr5) (T.obj _ _ st5)
        refine wpAny_mono (hg.run _ s5 σ H5 x u _ I5' r5 (step x H5 y5)) (fun _ s6 h6 => ?_) fun x s' hx => ee n s₀ x s' hx
        obtain ⟨σ6, H6, I6, q6⟩ := h6
        have gl2 : ∀ (kk : Result → Sem PySem.Fin), GC X S (ip ++ pinsAt fp s5.heap) A (.forLoop tg (.ref it) body [] X.env) (.ret kk none (gd false) (lv []) c p [] :: fs) id := fun kk => ⟨gc.pn, fun q hq => by
          rcases List.mem_append.mp hq with z | z
          · exact gc.ip q z
          · exact hfS _ (of_pinsAt z).1, gc.apart, (gl kk).over, (gl kk).split, (gl kk).guard, rfl⟩
        refine hb.run A S (ip ++ pinsAt fp s5.heap) R n ys s₀ _ _ _ _ id id s6 σ6 H6 { D with nx := N, ct := N, bk := D.nx } (gl2 _) hn ⟨fun n' ys' s₀' s3 f hn' hs3 => ?_, fun n' s₀' x s3 hx => ee n' s₀' x s3 hx⟩ ⟨acc, cc, r, I6⟩ q6
        have back : ∀ {ys7 : List V} {σ7 : L2.St} {H7 : Hp}, GI X S (ip ++ pinsAt fp s5.heap) ys7 σ7 H7 s3 → GI X S ip ys7 σ7 H7 s3 := fun {ys7 σ7 H7} ⟨a7, c7, r7, I7⟩ => ⟨a7, c7, r7, Inv.unpinned (pins := (S, lstObj a7 c7) :: ip) I7⟩
        have again : ∀ {σ7 : L2.St} {H7 : Hp}, GI X S (ip ++ pinsAt fp s5.heap) ys' σ7 H7 s3 → N ys' σ7 H7 → Seg (model X.prog X.w) A R (GY X S) n' s₀' (.forLoop tg (.ref it) body [] X.env) (.pure (.again (.forLoop tg (.ref it) body [] X.env)))
            (.ret (fun r => ((match r with | .ok f => (.pure f : Sem Flow) | .error e => .raise e).onRaise (cameBack X.env)).wrap K J gd lv) none (gd false) (lv []) c p [] :: fs) s3 := fun {σ7 H7} G7 n7 => by
          obtain ⟨m', hm, w7⟩ := hN ys' σ7 H7 n7
          obtain ⟨a7, c7, r7, I7⟩ := id G7
          have pin7 : ∀ b ∈ fp, ∀ o, s5.heap.get? b = some o → _ := fun b hb o e => I7.pin (b, o) (List.mem_append_right _ (List.mem_cons_of_mem _ (List.mem_append_right _ (mem_pinsAt hb e))))
          refine seg_again rfl (ih m' hm (i + 1) n' ys' s₀' s3 σ7 H7 hn' w7 (T.keep _ _ _ st5 fun b hb o e => (pin7 b hb o e).1) (fun b hb => ?_) (back G7))
          obtain ⟨o, e, d⟩ := T.obj _ _ st5 b hb
          exact (pin7 b hb o e).2.1
        cases f with
        | next =>
          obtain ⟨σ3, H3, G3, n3⟩ := hs3
          exact again G3 n3
        | cont =>
          obtain ⟨σ3, H3, G3, n3⟩ := hs3
          exact again G3 n3
        | brk =>
          obtain ⟨σ3, H3, G3, n3⟩ := hs3
          exact seg_leaf (.ok .next) (k.ok n' ys' s₀' s3 .next hn' ⟨σ3, H3, back G3, n3⟩)
        | ret v =>
          obtain ⟨x7, σ3, H3, G3, rv, n3⟩ := hs3
          exact seg_leaf (.ok (.ret v)) (k.ok n' ys' s₀' s3 (.ret v) hn' ⟨x7, σ3, H3, back G3, rv, n3⟩)
  exact loop m0 0 n ys s₀ s2 σ H2 hn w0 st2 (fun b hb => (f2 b hb).1) ⟨acc0, c0, r0, I2⟩
end
end Sv

namespace Sv
open PySem PySem.Spec PyProof.Rows L2
/-! ### generator bodies by syntax -/
structure GWL (X : Cx) (sts : List Stmt) (D : GEnds) (ys : List V) (σ : L2.St) (H : Hp) : Prop where
  run : ∀ (A : Around) (S : Addr) (ip : List (Addr × Obj)) (R : GenEnd) (n : Nat) (s₀ : Shared) (c : Code) (fs : List Frame) (K : Flow → Sem PySem.Fin) (J : Value → Sem PySem.Fin) (gd : Bool → Bool) (lv : List Value → List Value) (s : Shared),
    GC X S ip A c fs gd → n + ys.length = sizeLine → GK X S ip A R c fs K J D → GI X S ip ys σ H s → Seg (model X.prog X.w) A R (GY X S) n s₀ c ((execs sts X.env).wrap K J gd lv) fs s
structure GWS (X : Cx) (st : Stmt) (D : GEnds) (ys : List V) (σ : L2.St) (H : Hp) : Prop where
  run : ∀ (A : Around) (S : Addr) (ip : List (Addr × Obj)) (R : GenEnd) (n : Nat) (s₀ : Shared) (c : Code) (fs : List Frame) (K : Flow → Sem PySem.Fin) (J : Value → Sem PySem.Fin) (gd : Bool → Bool) (lv : List Value → List Value) (s : Shared),
    GC X S ip A c fs gd → n + ys.length = sizeLine → GK X S ip A R c fs K J D → GI X S ip ys σ H s → Seg (model X.prog X.w) A R (GY X S) n s₀ c ((exec st X.env).wrap K J gd lv) fs s
section
variable {X : Cx} {N L S G B : List Str} {st : Stmt} {sts : List Stmt} {e tg iter : Expr} {D : GEnds} {ys : List V} {σ : L2.St} {H : Hp} {pos yp : Pos}
theorem gss_w : GSs X sts (GWL X sts) := ⟨fun A S ip R n ys s₀ c fs K J gd lv s σ H D g hn k hI h => h.run A S ip R n s₀ c fs K J gd lv s g hn k hI⟩
theorem gs_w : GS X st (GWS X st) := ⟨fun A S ip R n ys s₀ c fs K J gd lv s σ H D g hn k hI h => h.run A S ip R n s₀ c fs K J gd lv s g hn k hI⟩
theorem gss_to {t : TGn} (a : GSs X sts t) (h : t D ys σ H) : GWL X sts D ys σ H := ⟨fun A S ip R n s₀ c fs K J gd lv s g hn k hI => a.run A S ip R n ys s₀ c fs K J gd lv s σ H D g hn k hI h⟩
theorem gs_to {t : TGn} (a : GS X st t) (h : t D ys σ H) : GWS X st D ys σ H := ⟨fun A S ip R n s₀ c fs K J gd lv s g hn k hI => a.run A S ip R n ys s₀ c fs K J gd lv s σ H D g hn k hI h⟩
theorem gwl_nil (q : D.nx ys σ H) : GWL X [] D ys σ H := gss_to gss_nil q
theorem gwl_cons (h : GWS X st { D with nx := fun ys' σ' H' => GWL X sts D ys' σ' H' } ys σ H) : GWL X (st :: sts) D ys σ H := gss_to (gss_cons gs_w gss_w) h
theorem gws_plain (h : WS X st (D.at ys) σ H) : GWS X st D ys σ H := gs_to (gs_ps ps_w) h
theorem gws_yield (hl : ys.length < sizeLine) (h : WE X e σ H fun x H1 => D.nx (ys ++ [x]) σ H1) (hco : X.env.scope.isCoroutine = false) (hi : interactive X.env = false) : GWS X (.Expr (.Yield (some e) yp) pos) D ys σ H := gs_to (gs_yield pe_w hco hi) ⟨hl, h⟩
theorem gws_for (hp : PassesOwn (model X.prog X.w) X.A X.env X.xe) (hc : Nm X N L S G B)
    (h : WI X tg iter σ H fun J H1 => ∃ n it, Wlk J n it H1 ∧ ∃ Pv : Nat → List V → L2.St → Hp → Prop, Pv 0 ys σ H1 ∧ (∀ i ys' σ' H', Pv i ys' σ' H' → Same H1 H') ∧
      (∀ i ys' σ' H', i < n → Pv i ys' σ' H' → WG X tg (it i) σ' H' fun σ2 H2 => GWL X sts { D with nx := Pv (i + 1), ct := Pv (i + 1), bk := D.nx } ys' σ2 H2) ∧ ∀ ys' σ' H', Pv n ys' σ' H' → D.nx ys' σ' H')
    (hs : ∀ x, foldedSetIterable iter X.env x = pure x := by intro _; with_unfolding_all rfl) : GWS X (.For tg iter sts [] pos) D ys σ H := by
  refine gs_to (gs_for hp hc.calm pi_w pg_w gss_w hs) ?_
  refine ⟨fun pins s I => thn (h.run pins s I) fun v s1 h1 => thn h1 fun itv s2 ⟨it, fp, tn, J, H', e, I', T, t0, hf, n, itm, W, Pv, p0, hsm, hst, hd⟩ => ⟨it, fp, tn, J, H', e, I', T, t0, hf, ?_⟩⟩
  refine ⟨fun i m ys' σ' H'' => m = n - i ∧ i ≤ n ∧ Pv i ys' σ' H'', ⟨n, by simp, Nat.zero_le _, p0⟩, ?_⟩
  rintro i m ys' σ' H'' ⟨rfl, hi, p⟩
  by_cases hlt : i < n
  · refine .inr ⟨W.go i H'' hlt (hsm _ _ _ _ p), Pv (i + 1), fun ys2 σ2 H2 p' => ⟨n - (i + 1), by omega, rfl, hlt, p'⟩, fun x H3 y => ?_⟩
    obtain ⟨rfl, rfl⟩ := W.yld i H'' x H3 hlt (hsm _ _ _ _ p) y
    exact hst i ys' σ' _ hlt p
  · have e : i = n := by omega
    subst e
    exact .inl ⟨W.stop _ _ (Nat.le_refl _) (hsm _ _ _ _ p), hd _ _ _ p⟩
end
/-! ### a generator def -/
def gscB (N ps L G B : List Str) (sc : Scope) : Bool :=
  (match sc.kind with | .function => true | _ => false) && !sc.isCoroutine && sc.isGenerator && decide N.Nodup && decide (N.take ps.length = ps) && ps.all (locB sc) && (sc.names.all fun y => match y.2 with | .free => false | _ => true) &&
  (L.all fun x => locB sc x && !(x == ("__debug__" : Str)) && !(x == ("__classdict__" : Str))) && (G.all fun x => gloB sc x && !(x == ("__debug__" : Str)) && decide (x ≠ "__name__")) && (B.all fun x => gloB sc x && !(x == ("__debug__" : Str)) && decide (x ≠ "__name__"))
theorem gscB_ok {N ps L G B : List Str} {sc : Scope} (h : gscB N ps L G B sc = true) : GScope N ps sc ∧ (∀ x ∈ L, Loc sc x ∧ (x == ("__debug__" : Str)) = false ∧ (x == ("__classdict__" : Str)) = false) ∧
    (∀ x ∈ G, sc.names.lookup x = some .globalImplicit ∧ (x == ("__debug__" : Str)) = false ∧ x ≠ "__name__") ∧ (∀ x ∈ B, sc.names.lookup x = some .globalImplicit ∧ (x == ("__debug__" : Str)) = false ∧ x ≠ "__name__") := by
  unfold gscB at h
  simp only [Bool.and_eq_true, List.all_eq_true, decide_eq_true_eq, Bool.not_eq_true'] at h
  obtain ⟨⟨⟨⟨⟨⟨⟨⟨⟨h1, h2⟩, h3⟩, h4⟩, h5⟩, h6⟩, h7⟩, h8⟩, h9⟩, h10⟩ := h
  refine ⟨⟨?_, h2, h3, h4, h5, fun x hx => locB_ok (h6 x hx), fun y hy e => ?_⟩, fun x hx => ⟨locB_ok (h8 x hx).1.1, (h8 x hx).1.2, (h8 x hx).2⟩, fun x hx => ⟨gloB_ok (h9 x hx).1.1, (h9 x hx).1.2, (h9 x hx).2⟩, fun x hx => ⟨gloB_ok (h10 x hx).1.1, (h10 x hx).1.2, (h10 x hx).2⟩⟩
  · split at h1
    · assumption
    · cases h1
  · have := h7 y hy
    rw [e] at this
    cases this
abbrev gcx (P : Program) (w : World) (K : PySem.W.Frag) (mg : Str → Option Value) (base : Heap) (N : List Str) (qual : Str) (sc : Scope) (f : Addr) (cd : Value) (A : Around) (outer : List Env) (s : Shared) (H : Hp) (E : XK) (pn : List (Addr × Obj)) : Cx := gcxOf P w K mg base N qual sc f cd A outer s H E pn
theorem gnm_of {P : Program} {w : World} {K : PySem.W.Frag} {mg : Str → Option Value} {base : Heap} {N ps L G B : List Str} {qual : Str} {sc : Scope} {f : Addr} {cd : Value} {A : Around} {outer : List Env} {s : Shared} {H : Hp} {E : XK} {pn : List (Addr × Obj)} (h : gscB N ps L G B sc = true) (hb : ∀ x ∈ B, mg x = none) :
    Nm (gcx P w K mg base N qual sc f cd A outer s H E pn) N L L G B := by
  obtain ⟨F, hL, hG, hB⟩ := gscB_ok h
  exact ⟨rfl, F.nd, fun x hx => ⟨by rcases (hL x hx).1 with z | z; exact .inl z; exact .inr (.inl z), (hL x hx).2⟩, fun x hx => ⟨(hL x hx).1, .inl rfl⟩, hG, hb, hB, rfl⟩
/-- THE RULE for a generator def without defaults -/
theorem gfn_by {P : Program} {w : World} {K : PySem.W.Frag} {mg : Str → Option Value} {base : Heap} {N ps L G B : List Str} {k : Nat} {x qual : Str} {params : Arguments} {body : List Stmt} {sc : Scope} {f : Addr} {fd : FuncData} {sp : SpG}
    (F : FunD K x qual params body sc [] [] f fd) (S : gscB N ps L G B sc = true) (len : ∀ vs H Q E, sp vs H Q E → vs.length = ps.length) (hb : ∀ x ∈ B, mg x = none)
    (hbody : ∀ (cd : Value) (A : Around) (outer : List Env) (s : Shared) (H : Hp) (vs : List V) (Q : List V → Hp → Prop) (E : XK) (pn : List (Addr × Obj)), Room k (gcx P w K mg base N qual sc f cd A outer s H E pn).A → Nm (gcx P w K mg base N qual sc f cd A outer s H E pn) N L L G B → sp vs H Q E →
      GWL (gcx P w K mg base N qual sc f cd A outer s H E pn) body { nx := fun ys _ H' => Q ys H', rt := fun ys v H' => v = .non ∧ Q ys H' } [] (start N vs) H) : GFn P w K mg base (k + 1) f fd ps sp := by
  obtain ⟨oc, od, dV, kV, doc, pm, an, cdv, ct, osl, rfl, lk, hcd, _, _⟩ := F.ex
  exact gfn_of lk hcd (gscB_ok S).1 len fun A outer s H vs Q E pn hr h => ⟨GWL (gcx P w K mg base N qual sc f cdv A outer s H E pn) body, gss_w, hbody cdv A outer s H vs Q E pn hr (gnm_of S hb) h⟩
/-- o.m(..), a generator method of the class at C -/
structure GMt (P : Program) (w : World) (K : PySem.W.Frag) (mg : Str → Option Value) (base : Heap) (C : Addr) (m : Str) (k : Nat) (sp : SpG) : Prop where
  ex : ∃ f fd ps, Cls K C ∧ Meth K C m f ∧ GFn P w K mg base k f fd ps sp ∧ Binds K fd ps []
theorem x_listM {X : Cx} {N L S G B : List Str} {o e : Expr} {es : List Expr} {m : Str} {C : Addr} {k j : Nat} {sp : SpG} {σ : L2.St} {H : Hp} {Q : VK} {p apos pos' pos : Pos} {pl : Sem Bool} (c : Nm X N L S G B) (mm : Mb "list" B) (F : GMt X.prog X.w X.K X.mg X.base C m k sp) (hr : Room j X.A) (hj : k + 3 ≤ j)
    (h : WE X o σ H fun x H1 => ∃ a dx fs, x = .ref a ∧ H1 a = some (.ins C dx fs) ∧ fs.lookup m = none ∧ WA X (e :: es) σ H1 fun vs H2 => sp (.ref a :: vs) H2 (fun out H3 => ∀ q, H3 q = none → Q (.ref q) (upd H3 q (.lst out))) E0)
    (hst : starEach (e :: es) X.env = (false, eval e X.env) :: starEach es X.env := by with_unfolding_all rfl) (hpl : (backTo pos' (starEach es X.env)).any (·.1) = false := by with_unfolding_all rfl)
    (ht : eval (.Call (.Attribute o m apos) (e :: es) [] pos') X.env = (do
      let ov ← eval o X.env
      standAt apos.atName
      let (f, first) ← holding [ov] (getMethod ov m pl)
      callWith pos' f first (backTo pos' (starEach (e :: es) X.env)) (backToKw pos' (keywordEach [] X.env))) := by with_unfolding_all rfl)
    (he : starEach [.Call (.Attribute o m apos) (e :: es) [] pos'] X.env = (false, eval (.Call (.Attribute o m apos) (e :: es) [] pos') X.env) :: starEach [] X.env := by with_unfolding_all rfl) :
    WE X (.Call (.Name "list" p) [.Call (.Attribute o m apos) (e :: es) [] pos'] [] pos) σ H Q := by
  obtain ⟨f, fd, ps, cl, hm, F, hB⟩ := F.ex
  refine (pe_listG (E := E0) (pgen_meth (E := E0) pe_w cl hm F (hr.mono (by omega)) hB .nil pa_w hst hpl ht) passL (fun _ _ _ z => z.elim) (hr.mono hj) (c.bgl _ mm.mem).1 (c.blt _ mm.mem) bt_list (he := he)).w ?_
  refine WE.imp h fun x H1 ⟨a, dx, fs, ex, ha, hl, q⟩ => ⟨a, dx, fs, ex, ha, hl, WA.imp q fun vs H2 q2 => ?_⟩
  rw [List.append_nil, ex]
  exact q2
theorem wl_startG {X : Cx} {sts : List Stmt} {D : GEnds} {ys : List V} {σ σ' : L2.St} {H : Hp} (e : σ = σ') (h : GWL X sts D ys σ' H) : GWL X sts D ys σ H := e ▸ h
theorem gEx {α : Type} {p : α → Prop} (h : ∃ x, p x) : ∃ x, p x := h
/-! tests for None -/
theorem dec_nn : decide (V.non = V.non) = true := decide_eq_true rfl
theorem dec_rn {a : Addr} : decide (V.ref a = V.non) = false := decide_eq_false (fun z => nomatch z)
theorem ite_nn {A B : Prop} (h : A) : if decide (V.non = V.non) = true then A else B := by rw [dec_nn, if_pos rfl]; exact h
theorem ite_rn {a : Addr} {A B : Prop} (h : B) : if decide (V.ref a = V.non) = true then A else B := by rw [dec_rn, if_neg (by decide)]; exact h
theorem ite_nnn {A B : Prop} (h : B) : if (!decide (V.non = V.non)) = true then A else B := by rw [dec_nn]; exact h
theorem ite_nrn {a : Addr} {A B : Prop} (h : A) : if (!decide (V.ref a = V.non)) = true then A else B := by rw [dec_rn]; exact h
/-- a statement, then what is known behind it -/
theorem WS.cut {X : Cx} {st : Stmt} {D : Ends} {σ : L2.St} {H : Hp} (M : L2.St → Hp → Prop) (h : WS X st { D with nx := M } σ H) (k : ∀ σ' H', M σ' H' → D.nx σ' H') : WS X st D σ H :=
  ⟨fun pins s I => thn (h.run pins s I) fun f s' z => by
    cases f with
    | next => obtain ⟨σ', H', I', m⟩ := z; exact ⟨σ', H', I', k _ _ m⟩
    | brk => exact z
    | cont => exact z
    | ret u => exact z⟩
theorem dec_in {i : Int} : decide (V.int i = V.non) = false := decide_eq_false (fun z => nomatch z)
theorem dec_tt : decide (true = true) = true := rfl
end Sv

namespace Sv
open PySem PySem.Spec PyProof.Rows L2
section
variable {X : Cx} {N L S G B : List Str} {a e : Expr} {σ : L2.St} {H : Hp} {Q : VK} {p p2 p3 pos : Pos}
theorem rgV_nat (n : Nat) : rgV 0 ((n : Nat) : Int) = (List.range n).map fun i => V.int ((i : Nat) : Int) := by
  unfold rgV
  rw [show (((n : Nat) : Int) - 0).toNat = n by omega]
  exact List.map_congr_left fun i _ => by rw [Int.zero_add]
/-- list(range(n)) -/
theorem x_listRg (c : Nm X N L S G B) (m : Mb "list" B) (m2 : Mb "range" B) (h : WE X a σ H fun x H1 => ∃ n : Nat, x = .int (n : Nat) ∧ n ≤ 16777216 ∧ ∀ q H', H1 q = none → Same H1 H' → H' q = some (.lst ((List.range n).map fun i => V.int ((i : Nat) : Int))) → Q (.ref q) H')
    (na2 : starEach [a] X.env = (false, eval a X.env) :: starEach [] X.env := by with_unfolding_all rfl)
    (na : starEach [.Call (.Name "range" p2) [a] [] p3] X.env = (false, eval (.Call (.Name "range" p2) [a] [] p3) X.env) :: starEach [] X.env := by with_unfolding_all rfl) : WE X (.Call (.Name "list" p) [.Call (.Name "range" p2) [a] [] p3] [] pos) σ H Q :=
  (pe_listRg c.calm (c.bgl _ m.mem).1 (c.blt _ m.mem) (prg_1 (c.bgl _ m2.mem).1 (c.blt _ m2.mem) pe_w na2) na).w (WE.imp h fun x H1 ⟨n, e, hn, q⟩ => ⟨((n : Nat) : Int), e, RgOk.of_le (by omega) (by omega) (by omega) (by omega), fun q' hq => by rw [rgV_nat]; exact q q' _ hq (same_new hq) upd_same⟩)
theorem bt_repr : bootBuiltins "repr" = some (.builtin "repr") := by decide +kernel
/-- repr of an int -/
theorem x_repr (c : Nm X N L S G B) (m : Mb "repr" B) (h : WE X e σ H fun x H1 => ∃ i : Int, x = .int i ∧ i.natAbs.log2 < 1920 ∧ Q (.str (toString i)) H1) (hs : starEach [e] X.env = (false, eval e X.env) :: starEach [] X.env := by with_unfolding_all rfl) (hpl : (backTo pos (starEach [] X.env)).any (·.1) = false := by with_unfolding_all rfl) : WE X (.Call (.Name "repr" p) [e] [] pos) σ H Q :=
  w_callB c m bt_repr (wa_cons (WE.imp h fun x H1 ⟨i, ex, hz, q⟩ => wa_nil (by rw [ex]; exact (SkE.call_repr_int).w ⟨i, rfl, hz, q⟩)) hs) hs hpl
theorem b_fdivW {i j : Int} (h : 0 < j ∧ j.natAbs.log2 < 9000) (q : Q (.int (i / j)) H) : WB X (binaryOp .FloorDiv) (.int i) (.int j) σ H Q := op_fdivW.w ⟨_, _, rfl, rfl, h, q⟩
end
end Sv

namespace Sv
open PySem PySem.Spec PyProof.Rows L2
section
variable {X : Cx} {N L S G B : List Str} {e : Expr} {σ : L2.St} {H : Hp} {Q : VK} {p pos : Pos}
theorem bt_dict : bootBuiltins "dict" = some (.type "dict") := by decide +kernel
/-- dict(xs) of a list of pairs -/
theorem x_dictP (c : Nm X N L S G B) (m : Mb "dict" B) (h : WE X e σ H fun x H1 => ∃ (a : Addr) (ps : List Addr) (kvs : List (Key × V)), x = .ref a ∧ SqL X.K H1 a (ps.map V.ref) ∧ Paired (fun p kv => SqT X.K H1 p [kV kv.1, kv.2]) ps kvs ∧ ∀ p H', H1 p = none → Same H1 H' → H' p = some (.dK (mergeK [] kvs)) → Q (.ref p) H')
    (hs : starEach [e] X.env = (false, eval e X.env) :: starEach [] X.env := by with_unfolding_all rfl) (hpl : (backTo pos (starEach [] X.env)).any (·.1) = false := by with_unfolding_all rfl) : WE X (.Call (.Name "dict" p) [e] [] pos) σ H Q :=
  w_callTy c m bt_dict (wa_cons (WE.imp h fun x H1 ⟨a, ps, kvs, ex, hq, hp, q⟩ => wa_nil (by rw [ex]; exact (call_dictP c.calm).w ⟨a, ps, kvs, rfl, hq, hp, newly' (Q := fun p H' => Q (.ref p) H') q⟩)) hs) hs hpl
/-- y in d -/
theorem b_inD {y : V} {a : Addr} {o : Option V} (hu : X.A.units + 1 < cLine) (g : DGet H a y o) (q : Q (.bl o.isSome) H) : WB X (compareOp .In) y (.ref a) σ H Q := ⟨fun pins s v u I rx ry => by
  obtain rfl : u = Value.ref a := ry
  exact d_in hu I g rx fun s3 I3 => ⟨.bl o.isSome, H, I3, rfl, q⟩⟩
end
theorem valV_merge (k : Key) : ∀ (more kvs : List (Key × V)), (valV (mergeK kvs more) k).isSome = ((valV kvs k).isSome || more.any fun kv => decide (kv.1 = k))
  | [], kvs => by show _ = ((valV kvs k).isSome || false); rw [Bool.or_false]; rfl
  | kv :: more, kvs => by
    show (valV (mergeK (putK kvs kv.1 kv.2) more) k).isSome = _
    rw [valV_merge k more, valV_put, List.any_cons]
    by_cases h : k = kv.1
    · rw [if_pos h, decide_eq_true h.symm]; simp
    · rw [if_neg h, decide_eq_false (fun z => h z.symm), Bool.false_or]
/-- lists of numbers as data -/
theorem dps_ints {K : PySem.W.Frag} {H : Hp} : ∀ ns : List Nat, DpAll K H ((ns.map fun n => ((n : Nat) : Int)).map V.int) ((ns.map fun n => ((n : Nat) : Int)).map PyData.int)
  | [] => .nil
  | _ :: ns => .cons (.int _) (dps_ints ns)
theorem eqv_ints : ∀ ns : List Int, PyData.eqvAll (ns.map PyData.int) (ns.map PyData.int) = true
  | [] => by simp [PyData.eqvAll]
  | n :: ns => by
    have := eqv_ints ns
    simp only [List.map_cons, PyData.eqvAll, this]
    simp [PyData.eqv]
theorem eqv_list (ns : List Int) : PyData.eqv (.list (ns.map PyData.int)) (.list (ns.map PyData.int)) = true := by
  have := eqv_ints ns
  simp only [PyData.eqv, this]
end Sv

namespace Sv
open PySem PySem.Spec PyProof.Rows L2
section
variable {X : Cx} {o e : Expr} {σ : L2.St} {H : Hp} {Q : VK} {apos pos : Pos}
/-- xs.index(e) of flat items -/
theorem w_lindex (h : WE X o σ H fun x H1 => ∃ l, x = .ref l ∧ (∃ xs, SqL X.K H1 l xs) ∧ WE X e σ H1 fun y H2 => ∃ (ys : List V) (j : Nat) (z : V), SqL X.K H2 l ys ∧ flatV y = true ∧ ys.all flatV = true ∧ ys[j]? = some z ∧ eqV z y = true ∧ (∀ (m : Nat) (z' : V), m < j → ys[m]? = some z' → eqV z' y = false) ∧ Q (.int (j : Nat)) H2)
    (hbase : attributeBase o "index" X.env (eval o X.env) = eval o X.env := by with_unfolding_all rfl)
    (hfew : ((backTo pos (starEach [e] X.env)).all (fun x => !x.1) && (backToKw pos (keywordEach [] X.env)).all (fun x => x.1.isSome)
      && decide ([e].length + ([] : List Keyword).length + (if ([] : List Keyword).isEmpty then 0 else 1) < 30)) = true := by with_unfolding_all rfl)
    (hline : (apos.endLine == pos.line) = true := by with_unfolding_all rfl) (hs : starEach [e] X.env = (false, eval e X.env) :: starEach [] X.env := by with_unfolding_all rfl) : WE X (.Call (.Attribute o "index" apos) [e] [] pos) σ H Q := by
  refine (pe_bm PySem.F.plainAttrs_list PySem.F.slot_list_index PySem.F.type_list_index mt_index pe_w (pa_cons pe_w pa_nil hs) hbase hfew hline hs rfl).w ?_
  exact WE.imp h fun x H1 ⟨l, e1, ⟨xs, hx⟩, q⟩ => ⟨by rw [e1]; exact Or.inl ⟨rfl, xs, hx⟩, WE.imp q fun y H2 ⟨ys, j, z, h2, fy, fys, hz, ez, hno, q⟩ => ⟨l, ys, y, j, z, e1, rfl, h2, fy, fys, hz, ez, hno, q⟩⟩
end
theorem call_repr_bool {X : Cx} : CallR X (.builtin "repr") (fun xs H Q => ∃ b : Bool, xs = [.bl b] ∧ Q (.str (if b then "True" else "False")) H) := by
  intro pins s σ H xs us Q I r h
  obtain ⟨b, rfl, q⟩ := h
  obtain ⟨u, rfl, hu⟩ := vals1 r
  obtain rfl : u = .bool b := hu
  exact PySem.P.repr_of_bool ⟨.str _, H, I.tok _, ⟨_, rfl⟩, q⟩
/-- repr of a bool -/
theorem x_reprB {X : Cx} {N L S G B : List Str} {e : Expr} {σ : L2.St} {H : Hp} {Q : VK} {p pos : Pos} (c : Nm X N L S G B) (m : Mb "repr" B) (h : WE X e σ H fun x H1 => ∃ b : Bool, x = .bl b ∧ Q (.str (if b then "True" else "False")) H1) (hs : starEach [e] X.env = (false, eval e X.env) :: starEach [] X.env := by with_unfolding_all rfl) (hpl : (backTo pos (starEach [] X.env)).any (·.1) = false := by with_unfolding_all rfl) : WE X (.Call (.Name "repr" p) [e] [] pos) σ H Q :=
  w_callB c m bt_repr (wa_cons (WE.imp h fun x H1 ⟨b, ex, q⟩ => wa_nil (by rw [ex]; exact call_repr_bool.w ⟨b, rfl, q⟩)) hs) hs hpl
theorem dec_sn {x : Str} : decide (V.str x = V.non) = false := decide_eq_false (fun z => nomatch z)
theorem flat_ints (ns : List Int) : (ns.map V.int).all flatV = true := by
  rw [List.all_map, List.all_eq_true]
  intro x _
  rfl
theorem inV_ints (n : Nat) (ns : List Nat) : inV (.int ((n : Nat) : Int)) ((ns.map fun n => ((n : Nat) : Int)).map V.int) = ns.any (· == n) := by
  unfold inV
  rw [List.any_map, List.any_map]
  congr 1
  funext m
  show (((m : Nat) : Int) == ((n : Nat) : Int)) = (m == n)
  rw [Bool.eq_iff_iff, beq_iff_eq, beq_iff_eq]
  exact Int.natCast_inj
theorem eqv_nil (ns : List Int) : PyData.eqv (.list (ns.map PyData.int)) (.list []) = ns.isEmpty := by
  cases ns with
  | nil => simp [PyData.eqv, PyData.eqvAll]
  | cons n ns => simp [PyData.eqv, PyData.eqvAll]
end Sv

/-! Beginnings: the numbers with f by their index, and where there is room between them. -/
namespace Sv
open PySem PySem.Spec PyProof.Rows L2

open Classical in
/-- the i-th number with f -/
noncomputable def nthF (f : Nat → Bool) (i : Nat) : Nat := if h : ∃ n, f n = true ∧ ct f n = i then Classical.choose h else 0
theorem nthF_eq {f : Nat → Bool} {n i : Nat} (h1 : f n = true) (h2 : ct f n = i) : nthF f i = n := by
  have h : ∃ n, f n = true ∧ ct f n = i := ⟨n, h1, h2⟩
  unfold nthF
  rw [dif_pos h]
  obtain ⟨a, b⟩ := Classical.choose_spec h
  exact ct_inj a h1 (b.trans h2.symm)
/-- there is a number of each index -/
def AllN (f : Nat → Bool) : Prop := ∀ i, f (nthF f i) = true ∧ ct f (nthF f i) = i
theorem Per.all {f : Nat → Bool} {p : Nat} (h : Per f p) (hp : 0 < ct f p) : AllN f := fun i => by
  obtain ⟨n, a, b⟩ := nth_of h hp i
  rw [nthF_eq a b]
  exact ⟨a, b⟩
theorem Pat.all {l : List Bool} (p : Pat l) : AllN (kp l) := (kp_per l).all p.size
theorem AllN.lt {f : Nat → Bool} (h : AllN f) {i j : Nat} (l : i < j) : nthF f i < nthF f j := by
  refine Classical.byContradiction fun z => ?_
  have := ct_mono f (show nthF f j ≤ nthF f i by omega)
  rw [(h i).2, (h j).2] at this
  omega
theorem AllN.lt_of {f : Nat → Bool} (h : AllN f) {i P : Nat} (l : i < ct f P) : nthF f i < P := by
  refine Classical.byContradiction fun z => ?_
  have := ct_mono f (show P ≤ nthF f i by omega)
  rw [(h i).2] at this
  omega
theorem AllN.ge {f : Nat → Bool} (h : AllN f) {i P : Nat} (l : ct f P ≤ i) : P ≤ nthF f i := by
  refine Classical.byContradiction fun z => ?_
  have := ct_lt (h i).1 (show nthF f i < P by omega)
  rw [(h i).2] at this
  omega
theorem AllN.per {f : Nat → Bool} (h : AllN f) {P : Nat} (hp : Per f P) (i : Nat) : nthF f (i + ct f P) = nthF f i + P :=
  nthF_eq (by rw [hp]; exact (h i).1) (by rw [Nat.add_comm (nthF f i), ct_add hp, (h i).2, Nat.add_comm])
/-- b's numbers have room within a's -/
structure Fit (a b : Nat → Nat) (L : Nat) : Prop where
  low : b 0 ≤ a 0
  step : ∀ i, i + 1 < L → b (i + 1) + a i ≤ a (i + 1) + b i
  top : b L + a 0 + a (L - 1) ≤ a L + b 0 + b (L - 1)
def Quasi (a : Nat → Nat) (L : Nat) : Prop := ∀ i, a (i + L) + a 0 = a i + a L
theorem AllN.quasi {f : Nat → Bool} (h : AllN f) {P : Nat} (hp : Per f P) : Quasi (nthF f) (ct f P) := fun i => by
  have e := h.per hp 0
  rw [Nat.zero_add] at e
  rw [h.per hp, e]
  omega
theorem Quasi.mul {a : Nat → Nat} {L : Nat} (h : Quasi a L) (i : Nat) : ∀ k, a (i + k * L) + k * a 0 = a i + k * a L
  | 0 => by simp
  | k + 1 => by
    have e1 := h.mul i k
    have e2 := h (i + k * L)
    rw [show i + (k + 1) * L = i + k * L + L by rw [Nat.succ_mul]; omega, Nat.succ_mul, Nat.succ_mul]
    omega
theorem fit_mul {a b : Nat → Nat} {L k : Nat} (qa : Quasi a L) (qb : Quasi b L) (hL : 0 < L) (hk : 0 < k) : Fit a b L ↔ Fit a b (k * L) := by
  have e1 : k * L - 1 = (L - 1) + (k - 1) * L := by
    obtain ⟨k', rfl⟩ : ∃ k', k = k' + 1 := ⟨k - 1, by omega⟩
    rw [Nat.add_sub_cancel, Nat.succ_mul]
    omega
  have a1 := qa.mul (L - 1) (k - 1)
  have b1 := qb.mul (L - 1) (k - 1)
  have a2 := qa.mul 0 k
  have b2 := qb.mul 0 k
  rw [Nat.zero_add] at a2 b2
  have ka : k * a 0 = (k - 1) * a 0 + a 0 := by
    obtain ⟨k', rfl⟩ : ∃ k', k = k' + 1 := ⟨k - 1, by omega⟩
    rw [Nat.add_sub_cancel, Nat.succ_mul]
  have kb : k * b 0 = (k - 1) * b 0 + b 0 := by
    obtain ⟨k', rfl⟩ : ∃ k', k = k' + 1 := ⟨k - 1, by omega⟩
    rw [Nat.add_sub_cancel, Nat.succ_mul]
  have ka2 : k * a L = (k - 1) * a L + a L := by
    obtain ⟨k', rfl⟩ : ∃ k', k = k' + 1 := ⟨k - 1, by omega⟩
    rw [Nat.add_sub_cancel, Nat.succ_mul]
  have kb2 : k * b L = (k - 1) * b L + b L := by
    obtain ⟨k', rfl⟩ : ∃ k', k = k' + 1 := ⟨k - 1, by omega⟩
    rw [Nat.add_sub_cancel, Nat.succ_mul]
  constructor
  · intro F
    refine ⟨F.low, fun i hi => ?_, ?_⟩
    · have hr : i % L < L := Nat.mod_lt _ hL
      have hd : i = i % L + i / L * L := by rw [Nat.mul_comm]; exact (Nat.mod_add_div i L).symm
      generalize i % L = r at *
      generalize i / L = q at *
      subst hd
      have a3 := qa.mul r q
      have b3 := qb.mul r q
      by_cases h : r + 1 < L
      · have a4 := qa.mul (r + 1) q
        have b4 := qb.mul (r + 1) q
        have st := F.step r h
        rw [show r + q * L + 1 = r + 1 + q * L by omega]
        omega
      · have er : r = L - 1 := by omega
        have a4 := qa.mul 0 (q + 1)
        have b4 := qb.mul 0 (q + 1)
        rw [Nat.zero_add, Nat.succ_mul q (a 0), Nat.succ_mul q (a L)] at a4
        rw [Nat.zero_add, Nat.succ_mul q (b 0), Nat.succ_mul q (b L)] at b4
        rw [show r + q * L + 1 = (q + 1) * L by rw [Nat.succ_mul]; omega]
        have t := F.top
        have l := F.low
        rw [er] at a3 b3 ⊢
        omega
    · have t := F.top
      rw [e1]
      omega
  · intro F
    have hle : L ≤ k * L := Nat.le_mul_of_pos_left _ hk
    refine ⟨F.low, fun i hi => F.step i (by omega), ?_⟩
    have t := F.top
    rw [e1] at t
    omega
/-- the period of f's that holds L of its numbers, p of them s -/
theorem ct_of {f : Nat → Bool} {p L : Nat} (hp : Per f p) (h : ct f p ∣ L) : Per f (p * (L / ct f p)) ∧ ct f (p * (L / ct f p)) = L := ⟨hp.dvd (Nat.dvd_mul_right _ _), ct_top hp h⟩
/-- whether the fit is asked over some numbers or over more of them -/
theorem fit_more {f g : Nat → Bool} {p q L M : Nat} (hf : Per f p) (hg : Per g q) (h1 : 0 < ct f p) (h2 : 0 < ct g q) (d1 : ct f p ∣ L) (d2 : ct g q ∣ L) (hL : 0 < L) (hM : 0 < M) (d : L ∣ M) : Fit (nthF f) (nthF g) L ↔ Fit (nthF f) (nthF g) M := by
  obtain ⟨k, rfl⟩ := d
  rw [Nat.mul_comm L k]
  have hk : 0 < k := Nat.pos_of_ne_zero fun z => by rw [z] at hM; simp at hM
  have f1 := ct_of hf d1
  have g1 := ct_of hg d2
  have qf := (hf.all h1).quasi f1.1
  have qg := (hg.all h2).quasi g1.1
  rw [f1.2] at qf
  rw [g1.2] at qg
  exact fit_mul qf qg hL hk
theorem ct_diff (f : Nat → Bool) {x y : Nat} (h : x ≤ y) : ct f y + x ≤ y + ct f x := by
  induction h with
  | refl => omega
  | step h ih => rw [ct_succ]; split <;> omega
/-- what is kept of what is kept has room -/
theorem fit_cmp {a g : Nat → Bool} {P : Nat} (ha : Per a P) (hs : 0 < ct a P) (hg : Per g (ct a P)) (h2 : 0 < ct g (ct a P)) : Fit (nthF (cmp a g)) (nthF g) (ct g (ct a P)) := by
  have A := ha.all hs
  have G := hg.all h2
  have hP : Per (cmp a g) P := fun n => by
    unfold cmp
    rw [ha, Nat.add_comm n P, ct_add ha, Nat.add_comm (ct a P), hg]
  have hc : ct (cmp a g) P = ct g (ct a P) := ct_cmp a g P
  have F := hP.all (by rw [hc]; exact h2)
  have key : ∀ i, ct a (nthF (cmp a g) i) = nthF g i := fun i => by
    obtain ⟨h1, h2⟩ := F i
    have h3 : (a (nthF (cmp a g) i) && g (ct a (nthF (cmp a g) i))) = true := h1
    rw [Bool.and_eq_true] at h3
    rw [ct_cmp] at h2
    exact (nthF_eq h3.2 h2).symm
  have e1 := F.per hP 0
  have e2 := G.per hg 0
  rw [hc, Nat.zero_add] at e1
  rw [Nat.zero_add] at e2
  refine ⟨?_, fun i hi => ?_, ?_⟩
  · rw [← key]
    exact ct_le _ _
  · rw [← key, ← key]
    have := ct_diff a (Nat.le_of_lt (F.lt (Nat.lt_succ_self i)))
    omega
  · rw [e1, e2]
    have hlt : nthF (cmp a g) (ct g (ct a P) - 1) < P := F.lt_of (by rw [hc]; omega)
    have := ct_diff a (Nat.le_of_lt hlt)
    rw [key] at this
    omega
/-! ### what begins -/
/-- the numbers with f below P as places a 0 < a 1 .. < a L = P -/
structure Pls (f : Nat → Bool) (P L : Nat) (a : Nat → Nat) : Prop where
  on : ∀ i, i < L → f (a i) = true
  only : ∀ i n, i < L → a i < n → n < a (i + 1) → f n = false
  no : ∀ n, n < a 0 → f n = false
  up : ∀ i, i < L → a i < a (i + 1)
  top : a L = P
/-- the places of the first L numbers, then P -/
noncomputable def plc (f : Nat → Bool) (P L : Nat) (i : Nat) : Nat := if i < L then nthF f i else P
theorem AllN.pls {f : Nat → Bool} (h : AllN f) {P L : Nat} (hL : 0 < L) (hc : ct f P = L) : Pls f P L (plc f P L) := by
  have lo : ∀ i, i < L → plc f P L i = nthF f i := fun i hi => if_pos hi
  have hi' : ∀ i, i < L → plc f P L (i + 1) ≤ nthF f (i + 1) := fun i hi => by
    unfold plc
    split
    · exact Nat.le_refl _
    · exact h.ge (by omega)
  refine ⟨fun i hi => by rw [lo i hi]; exact (h i).1, fun i n hi h1 h2 => ?_, fun n hn => ?_, fun i hi => ?_, if_neg (Nat.lt_irrefl _)⟩
  · rw [lo i hi] at h1
    cases e : f n with
    | false => rfl
    | true =>
      have k1 := ct_lt (h i).1 h1
      have k2 := ct_lt e (Nat.lt_of_lt_of_le h2 (hi' i hi))
      rw [(h i).2] at k1
      rw [(h (i + 1)).2] at k2
      omega
  · rw [lo 0 hL] at hn
    cases e : f n with
    | false => rfl
    | true =>
      have k1 := ct_lt e hn
      rw [(h 0).2] at k1
      omega
  · rw [lo i hi]
    unfold plc
    split
    · exact h.lt (Nat.lt_succ_self i)
    · exact h.lt_of (by omega)
theorem Pls.mono {f : Nat → Bool} {P L : Nat} {a : Nat → Nat} (A : Pls f P L a) : ∀ {j i : Nat}, i ≤ j → j ≤ L → a i ≤ a j
  | 0, i, h, _ => by rw [Nat.le_zero.mp h]; exact Nat.le_refl _
  | j + 1, i, h, hj => by
    by_cases e : i = j + 1
    · rw [e]; exact Nat.le_refl _
    · have := A.mono (j := j) (i := i) (by omega) (by omega)
      have := A.up j (by omega)
      omega
theorem Pls.find {f : Nat → Bool} {P L : Nat} {a : Nat → Nat} (A : Pls f P L a) {n : Nat} (hn : n < P) : n < a 0 ∨ ∃ i, i < L ∧ a i ≤ n ∧ n < a (i + 1) := by
  have key : ∀ k, k ≤ L → n < a k → n < a 0 ∨ ∃ i, i < L ∧ a i ≤ n ∧ n < a (i + 1) := fun k => by
    induction k with
    | zero => intro _ h; exact .inl h
    | succ k ih =>
      intro hk h
      by_cases e : n < a k
      · exact ih (by omega) e
      · exact .inr ⟨k, by omega, by omega, h⟩
  exact key L (Nat.le_refl _) (by rw [A.top]; exact hn)
theorem ct_seg {h : Nat → Bool} {s d e : Nat} (hs : s ≤ e) (k : ∀ m, s ≤ m → m < e → h m = decide (m < s + d)) : ct h e = ct h s + min (e - s) d := by
  induction hs with
  | refl => rw [Nat.sub_self, Nat.zero_min]; rfl
  | step hs ih =>
    rename_i m
    have hs' : s ≤ m := hs
    rw [ct_succ, ih fun m' h1 h2 => k m' h1 (by omega), k m hs' (by omega)]
    by_cases c : m < s + d
    · rw [if_pos (by rw [decide_eq_true c]), Nat.min_eq_left (show m - s ≤ d by omega), Nat.min_eq_left (show m.succ - s ≤ d by omega)]
      omega
    · rw [if_neg (by rw [decide_eq_false c]; decide), Nat.min_eq_right (show d ≤ m - s by omega), Nat.min_eq_right (show d ≤ m.succ - s by omega)]
      rfl
/-- h keeps, in front of each place of f, as many as g counts -/
structure Bgn (h : Nat → Bool) (L : Nat) (a b : Nat → Nat) : Prop where
  low : ∀ n, n < a 0 → h n = decide (n < b 0)
  mid : ∀ i n, i < L → a i ≤ n → n < a (i + 1) → h n = decide (n < a i + (b (i + 1) - b i))
theorem Bgn.ct {f g h : Nat → Bool} {P R L : Nat} {a b : Nat → Nat} (A : Pls f P L a) (B : Pls g R L b) (G : Bgn h L a b) (low : b 0 ≤ a 0) (room : ∀ i, i < L → b (i + 1) + a i ≤ a (i + 1) + b i) : ∀ i, i ≤ L → Sv.ct h (a i) = b i
  | 0, _ => by
    have e := ct_seg (h := h) (s := 0) (d := b 0) (e := a 0) (Nat.zero_le _) fun m _ h2 => by rw [G.low m h2, Nat.zero_add]
    rw [e, Nat.sub_zero, Nat.min_eq_right low]
    show 0 + b 0 = b 0
    omega
  | i + 1, hi => by
    have ih := G.ct A B low room i (by omega)
    have e := ct_seg (h := h) (s := a i) (d := b (i + 1) - b i) (e := a (i + 1)) (Nat.le_of_lt (A.up i (by omega))) fun m h1 h2 => G.mid i m (by omega) h1 h2
    have r := room i (by omega)
    have u := B.up i (by omega)
    rw [e, ih, Nat.min_eq_right (by omega)]
    omega
theorem Bgn.cmp {f g h : Nat → Bool} {P R L : Nat} {a b : Nat → Nat} (A : Pls f P L a) (B : Pls g R L b) (G : Bgn h L a b) (low : b 0 ≤ a 0) (room : ∀ i, i < L → b (i + 1) + a i ≤ a (i + 1) + b i) {n : Nat} (hn : n < P) : Sv.cmp h g n = f n := by
  have C := G.ct A B low room
  show (h n && g (Sv.ct h n)) = f n
  rcases A.find hn with h0 | ⟨i, hi, h1, h2⟩
  · rw [A.no n h0, G.low n h0]
    by_cases hb : n < b 0
    · have e := ct_seg (h := h) (s := 0) (d := b 0) (e := n) (Nat.zero_le _) fun m _ h2 => by rw [G.low m (by omega), Nat.zero_add]
      rw [e, Nat.sub_zero, Nat.min_eq_left (by omega), show Sv.ct h 0 = 0 from rfl, Nat.zero_add, B.no n hb, Bool.and_false]
    · rw [decide_eq_false hb, Bool.false_and]
  · have e := ct_seg (h := h) (s := a i) (d := b (i + 1) - b i) (e := n) h1 fun m h3 h4 => G.mid i m hi h3 (by omega)
    rw [C i (by omega)] at e
    have u := B.up i hi
    rw [G.mid i n hi h1 h2]
    by_cases hb : n < a i + (b (i + 1) - b i)
    · rw [decide_eq_true hb, Bool.true_and, e, Nat.min_eq_left (by omega)]
      by_cases en : n = a i
      · rw [en, Nat.sub_self, Nat.add_zero, B.on i hi, A.on i hi]
      · rw [A.only i n hi (by omega) h2]
        exact B.only i _ hi (by omega) (by omega)
    · rw [decide_eq_false hb, Bool.false_and, A.only i n hi (by omega) h2]
/-- the numbers as they are made -/
def kpt (a b : Nat → Nat) : Nat → List Nat
  | 0 => List.range (b 0)
  | i + 1 => kpt a b i ++ (List.range (b (i + 1) - b i)).map (a i + ·)
theorem kpt_mem {a b : Nat → Nat} {n : Nat} : ∀ {L : Nat}, n ∈ kpt a b L ↔ n < b 0 ∨ ∃ i, i < L ∧ a i ≤ n ∧ n < a i + (b (i + 1) - b i)
  | 0 => by
    show n ∈ List.range (b 0) ↔ _
    rw [List.mem_range]
    constructor
    · exact .inl
    · rintro (h | ⟨i, hi, _⟩)
      · exact h
      · omega
  | L + 1 => by
    show n ∈ kpt a b L ++ (List.range (b (L + 1) - b L)).map (a L + ·) ↔ _
    rw [List.mem_append, kpt_mem, List.mem_map]
    constructor
    · rintro ((h | ⟨i, hi, h1, h2⟩) | ⟨k, hk, e⟩)
      · exact .inl h
      · exact .inr ⟨i, by omega, h1, h2⟩
      · have := List.mem_range.mp hk
        exact .inr ⟨L, by omega, by omega, by omega⟩
    · rintro (h | ⟨i, hi, h1, h2⟩)
      · exact .inl (.inl h)
      · by_cases e : i = L
        · subst e
          exact .inr ⟨n - a i, List.mem_range.mpr (by omega), by omega⟩
        · exact .inl (.inr ⟨i, by omega, h1, h2⟩)
theorem kpt_len {a b : Nat → Nat} : ∀ {L : Nat}, (∀ i, i < L → b i ≤ b (i + 1)) → (kpt a b L).length = b L
  | 0, _ => List.length_range
  | L + 1, h => by
    show (kpt a b L ++ (List.range (b (L + 1) - b L)).map (a L + ·)).length = _
    have := h L (by omega)
    rw [List.length_append, kpt_len fun i hi => h i (by omega), List.length_map, List.length_range]
    omega
theorem kpt_bgn {f g : Nat → Bool} {P R L : Nat} {a b : Nat → Nat} (A : Pls f P L a) (B : Pls g R L b) (low : b 0 ≤ a 0) (room : ∀ i, i < L → b (i + 1) + a i ≤ a (i + 1) + b i) (h : Nat → Bool) (hh : ∀ n, n < P → (h n = true ↔ n ∈ kpt a b L)) : Bgn h L a b := by
  have hP : ∀ i, i ≤ L → a i ≤ P := fun i hi => by rw [← A.top]; exact A.mono hi (Nat.le_refl _)
  refine ⟨fun n hn => ?_, fun i n hi h1 h2 => ?_⟩
  · have hn' : n < P := Nat.lt_of_lt_of_le hn (hP 0 (Nat.zero_le _))
    rw [Bool.eq_iff_iff, hh n hn', kpt_mem, decide_eq_true_eq]
    constructor
    · rintro (h | ⟨i, hi, h1, _⟩)
      · exact h
      · have := A.mono (Nat.zero_le i) (Nat.le_of_lt hi)
        omega
    · exact .inl
  · have hn' : n < P := Nat.lt_of_lt_of_le h2 (hP (i + 1) hi)
    rw [Bool.eq_iff_iff, hh n hn', kpt_mem, decide_eq_true_eq]
    constructor
    · rintro (h | ⟨j, hj, h3, h4⟩)
      · have := A.mono (Nat.zero_le i) (Nat.le_of_lt hi)
        omega
      · rcases Nat.lt_trichotomy j i with c | c | c
        · have r := room j hj
          have u := B.up j hj
          have m := A.mono (show j + 1 ≤ i by omega) (Nat.le_of_lt hi)
          omega
        · rw [← c]; exact h4
        · have m := A.mono (show i + 1 ≤ j by omega) (Nat.le_of_lt hj)
          omega
    · intro h
      exact .inr ⟨i, hi, h1, h⟩
/-- the fit as the places say it -/
theorem fit_plc {f g : Nat → Bool} {P R L : Nat} (A : AllN f) (B : AllN g) (hf : Per f P) (hg : Per g R) (hP : ct f P = L) (hR : ct g R = L) (hL : 0 < L) : Fit (nthF f) (nthF g) L ↔ plc g R L 0 ≤ plc f P L 0 ∧ ∀ i, i < L → plc g R L (i + 1) + plc f P L i ≤ plc f P L (i + 1) + plc g R L i := by
  have e1 := A.per hf 0
  have e2 := B.per hg 0
  rw [hP, Nat.zero_add] at e1
  rw [hR, Nat.zero_add] at e2
  have lf : ∀ i, i < L → plc f P L i = nthF f i := fun i hi => if_pos hi
  have lg : ∀ i, i < L → plc g R L i = nthF g i := fun i hi => if_pos hi
  have tf : plc f P L L = P := if_neg (Nat.lt_irrefl _)
  have tg : plc g R L L = R := if_neg (Nat.lt_irrefl _)
  constructor
  · intro F
    refine ⟨by rw [lf 0 hL, lg 0 hL]; exact F.low, fun i hi => ?_⟩
    by_cases h : i + 1 < L
    · rw [lf i hi, lg i hi, lf _ h, lg _ h]
      exact F.step i h
    · have e : i + 1 = L := by omega
      rw [e, tf, tg, lf i hi, lg i hi]
      have t := F.top
      rw [show L - 1 = i by omega] at t
      omega
  · rintro ⟨h0, h1⟩
    rw [lf 0 hL, lg 0 hL] at h0
    refine ⟨h0, fun i hi => ?_, ?_⟩
    · have := h1 i (by omega)
      rw [lf i (by omega), lg i (by omega), lf _ hi, lg _ hi] at this
      exact this
    · have := h1 (L - 1) (by omega)
      rw [show L - 1 + 1 = L by omega, tf, tg, lf _ (by omega), lg _ (by omega)] at this
      omega
end Sv

/-! Errors of the program's own: raised, let out of a def, caught, read. -/
namespace Sv
open PySem PySem.Spec PyProof.Rows L2

/-! ### facts of an error class -/
section
open He
def oexO (C : Addr) : Option Obj → Bool
  | some ⟨.type "type", _, .cls cd, sl⟩ => (match cd.mro, sl.toList with
    | .ref C' :: bm, [_, _, _, _, some (.builtin n), _] => C' == C && n == "ValueError.__new__" && !cd.hasDel && cd.hasDict && PySem.HandSPX.refsVE bm
    | _, _ => false)
  | _ => false
theorem oexO_ok {C : Addr} {oo : Option Obj} (h : oexO C oo = true) : ∃ nm q N bs bm sn sub ab col dd k0 k1 k2 k3 k5, oo = some (excClassObj nm q C N bs bm true sn sub ab col dd k0 k1 k2 k3 k5 "ValueError.__new__") ∧ PySem.HandSPX.refsVE bm = true := by
  unfold oexO at h
  split at h
  · rename_i dd cd sl
    split at h
    · rename_i C' bm k0 k1 k2 k3 n k5 hm hs
      simp only [Bool.and_eq_true, beq_iff_eq, Bool.not_eq_true'] at h
      obtain ⟨⟨⟨⟨rfl, rfl⟩, hdel⟩, hdc⟩, ht⟩ := h
      obtain ⟨nm, bs, mro, ns, qn, hd, sn, sub, ab, col, del⟩ := cd
      dsimp only at hm hdel hdc
      subst hm hdel hdc
      have hsl : sl = #[k0, k1, k2, k3, some (.builtin "ValueError.__new__"), k5] := by
        obtain ⟨l⟩ := sl
        simp only at hs
        rw [hs]
      subst hsl
      exact ⟨nm, qn, ns, bs, bm, sn, sub, ab, col, dd, k0, k1, k2, k3, k5, rfl, ht⟩
    · cases h
  · cases h
def errB (x fld : Str) (K : PySem.W.Frag) : Bool := oexO (ga K x) (K.lookup (ga K x)) && (eqO (PySem.W.findIn K (.ref (ga K x)) "__setattr__") (some (some (.builtin "object.__setattr__"))) &&
  (decide (PySem.W.subIn K (.ref (ga K x)) (.type "BaseException") = some true) && (decide (PySem.W.typeIn K (.ref (ga K x)) = some (.type "type")) && (PySem.W.keepIn K (.ref (ga K x)) &&
  (eqO (PySem.W.findIn K (.ref (ga K x)) fld) (some none) && (xfB K (ga K x) && (eqO (PySem.W.findIn K (.ref (ga K x)) "__init__") (some (some (.ref (ma K (ga K x) "__init__")))) &&
  decide (PySem.W.typeIn K (.ref (ma K (ga K x) "__init__")) = some (.type "function")))))))))
/-- the class C of the program's own errors, its field fld, its __init__ at f -/
structure ErrC (K : PySem.W.Frag) (C : Addr) (fld : Str) (f : Addr) : Prop where
  T : OexC K C
  no : PySem.W.findIn K (.ref C) fld = some none
  xf : XfC K C
  iC : PySem.W.findIn K (.ref C) "__init__" = some (some (.ref f))
  tI : PySem.W.typeIn K (.ref f) = some (.type "function")
theorem errB_ok {x fld : Str} {K : PySem.W.Frag} (h : errB x fld K = true) : ErrC K (ga K x) fld (ma K (ga K x) "__init__") := by
  obtain ⟨h1, h⟩ := ba h
  obtain ⟨h2, h⟩ := ba h
  obtain ⟨h3, h⟩ := ba h
  obtain ⟨h4, h⟩ := ba h
  obtain ⟨h5, h⟩ := ba h
  obtain ⟨h6, h⟩ := ba h
  obtain ⟨h7, h⟩ := ba h
  obtain ⟨h8, h9⟩ := ba h
  exact ⟨⟨oexO_ok h1, eqO_ok h2, of_decide_eq_true h3, of_decide_eq_true h4, h5⟩, eqO_ok h6, xfB_ok h7, eqO_ok h8, of_decide_eq_true h9⟩
/-- the base's __init__ is ValueError's -/
def vbaseB (x : Str) (K : PySem.W.Frag) : Bool := match PySem.W.findCls K (.ref (ga K x)) (.type "type") "__init__" with
  | some (.val (.builtin n)) => n == "ValueError.__init__"
  | _ => false
theorem vbaseB_ok {x : Str} {K : PySem.W.Frag} (h : vbaseB x K = true) : PySem.W.findCls K (.ref (ga K x)) (.type "type") "__init__" = some (.val (.builtin "ValueError.__init__")) := by
  unfold vbaseB at h
  split at h
  · rename_i n e
    rw [e, beq_iff_eq.mp h]
  · cases h
/-- what isinstance asks of an error class -/
def excCB (x : Str) (K : PySem.W.Frag) : Bool := eqO (PySem.W.findIn K (.ref (ga K x)) "__getattribute__") (some (some (.builtin "BaseException.__getattribute__"))) && (eqO (PySem.W.findIn K (.ref (ga K x)) "__getattr__") (some none) &&
  (decide (PySem.W.subIn K (.ref (ga K x)) (.type "BaseException") = some true) && (PySem.W.hasDictIn K (ga K x) && (eqO (PySem.W.findIn K (.ref (ga K x)) "__class__") (some (some (.builtin "object.__class__"))) &&
  (eqO (PySem.W.specialIn K (.builtin "object.__class__") "__get__") (some (some (.builtin "getset_descriptor.__get__"))) && (decide (PySem.W.takesIn K (.builtin "object.__class__") = some true) && decide (PySem.W.mroIn K (ga K x) (.type "object") = some true)))))))
theorem excCB_ok {x : Str} {K : PySem.W.Frag} (h : excCB x K = true) : ExcC K (ga K x) := by
  obtain ⟨h1, h⟩ := ba h
  obtain ⟨h2, h⟩ := ba h
  obtain ⟨h3, h⟩ := ba h
  obtain ⟨h4, h⟩ := ba h
  obtain ⟨h5, h⟩ := ba h
  obtain ⟨h6, h⟩ := ba h
  obtain ⟨h7, h8⟩ := ba h
  exact ⟨eqO_ok h1, eqO_ok h2, of_decide_eq_true h3, h4, eqO_ok h5, eqO_ok h6, of_decide_eq_true h7, of_decide_eq_true h8⟩
end

/-! ### the __init__ of such a class -/
section
variable {X : Cx} {N L S G B : List Str} {x f : Str} {e o : Expr} {es : List Expr} {σ : L2.St} {H : Hp} {Q : VK} {D : Ends} {p p1 p2 p' pos : Pos}
/-- Base.__init__(self, ..), Base of the program's own, over ValueError -/
theorem w_oinit {C0 : Addr} {pl : Sem Bool} (c : Nm X N L S G B) (mm : Mb x G) (hm : X.mg x = some (.ref C0)) (r : ClX.CRead X.K C0 (.type "type")) (fc : PySem.W.findCls X.K (.ref C0) (.type "type") "__init__" = some (.val (.builtin "ValueError.__init__")))
    (h : WA X (e :: es) σ H fun vs H1 => ∃ (a C : Addr) (ws : List V), vs = .ref a :: ws ∧ ws.length ≤ 1000 ∧ OexC X.K C ∧ H1 a = some (exo a C none) ∧ Q .non H1)
    (hc : eval (.Call (.Attribute (.Name x p1) "__init__" p2) (e :: es) [] pos) X.env = (do
      let ov ← eval (.Name x p1) X.env
      standAt p2.atName
      let (f, first) ← holding [ov] (getMethod ov "__init__" pl)
      callWith pos f first (backTo pos (starEach (e :: es) X.env)) (backToKw pos (keywordEach [] X.env))) := by with_unfolding_all rfl)
    (he : starEach (e :: es) X.env = (false, eval e X.env) :: starEach es X.env := by with_unfolding_all rfl) (hpl : (backTo pos (starEach es X.env)).any (·.1) = false := by with_unfolding_all rfl) :
    WE X (.Call (.Attribute (.Name x p1) "__init__" p2) (e :: es) [] pos) σ H Q := by
  obtain ⟨ag, b, d⟩ := c.glo x mm.mem
  refine ⟨fun pins s I => ?_⟩
  refine PySem.W.methodCall_KW (ld_glob I ag hm ?_ b) hc
  refine PySem.W.method_cls I.kIn r.ga (PySem.W.cls_value I.kIn r.rd fc (by decide +kernel) ?_)
  show wpAny _ _ (callWith pos (Value.builtin "ValueError.__init__") [] (backTo pos (starEach (e :: es) X.env)) []) _ _ _
  refine PyProof.Rows.callWith_method1 (thn (h.run pos pins _ (I.tok _)) fun us s1 ⟨vs, H1, I1, r1, a, C, ws, ev, hl, T, ea, q⟩ => ?_) he hpl
  subst ev
  cases r1 with
  | @cons _ u0 _ ur ra rw' =>
    obtain rfl : u0 = Value.ref a := ra
    have hlen : ur.length ≤ sizeLine := by
      rw [← Paired.length rw', sizeLine_eq]
      omega
    exact oinit_ok T I1 ea hlen fun s' J => ⟨.non, H1, J, rfl, q⟩
/-- self.f = e, self an error that is being made -/
theorem ws_ost (h : WE X e σ H fun y H1 => WE X o σ H1 fun x H2 => ∃ a C : Addr, x = .ref a ∧ OexC X.K C ∧ PySem.W.findIn X.K (.ref C) f = some none ∧ H2 a = some (exo a C none) ∧
      ∀ dx, H2 dx = none → dx ≠ a → D.nx σ (upd (upd H2 dx (exd dx [(f, y)])) a (exo a C (some dx))))
    (hs : swapsWith e (some (.Attribute o f p')) pos.line X.env = pure false := by with_unfolding_all rfl) : WS X (.Assign [.Attribute o f p'] e pos) D σ H :=
  (ps_ost pe_w pe_w hs).w (WE.imp h fun y H1 q => WE.imp q fun x H2 ⟨a, C, ex, T, no, ea, q⟩ => ⟨a, C, ex, T, no, .inl ⟨ea, q⟩⟩)
end
/-- the promise of such an __init__ -/
def spErrI (K : PySem.W.Frag) (C : Addr) (fld : Str) : Sp := fun vs H Q _ => ∃ (a : Addr) (v : V), vs = [.ref a, v] ∧ H a = some (exo a C none) ∧ ∀ dx, H dx = none → dx ≠ a → Q .non (upd (upd H dx (exd dx [(fld, v)])) a (exo a C (some dx)))
/-- the class may be called with one argument -/
structure Err (P : Program) (w : World) (K : PySem.W.Frag) (mg : Str → Option Value) (base : Heap) (C : Addr) (fld : Str) (k : Nat) : Prop where
  ex : ∃ f, ErrC K C fld f ∧ FnR P w K mg base (L2.CX P w) k f (spErrI K C fld)
/-- what makes an exception -/
structure WMk (X : Cx) (e : Expr) (σ : L2.St) (H : Hp) (Q : XK) : Prop where
  run : ∀ (pins : List (Addr × Obj)) (s : Shared), Inv X pins σ H s → wpAny (model X.prog X.w) X.A (eval e X.env) (MkP X pins σ Q) X.xe s
theorem pmk_w {X : Cx} {e : Expr} : PMk X e (WMk X e) := fun pins s σ H Q I h => h.run pins s I
section
variable {X : Cx} {N L S G B : List Str} {x : Str} {e : Expr} {σ : L2.St} {H : Hp} {p pos : Pos} {C : Addr} {fld : Str} {j k : Nat}
theorem wmk_err {Q : XK} (c : Nm X N L S G B) (mm : Mb x G) (hm : X.mg x = some (.ref C)) (F0 : Err X.prog X.w X.K X.mg X.base C fld k) (hr : Room j X.A) (hj : k + 1 ≤ j) (h : WE X e σ H fun v H1 => ∀ d, H1 d = none → Q (.ref C) (some d) (upd H1 d (.xd [(fld, v)])))
    (he : starEach [e] X.env = (false, eval e X.env) :: starEach [] X.env := by with_unfolding_all rfl) (hpl : (backTo pos (starEach [] X.env)).any (·.1) = false := by with_unfolding_all rfl) : WMk X (.Call (.Name x p) [e] [] pos) σ H Q := by
  obtain ⟨fI, Er, F1⟩ := F0.ex
  have T := Er.T
  obtain ⟨nm, q, N', bs, bm, sn, sub, ab, col, dd, k0, k1, k2, k3, k5, hC, hbm⟩ := T.cls
  obtain ⟨ag, b, d⟩ := c.glo x mm.mem
  refine ⟨fun pins s I => wpAny_Call_Name_kw (ld_glob I ag hm ?_ b)⟩
  have ha : WA X [e] σ H fun vs H1 => ∃ v, vs = [v] ∧ ∀ d, H1 d = none → Q (.ref C) (some d) (upd H1 d (.xd [(fld, v)])) := wa_cons (WE.imp h fun v H1 q => wa_nil ⟨v, rfl, q⟩) he
  refine PySem.W.callWith_K (h₀ := X.base) I.ok.mod.kin T.kC (thn (ha.run pos pins s I) fun us s1 ⟨vs, H1, I1, r1, v, ev, q1⟩ => ⟨I1.kIn, ?_⟩) he hpl
  subst ev
  show wpAny _ _ (call (.ref C) us) _ _ _
  have hus : us.length ≤ sizeLine := by
    rw [← Paired.length r1, sizeLine_eq]
    show 1 ≤ 16777216
    omega
  obtain ⟨hp, g, dr, tk, os⟩ := s1
  have hsz : hp.objs.size ≤ hp.objs.size + 1 := Nat.le_succ _
  have hn : H1 (hp.objs.size + 1) = none := I1.hok.fresh hsz
  have kk : ∀ b o, hp.get? b = some o → ((hp.push (PySem.W.kdv_tup us)).push (PySem.HandSPX.excO C hp.objs.size)).get? b = some o := fun b o e => Heap.get?_push_of_some _ (Heap.get?_push_of_some _ e)
  have hget : ((hp.push (PySem.W.kdv_tup us)).push (PySem.HandSPX.excO C hp.objs.size)).get? (hp.objs.size + 1) = some (PySem.HandSPX.excO C hp.objs.size) := by heap_get
  have I2 : Inv X pins σ (upd H1 (hp.objs.size + 1) (exo (hp.objs.size + 1) C none)) ⟨(hp.push (PySem.W.kdv_tup us)).push (PySem.HandSPX.excO C hp.objs.size), g, dr, tk, os⟩ :=
    I1.laid (t' := tk) (a := hp.objs.size + 1) (o := exo (hp.objs.size + 1) C none) (h' := (hp.push (PySem.W.kdv_tup us)).push (PySem.HandSPX.excO C hp.objs.size)) kk hsz (exo_ok hget)
  have r2 : Vals [V.ref (hp.objs.size + 1), v] (Value.ref (hp.objs.size + 1) :: us) := .cons rfl r1
  have hr2 : Room (k + 1) X.A := hr.mono hj
  have hq : spErrI X.K C fld [V.ref (hp.objs.size + 1), v] (upd H1 (hp.objs.size + 1) (exo (hp.objs.size + 1) C none)) (fun v' H2 => v' = .non ∧ ∃ (d : Addr), H2 (hp.objs.size + 1) = some (exo (hp.objs.size + 1) C (some d)) ∧ H2 d = some (exd d [(fld, v)]) ∧ H1 d = none ∧
      Q (.ref C) (some d) (upd (del H2 (hp.objs.size + 1)) d (.xd [(fld, v)]))) E0 := by
    refine ⟨_, v, rfl, upd_same, fun dx hdx hne => ⟨rfl, dx, upd_same, ?_, ?_, ?_⟩⟩
    · rw [upd_ne hne, upd_same]
    · rw [upd_ne hne] at hdx
      exact hdx
    · rw [upd_ne hne] at hdx
      have hH : upd (del (upd (upd (upd H1 (hp.objs.size + 1) (exo (hp.objs.size + 1) C none)) dx (exd dx [(fld, v)])) (hp.objs.size + 1) (exo (hp.objs.size + 1) C (some dx))) (hp.objs.size + 1)) dx (.xd [(fld, v)]) = upd H1 dx (.xd [(fld, v)]) := by
        funext b
        by_cases hb : b = dx
        · rw [hb, upd_same, upd_same]
        · rw [upd_ne hb, upd_ne hb]
          by_cases hb2 : b = hp.objs.size + 1
          · rw [hb2, del_same, hn]
          · rw [del_ne hb2, upd_ne hb2, upd_ne hb, upd_ne hb2]
      rw [hH]
      exact q1 dx hdx
  refine wpAny_call (PySem.HandSPX.call_own F.excBase_ValueError (fun Y => PySem.HandSPX.refsVE_contains Y bm hbm) (I1.kIn _ _ hC) (PySem.W.looks_findIn I1.kIn Er.iC) (fun self => PySem.W.bind_fn I1.kIn self Er.tI) hus
    (codeAny_mono (F1 _ X.stack _ _ (Value.ref (hp.objs.size + 1) :: us) [V.ref (hp.objs.size + 1), v] _ E0 (hr2.make C us []) (I2.env0.make C us []) r2 hq) fun r s' hq' => ?_))
  cases r with
  | error er => exact (passL (X := X) pins σ _ _ er s' I2 hq')
  | ok fl =>
    cases fl with
    | ret u =>
      obtain ⟨v', H2, os2, bare2, un2, hok2, rv, ev, d', ea, ed, hd1, q2⟩ := hq'
      subst ev
      obtain ⟨h2, g2, d2, t2, os'⟩ := s'
      exact ⟨rv, mk_end (raises_own T.exC T.tyC) I1 hsz kk un2 hok2 os2 bare2 ea ed hd1 q2⟩
    | next => exact False.elim hq'
    | brk => exact False.elim hq'
    | cont => exact False.elim hq'
/-- raise C(e) -/
theorem ws_raise {W : L2.WX} {D : Ends} {pos2 : Pos} (c : Nm X N L S G B) (tk : Takes X W) (h : WMk X e σ H fun cls d H' => W cls d σ H') : WS X (.Raise (some e) none pos2) D σ H := (ps_raise c.calm tk pmk_w).w h
end

/-! ### calls that may let an error out -/
theorem passE {X : Cx} {W : L2.WX} {E : XK} (tk : Takes X W) (h : ∀ cls d σ H, E cls d H → W cls d σ H) : Passes (L2.CX X.prog X.w) X E := fun pins σ H s e s' I c => tk e s' (XE.of_call I (fun cls d H' hE => h cls d σ H' hE) c)
theorem passA {X : Cx} {W : L2.WX} (tk : Takes X W) (σ : L2.St) : PassesAt (L2.CX X.prog X.w) X σ (fun cls d H => W cls d σ H) := fun pins H s e s' I c => tk e s' (XE.of_call I (fun _ _ _ h => h) c)
section
variable {X : Cx} {N L S G B : List Str} {x : Str} {e : Expr} {es : List Expr} {σ : L2.St} {H : Hp} {Q : VK} {p pos : Pos} {j k : Nat} {sp : Sp} {E : XK}
theorem run_fnA {f : Addr} {pins : List (Addr × Obj)} {s : Shared} {us : List Value} {vs : List V} (F : FnR X.prog X.w X.K X.mg X.base (L2.CX X.prog X.w) k f sp) (hr : Room k X.A) (hx : PassesAt (L2.CX X.prog X.w) X σ E) (I : Inv X pins σ H s) (r : Vals vs us) (h : sp vs H Q E) :
    wpAny (model X.prog X.w) X.A (call (.ref f) us) (EP X pins σ Q) X.xe s := by
  refine wpAny_call (codeAny_mono (F X.A X.stack s H us vs Q E hr I.env0 r h) fun r s' hq => ?_)
  cases r with
  | error e => exact hx pins H s e s' I hq
  | ok fl =>
    cases fl with
    | ret u => exact I.after hq
    | next => exact False.elim hq
    | brk => exact False.elim hq
    | cont => exact False.elim hq
theorem w_callA (c : Nm X N L S G B) (mm : Mb x G) (F : Fn X.prog X.w X.K X.mg X.base x k sp) (hr : Room j X.A) (hj : k ≤ j) (hx : PassesAt (L2.CX X.prog X.w) X σ E) (h : WA X (e :: es) σ H fun vs H1 => sp vs H1 Q E)
    (he : starEach (e :: es) X.env = (false, eval e X.env) :: starEach es X.env := by with_unfolding_all rfl) (hpl : (backTo pos (starEach es X.env)).any (·.1) = false := by with_unfolding_all rfl) : WE X (.Call (.Name x p) (e :: es) [] pos) σ H Q := by
  obtain ⟨f, hm, hk, F⟩ := F.ex
  obtain ⟨a, b, d⟩ := c.glo x mm.mem
  refine ⟨fun pins s I => wpAny_Call_Name_kw (ld_glob I a hm ?_ b)⟩
  refine PySem.W.callWith_K (h₀ := X.base) I.ok.mod.kin hk (thn (h.run pos pins s I) fun us s1 ⟨vs, H1, I1, r, q⟩ => ⟨I1.kIn, ?_⟩) he hpl
  exact run_fnA F (hr.mono hj) hx I1 r q
end
theorem Nm.tr {X : Cx} {N L S G B : List Str} (c : Nm X N L S G B) {pn : List (Addr × Obj)} {xe : Value → Shared → Prop} : Nm (X.tr pn xe) N L S G B := ⟨c.names, c.nd, c.vis, c.sto, c.glo, c.blt, c.bgl, c.calm⟩

/-! ### try with clauses, each with its name -/
abbrev Cls3 : Type := Value × Nat × (Addr → Value → Option Addr → TS)
/-- the ends of a suite: the clause's name goes -/
def goneD (D : Ends) (i : Nat) : Ends := { nx := fun σ' H' => D.nx (σ'.set i none) H', rt := D.rt, bk := fun σ' H' => D.bk (σ'.set i none) H', ct := fun σ' H' => D.ct (σ'.set i none) H' }
def wClauses (K : PySem.W.Frag) (Wout : L2.WX) (D : Ends) : List Cls3 → L2.WX
  | [] => Wout
  | (c, i, ts) :: r => fun cls d σ H => ∃ b, PySem.W.exmOne K cls c = some b ∧ (b = true → ∀ a, H a = none → ts a cls d (goneD D i) (σ.set i (some (.ref a))) H) ∧ (b = false → wClauses K Wout D r cls d σ H)
/-- the clauses as they stand, and what each wishes -/
inductive HdA (X : Cx) : List ExceptHandler → List Cls3 → Prop
  | nil : HdA X [] []
  | cons {x n : Str} {c : Value} {i : Nat} {b₀ : Stmt} {suite : List Stmt} {np pos' : Pos} {hds : List ExceptHandler} {l : List Cls3} (hi : X.N[i]? = some n) (hln : X.env.kindOf n = some .local) (hc : Names X x c) (r : HdA X hds l) :
      HdA X (.ExceptHandler (some (.Name x np)) (some n) (b₀ :: suite) pos' :: hds)
        ((c, i, fun a cls d D σ H => ∀ (oe : Obj) (pn : List (Addr × Obj)), Zc cls d oe → (∃ vs, oe.data = .fields vs) → WL (X.suite a ((a, oe) :: pn)) (b₀ :: suite) D σ H) :: l)
theorem ws_try {X : Cx} {body : List Stmt} {h₀ : ExceptHandler} {hds : List ExceptHandler} {l : List Cls3} {pos : Pos} {Wout : L2.WX} {D : Ends} {σ : L2.St} {H : Hp} (hs : X.stack = X.env :: X.outer) (hf : X.env.frame = some X.env.locals) (hN : X.N.Nodup) (tk : Takes X Wout) (hh : HdA X (h₀ :: hds) l)
    (hb : ∀ (pn : List (Addr × Obj)) (xe : Value → Shared → Prop), Takes (X.tr pn xe) (wClauses X.K Wout D l) → PassesOwn (model X.prog X.w) X.A X.env xe → WL (X.tr pn xe) body D σ H) : WS X (.Try body (h₀ :: hds) [] [] pos) D σ H := by
  refine ⟨fun pins s I => ?_⟩
  have ok := I.ok
  have hfr : X.A.frames = some (X.env :: X.outer) := by rw [ok.frames, hs]
  refine wpAny_Try_except ?_
  refine wpAny_mono ((hb (X.pn ++ pins) (fun e s₁ => wpAny (model X.prog X.w) X.A (noteFrame e X.env) (fun _ s₂ => wpAny (model X.prog X.w) X.A (setFlight e none) (fun _ s₃ =>
    wpAny (model X.prog X.w) X.A (handleBy e X.env (h₀ :: hds)) (SP X pins D) X.xe s₃) X.xe s₂) X.xe s₁) (fun u s' xx => ?_) PassesOwn.looking).run [] s (I.toTry _)) (fun f s1 hsp => ?_) (fun e s1 he => he)
  · obtain ⟨a, B, sI, pins', σ', H', cls, d, rfl, J', nb, up, sky, na, os, ag, w⟩ := xx
    have J : Inv X pins σ' H' sI := J'.ofTry ok
    have sky' : Sky B (X.env :: X.outer) a (Zc cls d) X.env.locals s'.heap := by rw [← hs]; exact sky
    show wpAny (model X.prog X.w) X.A (noteFrame (.ref a) X.env) _ _ _
    refine Sky.land Zc.steady hfr hf sky' fun h3 fl3 up3 => ?_
    have J3 : Inv X pins σ' H' { s' with heap := h3 } := J.landed nb fl3.1 (up.trans up3) os ag
    obtain ⟨oe3, vs3, he3, hz3, hd3⟩ := fl3.there
    have notFr : ∀ {h : Heap} {o : Obj} {vs : Array Value}, h.FunFrames B (X.env :: X.outer) → h.get? a = some o → o.data = .fields vs → a ∉ frs (X.env :: X.outer) := fun {h o vs} ff e dd hm => by
      obtain ⟨_, o', e', hnf⟩ := ff.mem hm
      rw [e] at e'; cases e'
      exact hnf _ dd
    have nfr := notFr fl3.2.2.1 he3 hd3
    have nL : a ≠ X.env.locals := fun z => nfr (List.mem_filterMap.mpr ⟨X.env, List.mem_cons_self, by rw [hf, z]⟩)
    have nF : a ∉ X.fs := fun hm => by
      obtain ⟨e, he, q⟩ := List.mem_filterMap.mp hm
      exact nfr (List.mem_filterMap.mpr ⟨e, List.mem_cons_of_mem _ he, q⟩)
    have S3 := J3.suite he3 hd3 na nL nF
    have go : ∀ {hds' : List ExceptHandler} {l' : List Cls3}, HdA X hds' l' → wClauses X.K Wout D l' cls d σ' H' →
        wpAny (model X.prog X.w) X.A (handleBy (.ref a) X.env hds') (SP X pins D) X.xe { s' with heap := h3 } := by
      intro hds' l' hk
      induction hk with
      | nil =>
        intro w
        refine wpAny_handleBy_nil ?_
        obtain ⟨k1, k2, k3, oe, vs, T, oT, ts', he, hz, hd, h1, hr⟩ := id fl3
        unfold PySem.passOn
        refine wpAny_bind (wpAny_field he hd h1 ?_)
        rw [if_neg (show ¬ ((Value.ref T == Value.none) = true) from by simp)]
        have fin : wpAny (model X.prog X.w) X.A (setFlight (.ref a) X.env.frame) (fun _ s4 => wpAny (model X.prog X.w) X.A (throw (.ref a) : Sem Flow) (SP X pins D) X.xe s4) X.xe { s' with heap := h3 } := by
          rw [hf]
          refine HandSPX.setFlight_upZ fl3 fun h4 hh4 up4 => wpAny_throw (tk _ _ ?_)
          exact ⟨a, B, sI, pins, σ', H', cls, d, rfl, J, nb, (up.trans up3).trans up4, .inr (.inr (by rw [hs]; exact hh4)), na, os, ag, w⟩
        first
          | exact wpAny_bind (wpAny_pure (wpAny_bind fin))
          | exact wpAny_bind fin
      | @cons x n c i b₀ suite np pos' hds2 l2 hi hln hc r ih =>
        intro w
        obtain ⟨b, hb1, hyes, hno⟩ := w
        have hloc : Loc X.env.scope n := .inl hln
        refine wpAny_handleBy_cons (codeAny_handlers_test ?_) (by intro q; cases q)
        have LT : PySem.W.Looks (model X.prog X.w) h3 (typeOf (.ref a)) cls := fun A Q E s k q => wpAny_typeOf_ref (k _ _ he3) (by rw [hz3.1]; exact q)
        have LM := PySem.W.exm_one (M := model X.prog X.w) (J3.kIn) LT hb1
        have test : ∀ {Q : Value → Shared → Prop} {E : Value → Shared → Prop}, Q c { s' with heap := h3 } → wpAny (model X.prog X.w) (X.A.mark (some (.ref a))) (eval (.Name x np) X.env) Q E { s' with heap := h3 } := fun {Q E} q => by
          obtain ⟨hg, hdbg, hm | ⟨hm, hv, hnn⟩⟩ := hc
          · exact ld_glob (X := X.suite a ((a, oe3) :: (X.pn ++ pins))) S3 hg hm q hdbg
          · exact ld_blt (X := X.suite a ((a, oe3) :: (X.pn ++ pins))) S3 hg hm hv q hnn hdbg
        refine test (LM.here ?_)
        cases b with
        | true =>
          refine codeAny_handlers_suite_as ?_
          refine HandSPX.lands_againZ fl3 fun h4 fl4 up4 => ?_
          have J4 : Inv X pins σ' H' { s' with heap := h4 } := J.landed nb fl4.1 ((up.trans up3).trans up4) os ag
          obtain ⟨oe4, vs4, he4, hz4, hd4⟩ := fl4.there
          have S4 := J4.suite he4 hd4 na nL nF
          refine store_ok (X := X.suite a ((a, oe4) :: (X.pn ++ pins))) (v := .ref a) S4 hN hi hloc rfl (fun s5 S5 => ?_) (.inr hln)
          refine wpAny_mono ((hyes rfl a na oe4 (X.pn ++ pins) hz4 ⟨_, hd4⟩).run [] s5 S5) (fun f s6 hsp => ?_) (fun _ _ z => False.elim z)
          have end_ : ∀ {σ6 : L2.St} {H6 : Hp} {Q : Shared → Prop}, Inv (X.suite a ((a, oe4) :: (X.pn ++ pins))) [] σ6 H6 s6 → (∀ s7, Inv X pins (σ6.set i none) H6 s7 → Q s7) →
              wpAny (model X.prog X.w) X.A (do bindName X.env n .none; unbindBehindTheSuite X.env n pos') (fun _ s7 => Q s7) X.xe s6 := fun {σ6 H6 Q} S6 hq => gone_ok (S6.unsuite ok) hN hi hln hq
          cases f with
          | next =>
            obtain ⟨σ6, H6, S6, q6⟩ := hsp
            exact end_ S6 fun s7 J7 => ⟨_, _, J7, q6⟩
          | brk =>
            obtain ⟨σ6, H6, S6, q6⟩ := hsp
            exact end_ S6 fun s7 J7 => ⟨_, _, J7, q6⟩
          | cont =>
            obtain ⟨σ6, H6, S6, q6⟩ := hsp
            exact end_ S6 fun s7 J7 => ⟨_, _, J7, q6⟩
          | ret u =>
            obtain ⟨v6, σ6, H6, S6, r6, q6⟩ := hsp
            exact end_ S6 fun s7 J7 => ⟨_, _, _, J7, r6, q6⟩
        | false =>
          show wpAny _ X.A (handleBy (.ref a) X.env hds2) _ _ _
          exact ih (hno rfl)
    exact go hh w
  · cases f with
    | next =>
      obtain ⟨σ', H', J', q⟩ := hsp
      exact wpAny_execs_nil ⟨σ', H', J'.ofTry ok, q⟩
    | brk =>
      obtain ⟨σ', H', J', q⟩ := hsp
      exact ⟨σ', H', J'.ofTry ok, q⟩
    | cont =>
      obtain ⟨σ', H', J', q⟩ := hsp
      exact ⟨σ', H', J'.ofTry ok, q⟩
    | ret u =>
      obtain ⟨v, σ', H', J', r, q⟩ := hsp
      exact ⟨v, σ', H', J'.ofTry ok, r, q⟩
end Sv

/-! zip of three lists, extend, list(range(a, b)). -/
namespace Sv
open PySem PySem.Spec PyProof.Rows L2

/-- the lists at a, b, c as they stand at each turn, the items in new tuples; n turns -/
def Itz3 (K : PySem.W.Frag) (n : Nat) (a b c : Addr) : It :=
  ⟨fun i H => i < n ∧ ∃ (xs ys zs : List V) (x y z : V), SqL K H a xs ∧ SqL K H b ys ∧ SqL K H c zs ∧ xs[i]? = some x ∧ ys[i]? = some y ∧ zs[i]? = some z,
    fun i H v H' => ∃ T x y z, v = .ref T ∧ H T = none ∧ H' = upd H T (.tup [x, y, z]) ∧ (∀ xs, SqL K H a xs → xs[i]? = some x) ∧ (∀ ys, SqL K H b ys → ys[i]? = some y) ∧ ∀ zs, SqL K H c zs → zs[i]? = some z,
    fun i H => n ≤ i ∧ ∃ xs ys zs : List V, SqL K H a xs ∧ SqL K H b ys ∧ SqL K H c zs ∧ n = min (min xs.length ys.length) zs.length⟩
theorem turn_zip3 {P : Program} {w : World} {K : PySem.W.Frag} {n : Nat} {elts : List Expr} {kk : Nat} {tpos : Pos} {a b c z TI TO i1 i2 i3 : Addr} (S : ZipSep3 z TI TO i1 i2 i3 [i1, a] [i2, b] [i3, c]) (na : a ≠ i1) (nb : b ≠ i2) (nc : c ≠ i3) :
    Turn P w K (.Tuple elts kk tpos) (Itz3 K n a b c) [z, TI, TO, i1, i2, i3] z (fun i h => i ≤ n ∧ IsZip h z TI TO .none ∧ IsTupOf3 h TI (.ref i1) (.ref i2) (.ref i3) ∧ (∃ a1 a2 a3, IsTupOf3 h TO a1 a2 a3) ∧ h.IsListIter i1 a i ∧ h.IsListIter i2 b i ∧ h.IsListIter i3 c i) where
  mem := by simp
  obj := fun i h st q hq => by
    obtain ⟨_, hz, hTI, ⟨x, y, u, hTO⟩, ⟨o1, e1, _, d1⟩, ⟨o2, e2, _, d2⟩, ⟨o3, e3, _, d3⟩⟩ := st
    have e' : q = z ∨ q = TI ∨ q = TO ∨ q = i1 ∨ q = i2 ∨ q = i3 := by simpa using hq
    rcases e' with q | q | q | q | q | q
    · rw [q]; exact ⟨_, hz, fun v q => nomatch q⟩
    · rw [q]; exact ⟨_, hTI, fun v q => nomatch q⟩
    · rw [q]; exact ⟨_, hTO, fun v q => nomatch q⟩
    · rw [q]; exact ⟨o1, e1, fun v q => by rw [d1] at q; cases q⟩
    · rw [q]; exact ⟨o2, e2, fun v q => by rw [d2] at q; cases q⟩
    · rw [q]; exact ⟨o3, e3, fun v q => by rw [d3] at q; cases q⟩
  keep := fun i h h' st k => by
    obtain ⟨hn, hz, hTI, ⟨x, y, u, hTO⟩, h1, h2, h3⟩ := st
    exact ⟨hn, k z (by simp) _ hz, k TI (by simp) _ hTI, ⟨x, y, u, k TO (by simp) _ hTO⟩, h1.at fun o q => k i1 (by simp) o q, h2.at fun o q => k i2 (by simp) o q, h3.at fun o q => k i3 (by simp) o q⟩
  item := by
    intro X hP hw hK hc i pins s σ H E I hf st hg
    subst hP hw hK
    obtain ⟨hn, hz, hTI, hTO, h1, h2, h3⟩ := st
    obtain ⟨hin, xs, ys, zs, x, y, u, hqx, hqy, hqz, hx, hy, hu⟩ := hg
    obtain ⟨its, rv, p, _⟩ := I.list hqx
    obtain ⟨its2, rv2, p2, _⟩ := I.list hqy
    obtain ⟨its3, rv3, p3, _⟩ := I.list hqz
    obtain ⟨v1, hv1, ru1⟩ := rv.get hx
    obtain ⟨v2, hv2, ru2⟩ := rv2.get hy
    obtain ⟨v3, hv3, ru3⟩ := rv3.get hu
    have hh := I.ok.hd hc
    have l1 := (List.getElem?_eq_some_iff.mp hv1).1
    have l2 := (List.getElem?_eq_some_iff.mp hv2).1
    have l3 := (List.getElem?_eq_some_iff.mp hv3).1
    have G := GoesN.zip3 (A := X.A) (elts := elts) (x1 := kk) (pos := tpos) S (Draws.list (prog := X.prog) (w := X.w) (A := X.A.in1) hh i1 a na its.toArray) (Draws.list (prog := X.prog) (w := X.w) (A := X.A.in1) hh i2 b nb its2.toArray) (Draws.list (prog := X.prog) (w := X.w) (A := X.A.in1) hh i3 c nc its3.toArray)
    refine thn (G.goes i s (fun u s2 => ∃ x H', Inv X pins σ H' s2 ∧ RelV x u ∧ (Itz3 X.K n a b c).yld i H x H' ∧ (i + 1 ≤ n ∧ IsZip s2.heap z TI TO .none ∧ IsTupOf3 s2.heap TI (.ref i1) (.ref i2) (.ref i3) ∧ (∃ a1 a2 a3, IsTupOf3 s2.heap TO a1 a2 a3) ∧ s2.heap.IsListIter i1 a (i + 1) ∧ s2.heap.IsListIter i2 b (i + 1) ∧ s2.heap.IsListIter i3 c (i + 1)) ∧ ∀ q ∈ [z, TI, TO, i1, i2, i3], H' q = none) E (by rw [List.size_toArray, List.size_toArray, List.size_toArray]; omega) ⟨hz, hTI, hTO, ⟨h1, p.isList⟩, ⟨h2, p2.isList⟩, h3, p3.isList⟩ fun v h' tk y' st' k _ => ?_) fun r s1 h => h
    obtain ⟨T, x', y', u', rfl, hT, e1, e2, e3, ht⟩ := y'
    obtain ⟨kz, kTI, kTO, ⟨k1, _⟩, ⟨k2, _⟩, k3, _⟩ := st'
    have q1 : x' = v1 := by rw [List.getElem?_toArray, hv1] at e1; exact (Option.some.inj e1).symm
    have q2 : y' = v2 := by rw [List.getElem?_toArray, hv2] at e2; exact (Option.some.inj e2).symm
    have q3 : u' = v3 := by rw [List.getElem?_toArray, hv3] at e3; exact (Option.some.inj e3).symm
    subst q1 q2 q3
    have new : ObjOk X.prog X.w (upd H T (.tup [x, y, u])) h' T (.tup [x, y, u]) := ⟨by show 3 ≤ sizeLine; decide, [x', y', u'], .cons ru1 (.cons ru2 (.cons ru3 .nil)), by
      obtain ⟨o, ho, hcl, m, hd⟩ := ht
      exact ⟨o, ho, hcl, m, by simpa using hd⟩⟩
    have I1 : Inv X pins σ (upd H T (.tup [x, y, u])) { s with heap := h', toks := tk } :=
      I.turnedNew (ch := [z, TI, TO, i1, i2, i3]) (fun q ob hb e => k q ob (fun z' => hb (by
        rcases List.mem_cons.mp z' with r | z'
        · rw [r]; simp
        rcases List.mem_cons.mp z' with r | z'
        · rw [r]; simp
        rcases List.mem_cons.mp z' with r | z'
        · rw [r]; simp
        rcases List.mem_cons.mp z' with r | z'
        · rw [r]; simp
        rcases List.mem_cons.mp z' with r | z'
        · rw [r]; simp
        cases z')) e) hf hT new
    refine ⟨.ref T, _, I1, rfl, ⟨T, x, y, u, rfl, I.hok.fresh hT, rfl, fun l hl => by rw [I.list_inj hl hqx]; exact hx, fun l hl => by rw [I.list_inj hl hqy]; exact hy, fun l hl => by rw [I.list_inj hl hqz]; exact hu⟩, ⟨hin, kz, kTI, kTO, k1, k2, k3⟩, fun q hq => ?_⟩
    have hlt : q < s.heap.objs.size := by
      have e' : q = z ∨ q = TI ∨ q = TO ∨ q = i1 ∨ q = i2 ∨ q = i3 := by simpa using hq
      rcases e' with r | r | r | r | r | r
      · rw [r]; exact Heap.lt_size hz
      · rw [r]; exact Heap.lt_size hTI
      · obtain ⟨_, _, _, hTO⟩ := hTO
        rw [r]; exact Heap.lt_size hTO
      · rw [r]; obtain ⟨_, e1, _⟩ := h1; exact Heap.lt_size e1
      · rw [r]; obtain ⟨_, e1, _⟩ := h2; exact Heap.lt_size e1
      · rw [r]; obtain ⟨_, e1, _⟩ := h3; exact Heap.lt_size e1
    rw [upd_ne (Nat.ne_of_lt (Nat.lt_of_lt_of_le hlt hT))]
    exact (hf q hq).1
  done := by
    intro X hP hw hK hc i pins s σ H E I hf st hg
    subst hP hw hK
    obtain ⟨hn, hz, hTI, hTO, h1, h2, h3⟩ := st
    obtain ⟨hin, xs, ys, zs, hqx, hqy, hqz, hmin⟩ := hg
    have e : i = n := Nat.le_antisymm hn hin
    subst e
    obtain ⟨its, rv, p, _⟩ := I.list hqx
    obtain ⟨its2, rv2, p2, _⟩ := I.list hqy
    obtain ⟨its3, rv3, p3, _⟩ := I.list hqz
    have l1 := rv.length
    have l2 := rv2.length
    have l3 := rv3.length
    have hh := I.ok.hd hc
    have G := GoesN.zip3 (A := X.A) (elts := elts) (x1 := kk) (pos := tpos) S (Draws.list (prog := X.prog) (w := X.w) (A := X.A.in1) hh i1 a na its.toArray) (Draws.list (prog := X.prog) (w := X.w) (A := X.A.in1) hh i2 b nb its2.toArray) (Draws.list (prog := X.prog) (w := X.w) (A := X.A.in1) hh i3 c nc its3.toArray)
    have en : min (min its.toArray.size its2.toArray.size) its3.toArray.size = i := by rw [List.size_toArray, List.size_toArray, List.size_toArray]; omega
    refine thn (G.stops s (fun s1 => Inv X pins σ H s1) E (by rw [en]; exact ⟨hz, hTI, hTO, ⟨h1, p.isList⟩, ⟨h2, p2.isList⟩, h3, p3.isList⟩) fun h' tk k _ => ?_) fun r s1 h => h
    exact I.turnedL (ch := [z, TI, TO, i1, i2, i3]) (fun q ob hb e => k q ob (fun z' => hb (by
        rcases List.mem_cons.mp z' with r | z'
        · rw [r]; simp
        rcases List.mem_cons.mp z' with r | z'
        · rw [r]; simp
        rcases List.mem_cons.mp z' with r | z'
        · rw [r]; simp
        rcases List.mem_cons.mp z' with r | z'
        · rw [r]; simp
        rcases List.mem_cons.mp z' with r | z'
        · rw [r]; simp
        cases z')) e) hf
  self := fun A i s Q E st h => wpAny_pyIter_zip st.2.1 h
def iZip3 (K : PySem.W.Frag) (ta : TA) : TI := fun σ H R => ta σ H fun vs H1 => ∃ a b c xs ys zs, vs = [.ref a, .ref b, .ref c] ∧ SqL K H1 a xs ∧ SqL K H1 b ys ∧ SqL K H1 c zs ∧ R (Itz3 K (min (min xs.length ys.length) zs.length) a b c) H1
theorem pi_zip3 {X : Cx} {e e2 e3 : Expr} {ta : TA} {p pos tpos : Pos} {elts : List Expr} {kk : Nat} (hg : Gl X "zip") (hm : X.mg "zip" = none) (ha : PA X [e, e2, e3] ta)
    (hs : starEach [e, e2, e3] X.env = (false, eval e X.env) :: starEach [e2, e3] X.env := by rfl) (hpl : (backTo pos (starEach [e2, e3] X.env)).any (·.1) = false := by rfl) :
    PI X (.Tuple elts kk tpos) (.Call (.Name "zip" p) [e, e2, e3] [] pos) (iZip3 X.K ta) := by
  refine ⟨fun pins s σ H R I h => ?_⟩
  refine Call_ (ld_blt I hg hm PyProof.Rows.boot_zip (PyProof.Rows.callWith_type1 (thn (ha.run pos pins s σ H _ I h) fun us s1 ⟨vs, H1, I1, r1, q1⟩ => ?_) hs hpl))
  obtain ⟨a, b, c, xs, ys, zs, ex, hqx, hqy, hqz, q⟩ := q1
  subst ex
  cases r1 with
  | cons r rr =>
    cases rr with
    | cons r' rr =>
      cases rr with
      | cons r'' rr =>
        cases rr
        cases r
        cases r'
        cases r''
        obtain ⟨its, rv, p1, _⟩ := I1.list hqx
        obtain ⟨its2, rv2, p2, _⟩ := I1.list hqy
        obtain ⟨its3, rv3, p3, _⟩ := I1.list hqz
        have la : a < s1.heap.objs.size := p1.lt
        have lb : b < s1.heap.objs.size := p2.lt
        have lc : c < s1.heap.objs.size := p3.lt
        refine zip_begins3 (begins_list a its.toArray) (begins_list b its2.toArray) (begins_list c its3.toArray) p1.isList p2.isList p3.isList fun h' hz hTI hTO h1 h2 h3 hsz hk => wpAny_pyIter_zip hz ?_
        have I2 : Inv X pins σ H1 { s1 with heap := h' } := I1.kept (t' := s1.toks) hk
        have S := zip_sep3 (N := s1.heap.objs.size) (fp1 := [a]) (fp2 := [b]) (fp3 := [c]) (fun q hq => by rw [List.mem_singleton.mp hq]; exact la) (fun q hq => by rw [List.mem_singleton.mp hq]; exact lb) (fun q hq => by rw [List.mem_singleton.mp hq]; exact lc)
        refine ⟨s1.heap.objs.size + 5, [s1.heap.objs.size + 5, s1.heap.objs.size + 3, s1.heap.objs.size + 4, s1.heap.objs.size, s1.heap.objs.size + 1, s1.heap.objs.size + 2], _, _, H1, rfl, I2, turn_zip3 S (Nat.ne_of_lt la) (show (b : Nat) ≠ s1.heap.objs.size + 1 from Nat.ne_of_lt (Nat.lt_succ_of_lt lb)) (show (c : Nat) ≠ s1.heap.objs.size + 2 from Nat.ne_of_lt (Nat.lt_succ_of_lt (Nat.lt_succ_of_lt lc))), ⟨Nat.zero_le _, hz, hTI, ⟨_, _, _, hTO⟩, ⟨_, h1, rfl, rfl⟩, ⟨_, h2, rfl, rfl⟩, ⟨_, h3, rfl, rfl⟩⟩, fun q hq => ?_, q⟩
        have hle : s1.heap.objs.size ≤ q := by
          have e' : q = s1.heap.objs.size + 5 ∨ q = s1.heap.objs.size + 3 ∨ q = s1.heap.objs.size + 4 ∨ q = s1.heap.objs.size ∨ q = s1.heap.objs.size + 1 ∨ q = s1.heap.objs.size + 2 := by simpa using hq
          rcases e' with z | z | z | z | z | z
          · rw [z]; exact Nat.le_add_right _ _
          · rw [z]; exact Nat.le_add_right _ _
          · rw [z]; exact Nat.le_add_right _ _
          · rw [z]; exact Nat.le_refl _
          · rw [z]; exact Nat.le_add_right _ _
          · rw [z]; exact Nat.le_add_right _ _
        exact I1.fpOk hle (I1.hok.fresh hle)
theorem wlk_zip3 {K : PySem.W.Frag} {a b c : Addr} {xs ys zs : List V} {H1 : Hp} (h : SqL K H1 a xs) (h' : SqL K H1 b ys) (h'' : SqL K H1 c zs) : WlkT (Itz3 K (min (min xs.length ys.length) zs.length) a b c) (min (min xs.length ys.length) zs.length) (fun i => [xs.getD i .non, ys.getD i .non, zs.getD i .non]) H1 where
  go := fun i H hi e => ⟨hi, xs, ys, zs, xs[i]'(by omega), ys[i]'(by omega), zs[i]'(by omega), Same.seq e h, Same.seq e h', Same.seq e h'', by simp [show i < xs.length by omega], by simp [show i < ys.length by omega], by simp [show i < zs.length by omega]⟩
  yld := fun i H v H' hi e y => by
    obtain ⟨T, x, z, u, ev, hT, eH, hx, hy, hu⟩ := y
    have e1 := hx xs (Same.seq e h)
    have e2 := hy ys (Same.seq e h')
    have e3 := hu zs (Same.seq e h'')
    exact ⟨T, ev, hT, by rw [eH, List.getD_eq_getElem?_getD, List.getD_eq_getElem?_getD, List.getD_eq_getElem?_getD, e1, e2, e3]; rfl⟩
  stop := fun i H hi e => ⟨hi, xs, ys, zs, Same.seq e h, Same.seq e h', Same.seq e h'', rfl⟩
section
variable {X : Cx} {N L S G B : List Str} {a b c : Expr} {σ : L2.St} {H : Hp} {R : It → Hp → Prop} {p pos : Pos}
theorem wi_zip3 {elts : List Expr} {kk : Nat} {tpos : Pos} (cc : Nm X N L S G B) (m : Mb "zip" B) (h : WE X a σ H fun x H1 => WE X b σ H1 fun y H2 => WE X c σ H2 fun z H3 => ∃ l l' l'' xs ys zs, x = .ref l ∧ y = .ref l' ∧ z = .ref l'' ∧ SqL X.K H3 l xs ∧ SqL X.K H3 l' ys ∧ SqL X.K H3 l'' zs ∧ R (Itz3 X.K (min (min xs.length ys.length) zs.length) l l' l'') H3)
    (hs : starEach [a, b, c] X.env = [(false, eval a X.env), (false, eval b X.env), (false, eval c X.env)] := by with_unfolding_all rfl) (hs2 : starEach [b, c] X.env = [(false, eval b X.env), (false, eval c X.env)] := by with_unfolding_all rfl) (hs3 : starEach [c] X.env = [(false, eval c X.env)] := by with_unfolding_all rfl) :
    WI X (.Tuple elts kk tpos) (.Call (.Name "zip" p) [a, b, c] [] pos) σ H R :=
  (pi_zip3 (cc.bgl _ m.mem).1 (cc.blt _ m.mem) (pa_cons pe_w (pa_cons pe_w (pa_cons pe_w pa_nil hs3) (hs2.trans (by rw [hs3]))) (hs.trans (by rw [hs2]))) (hs.trans (by rw [hs2])) (by rw [hs2]; rfl)).w (WE.imp h fun x H1 h1 => WE.imp h1 fun y H2 h2 => WE.imp h2 fun z H3 ⟨l, l', l'', xs, ys, zs, e1, e2, e3, h, h', h'', q⟩ => ⟨l, l', l'', xs, ys, zs, by rw [e1, e2, e3], h, h', h'', q⟩)
end
/-! ### xs.extend(ys), list(range(a, b)) -/
section
variable {X : Cx} {N L S G B : List Str} {o e a b : Expr} {σ : L2.St} {H : Hp} {Q : VK} {apos p p2 p3 pos : Pos}
theorem w_extend (h : WE X o σ H fun x H1 => ∃ l, x = .ref l ∧ (∃ xs, SqL X.K H1 l xs) ∧ WE X e σ H1 fun y H2 => ∃ d xs ys, y = .ref d ∧ H2 l = some (.lst xs) ∧ H2 d = some (.lst ys) ∧ xs.length + ys.length ≤ sizeLine ∧ Q .non (upd H2 l (.lst (xs ++ ys))))
    (hbase : attributeBase o "extend" X.env (eval o X.env) = eval o X.env := by with_unfolding_all rfl)
    (hfew : ((backTo pos (starEach [e] X.env)).all (fun x => !x.1) && (backToKw pos (keywordEach [] X.env)).all (fun x => x.1.isSome)
      && decide ([e].length + ([] : List Keyword).length + (if ([] : List Keyword).isEmpty then 0 else 1) < 30)) = true := by with_unfolding_all rfl)
    (hline : (apos.endLine == pos.line) = true := by with_unfolding_all rfl) (hs : starEach [e] X.env = (false, eval e X.env) :: starEach [] X.env := by with_unfolding_all rfl) : WE X (.Call (.Attribute o "extend" apos) [e] [] pos) σ H Q := by
  refine (pe_bm PySem.F.plainAttrs_list PySem.F.slot_list_extend PySem.F.type_list_extend mt_extend pe_w (pa_cons pe_w pa_nil hs) hbase hfew hline hs rfl).w ?_
  exact WE.imp h fun x H1 ⟨l, e1, ⟨xs, hx⟩, q⟩ => ⟨by rw [e1]; exact Or.inl ⟨rfl, xs, hx⟩, WE.imp q fun y H2 ⟨d, xs, ys, e2, h1, h2, hz, q⟩ => ⟨l, d, xs, ys, e1, by rw [e2], h1, h2, hz, q⟩⟩
theorem rgV_nn (i j : Nat) : rgV ((i : Nat) : Int) ((j : Nat) : Int) = (List.range (j - i)).map fun k => V.int ((i + k : Nat) : Int) := by
  unfold rgV
  rw [show (((j : Nat) : Int) - ((i : Nat) : Int)).toNat = j - i by omega]
  exact List.map_congr_left fun k _ => by rw [Int.natCast_add]
/-- list(range(a, b)) -/
theorem x_listRg2 (c : Nm X N L S G B) (m : Mb "list" B) (m2 : Mb "range" B) (h : WE X a σ H fun x H1 => WE X b σ H1 fun y H2 => ∃ i j : Nat, x = .int (i : Nat) ∧ y = .int (j : Nat) ∧ i ≤ 16777216 ∧ j ≤ 16777216 ∧ ∀ q H', H2 q = none → Same H2 H' → H' q = some (.lst ((List.range (j - i)).map fun k => V.int ((i + k : Nat) : Int))) → Q (.ref q) H')
    (na2 : starEach [a, b] X.env = (false, eval a X.env) :: starEach [b] X.env := by with_unfolding_all rfl) (na3 : starEach [b] X.env = (false, eval b X.env) :: starEach [] X.env := by with_unfolding_all rfl)
    (na : starEach [.Call (.Name "range" p2) [a, b] [] p3] X.env = (false, eval (.Call (.Name "range" p2) [a, b] [] p3) X.env) :: starEach [] X.env := by with_unfolding_all rfl) : WE X (.Call (.Name "list" p) [.Call (.Name "range" p2) [a, b] [] p3] [] pos) σ H Q :=
  (pe_listRg c.calm (c.bgl _ m.mem).1 (c.blt _ m.mem) (prg_2 (c.bgl _ m2.mem).1 (c.blt _ m2.mem) pe_w pe_w na2 na3 (by rw [na3]; rfl)) na).w (WE.imp h fun x H1 h1 => WE.imp h1 fun y H2 ⟨i, j, e1, e2, hi, hj, q⟩ => ⟨((i : Nat) : Int), ((j : Nat) : Int), e1, e2, RgOk.of_le (by omega) (by omega) (by omega) (by omega), fun q' hq => by rw [rgV_nn]; exact q q' _ hq (same_new hq) upd_same⟩)
end
end Sv
namespace Sv
open PySem PySem.Spec PyProof.Rows L2
section
variable {X : Cx} {N L S G B : List Str} {tg iter : Expr} {body : List Stmt} {σ : L2.St} {H : Hp} {D : Ends} {pos : Pos}
/-- for, each item a new tuple; only the walked is asked to stand -/
theorem ws_forTM (hp : PassesOwn (model X.prog X.w) X.A X.env X.xe) (hc : Nm X N L S G B)
    (h : WI X tg iter σ H fun J H1 => ∃ n it Hw, WlkT J n it Hw ∧ ∃ Pv : Nat → L2.St → Hp → Prop, Pv 0 σ H1 ∧ (∀ i σ' H', Pv i σ' H' → Same Hw H') ∧
      (∀ i σ' H', i < n → Pv i σ' H' → ∀ T H'', H' T = none → Same H' H'' → H'' T = some (.tup (it i)) → WG X tg (.ref T) σ' H'' fun σ2 H2 => WL X body { D with nx := Pv (i + 1), ct := Pv (i + 1), bk := D.nx } σ2 H2) ∧ ∀ σ' H', Pv n σ' H' → D.nx σ' H')
    (hs : ∀ x, foldedSetIterable iter X.env x = pure x := by intro _; with_unfolding_all rfl) : WS X (.For tg iter body [] pos) D σ H := by
  refine (ps_for hp hc.calm pi_w pg_w pss_w hs).w ?_
  refine ⟨fun pins s I => thn (h.run pins s I) fun v s1 h1 => thn h1 fun itv s2 ⟨it, fp, tn, J, H', e, I', T, t0, hf, n, itm, Hw, W, Pv, p0, hsm, hst, hd⟩ => ⟨it, fp, tn, J, H', e, I', T, t0, hf, ?_⟩⟩
  refine ⟨fun i m σ' H'' => m = n - i ∧ i ≤ n ∧ Pv i σ' H'', ⟨n, by simp, Nat.zero_le _, p0⟩, ?_⟩
  rintro i m σ' H'' ⟨rfl, hi, p⟩
  by_cases hlt : i < n
  · refine .inr ⟨W.go i H'' hlt (hsm _ _ _ p), Pv (i + 1), fun σ2 H2 p' => ⟨n - (i + 1), by omega, rfl, hlt, p'⟩, fun x H3 y => ?_⟩
    obtain ⟨T, rfl, hT, rfl⟩ := W.yld i H'' x H3 hlt (hsm _ _ _ p) y
    exact hst i σ' _ hlt p T _ hT (same_new hT) upd_same
  · have e : i = n := by omega
    subst e
    exact .inl ⟨W.stop _ _ (Nat.le_refl _) (hsm _ _ _ p), hd _ _ p⟩
end
/-! ### lists of numbers by a function -/
def ilst (a : Nat → Nat) (n : Nat) : List V := (List.range n).map fun i => V.int ((a i : Nat) : Int)
theorem ilst_len (a : Nat → Nat) (n : Nat) : (ilst a n).length = n := by unfold ilst; rw [List.length_map, List.length_range]
theorem ilst_get {a : Nat → Nat} {n i : Nat} (h : i < n) : (ilst a n)[i]? = some (V.int ((a i : Nat) : Int)) := by
  unfold ilst
  rw [List.getElem?_map, List.getElem?_range h]; rfl
theorem ilst_getD {a : Nat → Nat} {n i : Nat} (h : i < n) : (ilst a n).getD i .non = V.int ((a i : Nat) : Int) := by
  rw [List.getD_eq_getElem?_getD, ilst_get h]; rfl
theorem ilst_succ (a : Nat → Nat) (n : Nat) : ilst a (n + 1) = ilst a n ++ [V.int ((a n : Nat) : Int)] := by
  unfold ilst
  rw [List.range_succ, List.map_append]; rfl
theorem ilst_drop (a : Nat → Nat) (n : Nat) : (ilst a n).drop 1 = ilst (fun i => a (i + 1)) (n - 1) := by
  cases n with
  | zero => rfl
  | succ n =>
    unfold ilst
    rw [List.range_succ_eq_map, List.map_cons, List.drop_succ_cons, List.drop_zero, List.map_map]
    rfl
theorem ilst_congr {a b : Nat → Nat} {n : Nat} (h : ∀ i, i < n → a i = b i) : ilst a n = ilst b n := by
  unfold ilst
  exact List.map_congr_left fun i hi => by rw [h i (List.mem_range.mp hi)]
theorem cut_one (xs : List V) : cutV xs (some 1) none = xs.drop 1 := by
  unfold cutV
  show (xs.drop (HT.sIx xs.length 0 (some ((1 : Nat) : Int)))).take (HT.sIx xs.length xs.length none - HT.sIx xs.length 0 (some ((1 : Nat) : Int))) = _
  rw [HT.sIx_nat, HT.sIx_none]
  cases xs with
  | nil => rfl
  | cons x xs =>
    rw [Nat.min_eq_left (by simp)]
    exact List.take_of_length_le (by simp)
theorem at_last {α : Type} {xs : List α} {v : α} (h : xs[xs.length - 1]? = some v) : atI xs (-1) = some v := by
  have hi : xs.length - 1 < xs.length := (List.getElem?_eq_some_iff.mp h).1
  unfold atI ixN
  rw [if_neg (by omega), if_pos (by omega)]
  have e : ((-1 : Int) + (xs.length : Nat)).toNat = xs.length - 1 := by omega
  simpa [e] using h
theorem ilst_last {a : Nat → Nat} {n : Nat} (h : 0 < n) : atI (ilst a n) (-1) = some (V.int ((a (n - 1) : Nat) : Int)) := at_last (by rw [ilst_len, ilst_get (by omega)])
end Sv

/-! Defs that are run where no object is being shown: repr of lists and tuples. -/
namespace Sv
open PySem PySem.Spec PyProof.Rows L2

/-- no repr stands open -/
def NoG (A : Around) : Prop := A.guards = some []
theorem NoG.deeper {A : Around} (h : NoG A) (env : Env) : NoG (A.deeper env) := h
theorem NoG.caller : NoG callerA := rfl
/-- a def's promise where no repr stands open -/
def FnRG (P : Program) (w : World) (K : PySem.W.Frag) (mg : Str → Option Value) (base : Heap) (C : CXT) (k : Nat) (f : Addr) (sp : Sp) : Prop :=
  ∀ (A : Around), NoG A → ∀ (outer : List Env) (s : Shared) (H : Hp) (us : List Value) (vs : List V) (Q : VK) (E : XK), Room k A → Env0 P w K mg base A outer s H → Vals vs us → sp vs H Q E → codeAny (model P w) A (.call (.ref f) ⟨us, []⟩) (CR C outer P w H s Q E) s
/-- the same for an argument list that binds -/
def FnOkG (P : Program) (w : World) (K : PySem.W.Frag) (mg : Str → Option Value) (base : Heap) (C : CXT) (k : Nat) (f : Addr) (fd : FuncData) (ps : List Str) (sp : Sp) : Prop :=
  ∀ (A : Around), NoG A → ∀ (outer : List Env) (s : Shared) (H : Hp) (args : Args) (us : List Value) (vs : List V) (Q : VK) (E : XK), Room k A → Env0 P w K mg base A outer s H → BindsTo s fd args (ps.zip us) → Vals vs us → sp vs H Q E → codeAny (model P w) A (.call (.ref f) args) (CR C outer P w H s Q E) s
section
variable {P : Program} {w : World} {K : PySem.W.Frag} {mg : Str → Option Value} {base : Heap} {N ps L G B : List Str} {k : Nat} {x qual : Str} {params : Arguments} {body : List Stmt} {sc : Scope} {f : Addr} {fd : FuncData} {sp : Sp}
theorem FnRG.of {C : CXT} (F : FnR P w K mg base C k f sp) : FnRG P w K mg base C k f sp := fun A _ outer s H us vs Q E hr e0 r h => F A outer s H us vs Q E hr e0 r h
/-- how a body's end answers for the call -/
theorem body_ends {N' : List Str} {qual' : Str} {sc' : Scope} {f' : Addr} {cd : Value} {A : Around} {outer : List Env} {s s' : Shared} {H : Hp} {Q : VK} {E : XK} {fl : Flow}
    (h : SP (cx P w K mg base N' qual' sc' f' cd A outer s H E) [] { nx := fun _ H' => Q .non H', rt := Q } fl s') : match fl with
      | .ret u => CE outer P w H s Q u s'
      | .next => CE outer P w H s Q .none s'
      | _ => False := by
  cases fl with
  | ret u => obtain ⟨v, σ', H', J, rv, q⟩ := h; exact ⟨v, H', J.os, J.bare, J.base, J.hok, rv, q⟩
  | next => obtain ⟨σ', H', J, q⟩ := h; exact ⟨.non, H', J.os, J.bare, J.base, J.hok, rfl, q⟩
  | brk => obtain ⟨_, _, _, q⟩ := h; exact q
  | cont => obtain ⟨_, _, _, q⟩ := h; exact q
theorem fnokg_of {dvs : List V} (F : FunD K x qual params body sc dvs [] f fd) (S : scB N ps L G B sc = true) (len : ∀ vs H Q E, sp vs H Q E → vs.length = ps.length) (hb : ∀ x ∈ B, mg x = none)
    (hbody : ∀ (cd : Value) (A : Around) (outer : List Env) (s : Shared) (H : Hp) (vs : List V) (Q : VK) (E : XK), NoG (cx P w K mg base N qual sc f cd A outer s H E).A → Room k (cx P w K mg base N qual sc f cd A outer s H E).A → Nm (cx P w K mg base N qual sc f cd A outer s H E) N L L G B → sp vs H Q E →
      WL (cx P w K mg base N qual sc f cd A outer s H E) body { nx := fun _ H' => Q .non H', rt := Q } (start N vs) H) : FnOkG P w K mg base (L2.CX P w) (k + 1) f fd ps sp := by
  obtain ⟨oc, od, dV, kV, doc, pm, an, cdv, ct, osl, rfl, lk, hcd, _, _⟩ := F.ex
  have sok := (scB_ok S).1
  intro A hg outer s H args us vs Q E room env bnd rv hsp
  have old : ∀ b o, base.get? b = some o → s.heap.get? b = some o := fun b o e => (env.bs b o e).1
  have kIn : K.In s.heap := env.mod.kin.keeps old
  have kinds : ∀ y ∈ ps.zip us, sc.names.lookup y.1 = some .local ∨ (sc.names.lookup y.1 = some .cell ∧ ((cellsFrom (s.heap.objs.size + 1) sc.names []).lookup y.1).isSome = true) := by
    rintro ⟨n, v⟩ hy
    exact (sok.par n (List.of_mem_zip hy).1).imp id fun z => ⟨z, PySem.W.cellsFrom_some _ _ _ (.inl z)⟩
  refine codeAny_call_function room.depth (kIn _ _ lk) rfl sok.co sok.gen rfl (PySem.W.codeRec_of kIn hcd) (bnd _ _ _ _ (wpAny_newFunctionEnv_cells sok.kind kinds fun e' he s1 ic => ?_))
  cases he
  refine ⟨(env.mod.nolimit.keeps old).keeps ic.toInCall.keep, codeAny_func ?_⟩
  have I0 := inv_start (CX := L2.CX P w) (E := E) sok room.hd env (len _ _ _ _ hsp) rv ic
  refine wpAny_mono ((hbody cdv A outer s H vs Q E hg (room.deeper _) (nm_of S hb) hsp).run [] s1 I0) (fun fl s' hs => ?_) fun _ _ z => z
  have e := body_ends hs
  cases fl with
  | ret u => exact e
  | next => exact e
  | brk => exact (show False from e).elim
  | cont => exact (show False from e).elim
/-- THE RULE for a def without defaults -/
theorem fnrg_of (F : FunD K x qual params body sc [] [] f fd) (S : scB N ps L G B sc = true) (len : ∀ vs H Q E, sp vs H Q E → vs.length = ps.length)
    (hbind : ∀ (kV doc pm : Value) (an : Option Addr) (cdv ct : Value) (us : List Value), us.length = ps.length → bindArgs (PySem.W.fnOf x qual params body sc .none kV doc pm an cdv ct) ⟨us, []⟩ = pure (ps.zip us)) (hb : ∀ x ∈ B, mg x = none)
    (hbody : ∀ (cd : Value) (A : Around) (outer : List Env) (s : Shared) (H : Hp) (vs : List V) (Q : VK) (E : XK), NoG (cx P w K mg base N qual sc f cd A outer s H E).A → Room k (cx P w K mg base N qual sc f cd A outer s H E).A → Nm (cx P w K mg base N qual sc f cd A outer s H E) N L L G B → sp vs H Q E →
      WL (cx P w K mg base N qual sc f cd A outer s H E) body { nx := fun _ H' => Q .non H', rt := Q } (start N vs) H) : FnRG P w K mg base (L2.CX P w) (k + 1) f sp := by
  intro A hg outer s H us vs Q E room env rv hsp
  have hl : us.length = ps.length := by rw [← len _ _ _ _ hsp]; exact (Paired.length rv).symm
  exact fnokg_of F S len hb hbody A hg outer s H ⟨us, []⟩ us vs Q E room env (F.bindsA hbind s us hl) rv hsp
end
/-! ### calls of such defs -/
structure FnG (P : Program) (w : World) (K : PySem.W.Frag) (mg : Str → Option Value) (base : Heap) (x : Str) (k : Nat) (sp : Sp) : Prop where
  ex : ∃ f, mg x = some (.ref f) ∧ PySem.W.keepIn K (.ref f) = true ∧ FnRG P w K mg base (L2.CX P w) k f sp
section
variable {X : Cx} {N L S G B : List Str} {x : Str} {e : Expr} {es : List Expr} {σ : L2.St} {H : Hp} {Q : VK} {p pos : Pos} {j k : Nat} {sp : Sp} {E : XK}
theorem w_callG (c : Nm X N L S G B) (mm : Mb x G) (F : FnG X.prog X.w X.K X.mg X.base x k sp) (hg : NoG X.A) (hr : Room j X.A) (hj : k ≤ j) (hx : PassesAt (L2.CX X.prog X.w) X σ E) (h : WA X (e :: es) σ H fun vs H1 => sp vs H1 Q E)
    (he : starEach (e :: es) X.env = (false, eval e X.env) :: starEach es X.env := by with_unfolding_all rfl) (hpl : (backTo pos (starEach es X.env)).any (·.1) = false := by with_unfolding_all rfl) : WE X (.Call (.Name x p) (e :: es) [] pos) σ H Q := by
  obtain ⟨f, hm, hk, F⟩ := F.ex
  obtain ⟨a, b, d⟩ := c.glo x mm.mem
  refine ⟨fun pins s I => wpAny_Call_Name_kw (ld_glob I a hm ?_ b)⟩
  refine PySem.W.callWith_K (h₀ := X.base) I.ok.mod.kin hk (thn (h.run pos pins s I) fun us s1 ⟨vs, H1, I1, r, q⟩ => ⟨I1.kIn, ?_⟩) he hpl
  refine wpAny_call (codeAny_mono (F X.A hg X.stack s1 H1 us vs Q E (hr.mono hj) I1.env0 r q) fun r s' hq => ?_)
  cases r with
  | error e => exact hx pins H1 s1 e s' I1 hq
  | ok fl =>
    cases fl with
    | ret u => exact I1.after hq
    | next => exact hq.elim
    | brk => exact hq.elim
    | cont => exact hq.elim
/-! ### repr -/
theorem c_reprD {v : V} {d : PyData} (hg : NoG X.A) (hu : X.A.units + 64 < cLine) (h : Dp X.K H v d) (hs : d.showable = true) (hd : d.hasDict = false) (hdp : d.depth < 60) (hz : d.shown.length ≤ sizeLine) (q : Q (.str d.shown) H) : WC X (.builtin "repr") [v] σ H Q := by
  refine ⟨fun pins s us I r => ?_⟩
  obtain ⟨u, rfl, hu1⟩ := vals1 r
  have hok : ∀ {z : Str} {t : Tok} {s' : Shared}, Inv X pins σ H s' → z = d.shown → EP X pins σ Q (.str z t) s' := fun {z t s'} I' e => ⟨.str z, H, I', ⟨_, rfl⟩, by rw [e]; exact q⟩
  have byref : ∀ a : Addr, u = .ref a → wpAny (model X.prog X.w) X.A (call (.builtin "repr") [u]) (EP X pins σ Q) X.xe s := fun a e => by
    obtain ⟨as, rd⟩ := Dp.reads I d v u h hu1
    subst e
    exact repr_of_reads' rd hs (fun z => by rw [hd] at z; cases z) hg (by omega) (fun b o e => e) (fun h' u' tk hk => hok (I.kept (t' := tk) hk) rfl) hz
  cases h with
  | non =>
    obtain rfl : u = Value.none := hu1
    exact PySem.P.repr_of_none (hok (I.tok _) (by simp only [PyData.shown]))
  | bl b =>
    obtain rfl : u = Value.bool b := hu1
    exact PySem.P.repr_of_bool (hok (I.tok _) (by simp only [PyData.shown]))
  | int i =>
    obtain ⟨t, rfl⟩ := hu1
    simp only [PyData.showable] at hs
    exact PySem.P.repr_of_int (of_decide_eq_true hs) (hok (I.tok _) (by simp only [PyData.shown]))
  | str x =>
    obtain ⟨t, rfl⟩ := hu1
    simp only [PyData.shown] at hz
    exact PySem.P.repr_of_str (hok (I.tok _) (by simp only [PyData.shown])) hz
  | lst => exact byref _ hu1
  | tup => exact byref _ hu1
theorem x_reprD {d : PyData} (c : Nm X N L S G B) (m : Mb "repr" B) (hg : NoG X.A) (hu : X.A.units + 64 < cLine) (h : WE X e σ H fun v H1 => Dp X.K H1 v d ∧ d.showable = true ∧ d.hasDict = false ∧ d.depth < 60 ∧ d.shown.length ≤ sizeLine ∧ Q (.str d.shown) H1)
    (hs : starEach [e] X.env = (false, eval e X.env) :: starEach [] X.env := by with_unfolding_all rfl) (hpl : (backTo pos (starEach [] X.env)).any (·.1) = false := by with_unfolding_all rfl) : WE X (.Call (.Name "repr" p) [e] [] pos) σ H Q :=
  w_callB c m bt_repr (wa_cons (WE.imp h fun v H1 ⟨h1, h2, h3, h4, h5, q⟩ => wa_nil (c_reprD hg hu h1 h2 h3 h4 h5 q)) hs) hs hpl
end
end Sv
namespace Sv
open PySem PySem.Spec PyProof.Rows L2
/-! ### a law whose def is run where no repr stands open -/
section
variable {P : Program} {w : World} {K : PySem.W.Frag} {mg mb : Str → Option Value} {k : Nat} {fa a : Addr} {fd : FuncData} {x : Str} {sp : Sp} {t : Shared} {us : List Value} {xs : List Int}
/-- what the law's call owes -/
abbrev LawEnd (t : Shared) (r : Result) (s' : Shared) : Prop := r = .ok (.ret (.bool true)) ∧ OldK t.heap s'.heap ∧ s'.os = t.os ∧ AllBare s'.gens
/-- the heap told: the script alone, or nothing -/
structure TopH (P : Program) (w : World) (K : PySem.W.Frag) (a : Addr) (xs : List Int) (t : Shared) (H : Hp) : Prop where
  only : Only H
  sq : SqL K H a (xs.map V.int)
  hok : HOk P w H t.heap
  one : ∀ b, H b ≠ none → b = a ∧ K.lookup a = none
theorem top_end {H : Hp} (T : TopH P w K a xs t H) {r : Result} {s' : Shared} (h : CR (L2.CX P w) [] P w H t (fun v _ => v = .bl true) (fun _ _ _ => False) r s') : LawEnd t r s' := by
  cases r with
  | error e =>
    obtain ⟨_, _, _, _, _, _, _, _, _, _, _, _, no⟩ := h
    exact no.elim
  | ok fl =>
    cases fl with
    | next => exact (show False from h).elim
    | brk => exact (show False from h).elim
    | cont => exact (show False from h).elim
    | ret u =>
      obtain ⟨v, H', h1, h2, un, h3, h4, rfl⟩ := h
      have hu : u = Value.bool true := h4
      refine ⟨by rw [hu], OldK.of_keep fun b o e => ?_, h1, h2⟩
      by_cases z : H b = none
      · exact un.keep b o e z (fun m => by cases m) (by simp)
      · rcases T.only b with y | ⟨ob, zs, y⟩
        · exact absurd y z
        · have f1 := (T.hok b _ y).1
          have f2 := (h3 b _ (un.frzs b ob _ y)).1
          rw [e] at f1
          cases f1
          exact f2
theorem top_run {H : Hp} (T : TopH P w K a xs t H) (kin : K.In t.heap) (ns1 : t.heap.Ns mainGlobals mg) (ns2 : t.heap.Ns builtinsNs mb) (boot : ∀ x : Str, x ≠ "__name__" → mb x = bootBuiltins x) (lim : t.heap.NoLimit) (gens : t.gens = #[])
    (scr : t.heap.get? a = some { cls := .type "list", data := .seq us.toArray }) (hr : Room k callerA) (F : ∀ base : Heap, K.In base → base.Ns mainGlobals mg → FnOkG P w K mg base (L2.CX P w) k fa fd [x] sp) (bnd : ∀ (s : Shared) (u : Value), BindsTo s fd ⟨[u], []⟩ [(x, u)])
    (hsp : ∀ H : Hp, Only H → SqL K H a (xs.map V.int) → sp [.ref a] H (fun v _ => v = .bl true) fun _ _ _ => False) : codeAny (model P w) callerA (.call (.ref fa) ⟨[.ref a], []⟩) (LawEnd t) t := by
  have out : ∀ {b : Addr} {o : Obj}, t.heap.get? b = some o → (b = a → K.lookup a ≠ none ∨ ∃ es ep, o.data = .dict es ep) → H b = none := fun {b o} e h => by
    refine Classical.byContradiction fun z => ?_
    obtain ⟨rfl, lk⟩ := T.one b z
    rcases h rfl with y | ⟨es, ep, y⟩
    · exact y lk
    · rw [scr] at e
      cases e
      cases (show Data.seq us.toArray _ = Data.dict es ep from y)
  have hid : ∀ {b : Addr} {m : Str → Option Value}, t.heap.Ns b m → (hidT t.heap H).Ns b m := by
    rintro b m ⟨o, es, ep, e, d, r⟩
    exact ⟨o, es, ep, hidT_get e (out e fun _ => .inr ⟨es, ep, d⟩), d, r⟩
  have kin2 : K.In (hidT t.heap H) := fun b o e => hidT_get (kin b o e) (out (kin b o e) fun z => .inl (by rw [← z, e]; simp))
  obtain ⟨mc, l1, l2⟩ := lim
  have env : Env0 P w K mg (hidT t.heap H) callerA [] t H := { frames := rfl, mod := ⟨kin2, hid ns1, ⟨mb, hid ns2, boot⟩, ⟨mc, hid l1, l2⟩⟩, bs := fun b o e => of_hidT e, bsz := Nat.le_of_eq (hidT_size _ _), funs := trivial, frf := fun b hb => (by cases hb), hok := T.hok, bare := .of_eq gens }
  exact codeAny_mono (F _ kin2 (hid ns1) callerA NoG.caller [] t H ⟨[.ref a], []⟩ [.ref a] [.ref a] _ _ hr env (bnd t (.ref a)) (.cons rfl .nil) (hsp H T.only T.sq)) fun r s' h => top_end T h
theorem top_heap (kin : K.In t.heap) (scr : t.heap.get? a = some { cls := .type "list", data := .seq us.toArray }) (hi : IntsAre us xs) (hl : xs.length ≤ sizeLine) : ∃ H, TopH P w K a xs t H := by
  have rv := vals_ints hi
  have ll := hi.length
  cases lk : K.lookup a with
  | some o =>
    have e := kin a o lk
    rw [scr] at e
    cases e
    refine ⟨fun _ => none, ⟨fun _ => .inl rfl, .inr ⟨_, us.toArray, _, lk, rfl, rfl, rfl, by rw [List.size_toArray, ll]; exact hl, by simpa using rv⟩, fun b u z => (by cases (show (none : Option HO) = some u from z)), fun b z => absurd rfl z⟩⟩
  | none =>
    let ob : Obj := { cls := .type "list", data := .seq us.toArray }
    let H : Hp := upd (fun _ => none) a (.frz ob (.lst (xs.map V.int)))
    have far : ∀ b, b ≠ a → H b = none := fun b n => upd_ne n
    have at_ : H a = some (.frz ob (.lst (xs.map V.int))) := upd_same
    refine ⟨H, ⟨fun b => ?_, .inl (.inr ⟨ob, at_⟩), fun b u z => ?_, fun b z => ⟨Classical.byContradiction fun n => z (far b n), lk⟩⟩⟩
    · by_cases n : b = a
      · rw [n]; exact .inr ⟨_, _, at_⟩
      · exact .inl (far b n)
    · by_cases n : b = a
      · subst n
        rw [at_] at z
        cases z
        exact ⟨scr, by rw [List.length_map]; exact hl, us, _, rv, scr⟩
      · rw [far b n] at z
        cases z
end
/-- a law's end, where no repr stands open -/
theorem walk_ofG {L : PySem.W.OpenLaw} {m j : Nat} {q' : Program} {lo : List Str} {XQ : (Str → Option Value) → Heap → Prop} {YQ : World → Heap → Prop} {dr : DefRec} {par : Str} (h1 : L.most = some m) (h2 : m ≤ sizeLine) (h3 : dr.params.defaults = []) (h4 : Room j callerA)
    (go : ∀ (ww : World) (gm : Str → Option Value) (ad : Addr) (hp : Heap), YQ ww hp → hp.Ns mainGlobals gm → gm dr.name = some (.ref ad) → ∃ (KK : PySem.W.Frag) (fdd : FuncData) (spp : Sp), KK.In hp ∧ (∀ (z : Shared) (u : Value), BindsTo z fdd ⟨[u], []⟩ [(par, u)]) ∧
      (∀ (HH : Hp) (aa : Addr) (xs : List Int), xs.length ≤ m → Only HH → SqL KK HH aa (xs.map V.int) → spp [.ref aa] HH (fun v _ => v = .bl true) fun _ _ _ => False) ∧
      ∀ bs : Heap, KK.In bs → bs.Ns mainGlobals gm → FnOkG L.prog ww KK gm bs (L2.CX L.prog ww) j ad fdd [par] spp) :
    PySem.W.WalkO q' lo XQ YQ L.row.toRowW dr [] (fun g us => PySem.call g us) := by
  refine Att.attach_call h1 h3 ?_
  intro ww t0 t1 gm bm ad ob pm' cd' dc aa us xs GG YY e1 e2 e3 e4 e5 e6 e7 e8
  obtain ⟨KK, fdd, spp, k1, k2, k3, k4⟩ := go ww gm ad _ YY GG.T.g e4
  obtain ⟨HH, T⟩ := top_heap (P := L.prog) (w := ww) k1 e5 e6 (Nat.le_trans e7 h2)
  exact top_run T k1 GG.T.g GG.T.b GG.T.builtins GG.T.nolimit e8 e5 h4 k4 k2 fun H o1 o2 => k3 H aa xs e7 o1 o2
end Sv
namespace Sv
open PySem PySem.Spec PyProof.Rows L2
/-! ### in an except suite -/
structure NmS (X : Cx) (N L S G B : List Str) : Prop where
  names : X.N = N
  nd : N.Nodup
  vis : ∀ x ∈ L, Vis X.env.scope x ∧ (x == ("__debug__" : Str)) = false ∧ (x == ("__classdict__" : Str)) = false
  sto : ∀ x ∈ S, Loc X.env.scope x ∧ (X.fn x = true ∨ X.env.scope.names.lookup x = some .local)
  glo : ∀ x ∈ G, Gl X x ∧ (x == ("__debug__" : Str)) = false ∧ x ≠ "__name__"
  blt : ∀ x ∈ B, X.mg x = none
  bgl : ∀ x ∈ B, Gl X x ∧ (x == ("__debug__" : Str)) = false ∧ x ≠ "__name__"
theorem Nm.su {X : Cx} {N L S G B : List Str} (c : Nm X N L S G B) (a : Addr) (pn : List (Addr × Obj)) : NmS (X.suite a pn) N L S G B := ⟨c.names, c.nd, c.vis, c.sto, c.glo, c.blt, c.bgl⟩
section
variable {X : Cx} {N L S G B : List Str} {σ : L2.St} {H : Hp} {Q : VK} {x : Str} {v : V} {p pos : Pos} {e e2 : Expr} {es : List Expr}
theorem s_name (c : NmS X N L S G B) (h : At N σ x v) (m : Mb x L) (q : Q v H) : WE X (.Name x pos) σ H Q := by
  obtain ⟨i, h1, h2⟩ := h.ix
  obtain ⟨a, b, d⟩ := c.vis x m.mem
  exact (pe_var (i := i) (by rw [c.names]; exact h1) a b d).w ⟨v, h2, q⟩
theorem s_gref {C : Addr} (c : NmS X N L S G B) (m : Mb x G) (hm : X.mg x = some (.ref C)) (q : Q (.ref C) H) : WE X (.Name x pos) σ H Q := by
  obtain ⟨a, b, d⟩ := c.glo x m.mem
  exact (pe_glob (v := .ref C) a hm rfl b).w q
theorem s_callB {id : String} (c : NmS X N L S G B) (m : Mb x B) (hv : bootBuiltins x = some (.builtin id)) (h : WA X (e :: es) σ H fun vs H1 => WC X (.builtin id) vs σ H1 Q)
    (hs : starEach (e :: es) X.env = (false, eval e X.env) :: starEach es X.env := by with_unfolding_all rfl) (hpl : (backTo pos (starEach es X.env)).any (·.1) = false := by with_unfolding_all rfl) : WE X (.Call (.Name x p) (e :: es) [] pos) σ H Q := by
  obtain ⟨a, b, d⟩ := c.bgl x m.mem
  exact ⟨fun pins s I => wpAny_Call_Name_kw (ld_blt I a (c.blt x m.mem) hv (PyProof.Rows.callWith_builtin1 (thn (h.run pos pins s I) fun us s1 ⟨vs, H1, I1, r1, q1⟩ => q1.run pins s1 us I1 r1) hs hpl) d b)⟩
theorem s_reprD {d : PyData} (c : NmS X N L S G B) (m : Mb "repr" B) (hg : NoG X.A) (hu : X.A.units + 64 < cLine) (h : WE X e σ H fun v H1 => Dp X.K H1 v d ∧ d.showable = true ∧ d.hasDict = false ∧ d.depth < 60 ∧ d.shown.length ≤ sizeLine ∧ Q (.str d.shown) H1)
    (hs : starEach [e] X.env = (false, eval e X.env) :: starEach [] X.env := by with_unfolding_all rfl) (hpl : (backTo pos (starEach [] X.env)).any (·.1) = false := by with_unfolding_all rfl) : WE X (.Call (.Name "repr" p) [e] [] pos) σ H Q :=
  s_callB c m bt_repr (wa_cons (WE.imp h fun v H1 ⟨h1, h2, h3, h4, h5, q⟩ => wa_nil (c_reprD hg hu h1 h2 h3 h4 h5 q)) hs) hs hpl
end
/-- the caught error, of class C, its dict d -/
structure Cau (K : PySem.W.Frag) (cls : Value) (d : Option Addr) (H : Hp) (C : Addr) (fld : Str) (v : V) : Prop where
  cls : cls = .ref C
  dict : ∃ dd, d = some dd ∧ H dd = some (.xd [(fld, v)])
section
variable {X : Cx} {N L S G B : List Str} {σ : L2.St} {H : Hp} {Q : VK} {x n : Str} {v : V} {p pos : Pos} {e e2 : Expr} {a : Addr} {oe : Obj} {cls : Value} {d : Option Addr} {pn : List (Addr × Obj)} {C fI : Addr} {fld : Str}
/-- e.f of the caught one -/
theorem s_xf (T : ErrC X.K C fld fI) (hz : Zc cls d oe) (hf : ∃ vs, oe.data = .fields vs) (h : WE (X.suite a ((a, oe) :: pn)) e σ H fun y H1 => y = .ref a ∧ Cau X.K cls d H1 C fld v ∧ Q v H1) (hb : attributeBase e fld X.env (eval e X.env) = eval e X.env := by with_unfolding_all rfl) :
    WE (X.suite a ((a, oe) :: pn)) (.Attribute e fld pos) σ H Q :=
  (pe_xf T.xf T.no hz hf pe_w hb).w (WE.imp h fun y H1 ⟨e1, ⟨e2, dd, e3, e4⟩, q⟩ => ⟨e1, e2, dd, _, v, e3, e4, by simp [List.lookup], q⟩)
/-- isinstance(e, c) of the caught one -/
theorem c_isE {c : V} {cv : Value} {b : Bool} (EC : ExcC X.K C) (hz : Zc cls d oe) (hf : ∃ vs, oe.data = .fields vs) (ca : Cau X.K cls d H C fld v) (hcv : ∀ u, RelV c u → u = cv) (hk : PySem.W.kitOne X.K (.ref C) cv = some b) (q : Q (.bl b) H) : WC (X.suite a ((a, oe) :: pn)) (.builtin "isinstance") [.ref a, c] σ H Q := by
  refine ⟨fun pins s us I r => ?_⟩
  obtain ⟨u, w, rfl, hu, hw⟩ : ∃ u w, us = [u, w] ∧ RelV (.ref a) u ∧ RelV c w := by
    cases r with
    | cons r1 r2 =>
      cases r2 with
      | cons r3 r4 => cases r4; exact ⟨_, _, rfl, r1, r3⟩
  obtain rfl : u = Value.ref a := hu
  obtain rfl : w = cv := hcv _ hw
  obtain ⟨ec, dd, ed, ea⟩ := ca
  subst ec ed
  obtain ⟨hget, _⟩ := I.pin (a, oe) (List.mem_append_left _ List.mem_cons_self)
  obtain ⟨vs, hd⟩ := hf
  have hx : ObjOk X.prog X.w H s.heap dd (.xd [(fld, v)]) := I.hok dd _ ea
  obtain ⟨mA, hns, hr⟩ := hx
  obtain ⟨od, ho, hl⟩ := lookIn_ns hns
  have J : PySem.W.InstAt s.heap a oe C (some od) := ⟨hget, hz.1, by unfold PySem.W.notCls; rw [hd] <;> rfl, by rw [hz.2]; exact ho⟩
  obtain ⟨cd, hcd, _⟩ := PySem.W.any_some EC.hd
  exact PySem.W.kia_one (PySem.W.kitx_exc (by rw [hcd]; rfl) EC.hg EC.hk EC.hs EC.ha EC.hn EC.ht EC.hm) I.kIn J hk (fun z => nomatch z) fun tk => ⟨.bl b, H, I.kept (t' := tk) fun _ _ z => z, rfl, q⟩
theorem s_isE {cv : Value} {b : Bool} (cc : NmS (X.suite a ((a, oe) :: pn)) N L S G B) (m : Mb "isinstance" B) (EC : ExcC X.K C) (hz : Zc cls d oe) (hf : ∃ vs, oe.data = .fields vs) (hk : PySem.W.kitOne X.K (.ref C) cv = some b)
    (h : WE (X.suite a ((a, oe) :: pn)) e σ H fun y H1 => y = .ref a ∧ WE (X.suite a ((a, oe) :: pn)) e2 σ H1 fun c H2 => (∀ u, RelV c u → u = cv) ∧ Cau X.K cls d H2 C fld v ∧ Q (.bl b) H2)
    (hs : starEach [e, e2] X.env = (false, eval e X.env) :: starEach [e2] X.env := by with_unfolding_all rfl) (hs2 : starEach [e2] X.env = (false, eval e2 X.env) :: starEach [] X.env := by with_unfolding_all rfl) (hpl : (backTo pos (starEach [e2] X.env)).any (·.1) = false := by with_unfolding_all rfl) : WE (X.suite a ((a, oe) :: pn)) (.Call (.Name "isinstance" p) [e, e2] [] pos) σ H Q :=
  s_callB cc m bt_isi (wa_cons (WE.imp h fun y H1 ⟨e1, h2⟩ => wa_cons (WE.imp h2 fun c H2 ⟨h4, h3, q⟩ => wa_nil (by rw [e1]; exact c_isE EC hz hf h3 h4 hk q)) hs2) hs) hs hpl
end
end Sv
namespace Sv
open PySem PySem.Spec PyProof.Rows L2
open He in
def exmB (x y : Str) (b : Bool) (K : PySem.W.Frag) : Bool := decide (PySem.W.exmOne K (.ref (ga K x)) (.ref (ga K y)) = some b)
open He in
theorem exmB_ok {x y : Str} {b : Bool} {K : PySem.W.Frag} (h : exmB x y b K = true) : PySem.W.exmOne K (.ref (ga K x)) (.ref (ga K y)) = some b := of_decide_eq_true h
end Sv

/-! Calls of methods and classes that may let an error out, wished for at the caller's slots. -/
namespace Sv
open PySem PySem.Spec PyProof.Rows L2
section
variable {X : Cx} {N L S G B : List Str} {x m : Str} {e o : Expr} {es : List Expr} {σ : L2.St} {H : Hp} {Q : VK} {p pos apos : Pos} {j k : Nat} {sp : Sp} {E : XK} {C : Addr}
/-- what the callee's end is for the caller -/
theorem back_at {pins : List (Addr × Obj)} {s : Shared} (hx : PassesAt (L2.CX X.prog X.w) X σ E) (I : Inv X pins σ H s) {r : Result} {s' : Shared} (h : CR (L2.CX X.prog X.w) X.stack X.prog X.w H s Q E r s') : match r with
    | .ok (.ret u) => EP X pins σ Q u s'
    | .ok _ => False
    | .error e => X.xe e s' := by
  cases r with
  | error e => exact hx pins H s e s' I h
  | ok fl =>
    cases fl with
    | ret u => exact I.after h
    | next => exact h
    | brk => exact h
    | cont => exact h
theorem code_at {f : Addr} {pins : List (Addr × Obj)} {s : Shared} {us : List Value} {vs : List V} (F : FnR X.prog X.w X.K X.mg X.base (L2.CX X.prog X.w) k f sp) (hr : Room k X.A) (hx : PassesAt (L2.CX X.prog X.w) X σ E) (I : Inv X pins σ H s) (r : Vals vs us) (h : sp vs H Q E) :
    codeAny (model X.prog X.w) X.A (.call (.ref f) ⟨us, []⟩) (fun r s' => match r with | .ok (.ret v) => EP X pins σ Q v s' | .ok _ => False | .error e => X.xe e s') s :=
  codeAny_mono (F X.A X.stack s H us vs Q E hr I.env0 r h) fun r s' hq => by
    have z := back_at hx I hq
    cases r with
    | error e => exact z
    | ok fl => cases fl <;> exact z
/-- o.m(e, ..) -/
theorem w_methA {pl : Sem Bool} (F : Mth X.prog X.w X.K X.mg X.base C m k sp) (hr : Room j X.A) (hj : k ≤ j) (hx : PassesAt (L2.CX X.prog X.w) X σ E)
    (h : WE X o σ H fun x H1 => ∃ a dx fs, x = .ref a ∧ H1 a = some (.ins C dx fs) ∧ fs.lookup m = none ∧ WA X (e :: es) σ H1 fun vs H2 => sp (.ref a :: vs) H2 Q E)
    (hst : starEach (e :: es) X.env = (false, eval e X.env) :: starEach es X.env := by with_unfolding_all rfl) (hpl : (backTo pos (starEach es X.env)).any (·.1) = false := by with_unfolding_all rfl)
    (ht : eval (.Call (.Attribute o m apos) (e :: es) [] pos) X.env = (do
      let ov ← eval o X.env
      standAt apos.atName
      let (f, first) ← holding [ov] (getMethod ov m pl)
      callWith pos f first (backTo pos (starEach (e :: es) X.env)) (backToKw pos (keywordEach [] X.env))) := by with_unfolding_all rfl) : WE X (.Call (.Attribute o m apos) (e :: es) [] pos) σ H Q := by
  obtain ⟨f, c, hm, F⟩ := F.ex
  refine ⟨fun pins s I => PySem.W.methodCall_KW (pl := pl) (thn (h.run pins s I) fun u s1 h1 => ?_) ht⟩
  obtain ⟨_, H1, I1, rx, a, dx, fs, rfl, ea, l, q⟩ := h1
  cases (show u = Value.ref a from rx)
  exact getmeth_ok I1 ea c hm l (PySem.W.callWith_K (first := [.ref a]) (h₀ := X.base) I.ok.mod.kin hm.kp (thn (q.run pos pins s1 I1) fun us s2 ⟨vs, H2, I2, r, q2⟩ => ⟨I2.kIn, wpAny_call (code_at (us := .ref a :: us) (vs := .ref a :: vs) F (hr.mono hj) hx I2 (.cons rfl r) q2)⟩) hst hpl)
/-- C.m(e, ..), a classmethod -/
theorem w_cmethA {pl : Sem Bool} (F : CMt X.prog X.w X.K X.mg X.base C m k sp) (hr : Room j X.A) (hj : k ≤ j) (hx : PassesAt (L2.CX X.prog X.w) X σ E)
    (h : WE X o σ H fun x H1 => x = .ref C ∧ WA X (e :: es) σ H1 fun vs H2 => sp (.ref C :: vs) H2 Q E)
    (hst : starEach (e :: es) X.env = (false, eval e X.env) :: starEach es X.env := by with_unfolding_all rfl) (hpl : (backTo pos (starEach es X.env)).any (·.1) = false := by with_unfolding_all rfl)
    (ht : eval (.Call (.Attribute o m apos) (e :: es) [] pos) X.env = (do
      let ov ← eval o X.env
      standAt apos.atName
      let (f, first) ← holding [ov] (getMethod ov m pl)
      callWith pos f first (backTo pos (starEach (e :: es) X.env)) (backToKw pos (keywordEach [] X.env))) := by with_unfolding_all rfl) : WE X (.Call (.Attribute o m apos) (e :: es) [] pos) σ H Q := by
  obtain ⟨p', g, rd, cm, F⟩ := F.ex
  refine ⟨fun pins s I => PySem.W.methodCall_KW (pl := pl) (thn (h.run pins s I) fun u s1 h1 => ?_) ht⟩
  obtain ⟨_, H1, I1, rx, rfl, q⟩ := h1
  cases (show u = Value.ref C from rx)
  refine ClX.getmethcm_ok I1 rd cm fun s2 I2 => ClX.callwith_cm I2 (ClX.base_none I1 (Nat.le_refl _)) cm.fi (thn (q.run pos _ s2 I2) fun us s3 ⟨vs, H2, I3, rv, q2⟩ => ⟨⟨ClX.pin_at I3, I3.kIn⟩, ?_⟩) hst hpl
  exact thn (wpAny_call (PySem.W.method_call (ClX.pin_at I3) (code_at (us := .ref C :: us) (vs := .ref C :: vs) F (hr.mono hj) hx I3 (.cons rfl rv) q2))) fun _ _ y => ClX.unpinE y
/-- C(e, ..) -/
theorem w_makeA (c : Nm X N L S G B) (mm : Mb x G) (hm : X.mg x = some (.ref C)) (F : Mkr X.prog X.w X.K X.mg X.base C k sp) (hr : Room j X.A) (hj : k + 1 ≤ j) (hx : PassesAt (L2.CX X.prog X.w) X σ E)
    (h : WA X (e :: es) σ H fun vs H1 => Made C sp vs H1 Q E)
    (he : starEach (e :: es) X.env = (false, eval e X.env) :: starEach es X.env := by with_unfolding_all rfl) (hpl : (backTo pos (starEach es X.env)).any (·.1) = false := by with_unfolding_all rfl) : WE X (.Call (.Name x p) (e :: es) [] pos) σ H Q := by
  obtain ⟨f, M, F⟩ := F.ex
  obtain ⟨a, b, d⟩ := c.glo x mm.mem
  refine ⟨fun pins s I => wpAny_Call_Name_kw (ld_glob I a hm (PySem.W.callWith_K (h₀ := X.base) I.ok.mod.kin M.kp (thn (h.run pos pins s I) fun us s1 ⟨vs, H1, I1, r, q⟩ => ⟨I1.kIn, ?_⟩) he hpl) b)⟩
  have n1 : H1 (s1.heap.objs.size + 1) = none := I1.hok.fresh (Nat.le_succ _)
  have n2 : H1 s1.heap.objs.size = none := I1.hok.fresh (Nat.le_refl _)
  have ne : s1.heap.objs.size ≠ s1.heap.objs.size + 1 := Nat.ne_of_lt (Nat.lt_succ_self _)
  have I2 := Inv.made (C := C) I1
  have go := q (s1.heap.objs.size + 1) s1.heap.objs.size (upd (upd H1 s1.heap.objs.size (.own (s1.heap.objs.size + 1))) (s1.heap.objs.size + 1) (.ins C s1.heap.objs.size [])) n1 n2 ne
    ((same_new n2).trans (same_new (by rw [upd_ne (Ne.symm ne)]; exact n1))) (by rw [upd_ne ne]; exact upd_same) upd_same
  have r2 : Vals (V.ref (s1.heap.objs.size + 1) :: vs) (Value.ref (s1.heap.objs.size + 1) :: us) := .cons rfl r
  refine wpAny_call (make_map (f := f) I1.kIn M.makes M.init (beq_iff_eq.mp M.fn) (codeAny_mono (F _ X.stack _ _ (Value.ref (s1.heap.objs.size + 1) :: us) _ _ E ((hr.mono hj).make C us []) (I2.env0.make C us []) r2 go) fun r s' hq => ?_))
  have z := back_at hx I2 hq
  cases r with
  | error e => exact z
  | ok fl =>
    cases fl with
    | ret u =>
      obtain ⟨v, H', I3, rv, ev, q3⟩ := (show EP X pins σ _ u s' from z)
      subst ev
      exact ⟨rv, V.ref (s1.heap.objs.size + 1), H', I3, rfl, q3⟩
    | next => exact (show False from z).elim
    | brk => exact (show False from z).elim
    | cont => exact (show False from z).elim
end
end Sv

/-! Classes called without arguments and with starred ones; enumerate of a tuple. -/
namespace PySem
open Sem (wp)
open AutoSeq1 (wpAny_loadPart')
theorem meets_enumerate_newTup (l : Addr) (items : Array Value) (n : Nat) (dct : Option Addr) (sl : Array (Option Value)) :
    Meets (Builtin.«enumerate.__new__» ⟨[.type "enumerate", .ref l], []⟩) (fun _ R s => s.heap.get? l = some { cls := .type "tuple", dict := dct, data := .seq items n, slots := sl } ∧
      R (.ok (.ret (.ref (s.heap.push { cls := .type "tuple_iterator", data := .fields #[.ref l, .int 0 0] }).objs.size)))
        { s with heap := (s.heap.push { cls := .type "tuple_iterator", data := .fields #[.ref l, .int 0 0] }).push { cls := .type "enumerate", data := .fields #[.none, .bool false, .ref s.heap.objs.size, rawInt 0, .none, .none] } }) :=
  .of_wp fun prog w A R s h => by
    obtain ⟨hp, g, d, tk, os⟩ := s; obtain ⟨hl, h⟩ := h
    have hsub := sub_enumerate
    have hL : Heap.IsTuple (Shared.heap ⟨hp, g, d, tk, os⟩) l items := ⟨_, hl, rfl, n, rfl⟩
    wp_walk using wpAny_loadPart' hl
    refine wpAny_stack_any fun st => wpAny_pure ?_
    split
    · rename_i c _ _ _ _ _
      cases (c == Value.type "enumerate")
      · wp_walk using wpAny_loadPart' hl, wpAny_pyIter_tuple hL
        exact ⟨_, rfl, h⟩
      · wp_walk using wpAny_loadPart' hl, wpAny_pyIter_tuple hL
        exact ⟨_, rfl, h⟩
    · wp_walk using wpAny_loadPart' hl, wpAny_pyIter_tuple hL
      exact ⟨_, rfl, h⟩
theorem call_enumerate_tup {prog : Program} {w : World} {A : Around} {E : Value → Shared → Prop} {s : Shared} {l : Addr} {items : Array Value} {Q : Value → Shared → Prop} (hL : s.heap.IsTuple l items)
    (h : ∀ h', IsEnum h' (s.heap.objs.size + 1) s.heap.objs.size 0 .none → h'.IsTupleIter s.heap.objs.size l 0 → h'.objs.size = s.heap.objs.size + 2 →
      (∀ b o, s.heap.get? b = some o → h'.get? b = some o) → Q (.ref (s.heap.objs.size + 1)) { s with heap := h' }) :
    wpAny (model prog w) A (call (.type "enumerate") [.ref l]) Q E s := by
  obtain ⟨⟨c, dct, dt, sl⟩, hl, hc, n, hd⟩ := hL
  replace hc : c = .type "tuple" := hc
  replace hd : dt = .seq items n := hd
  subst hc hd
  refine callType_new F.called_enumerate (by decide) (F.typeCall_enumerate_1 _) (F.newCall_enumerate_1 _) (fun obj => F.args_object_init_2 obj _) F.entry_enumerate_new
    (meets_enumerate_newTup l items n dct sl) ⟨hl, ?_⟩
  have hz : (s.heap.push { cls := .type "tuple_iterator", data := .fields #[.ref l, .int 0 0] }).objs.size = s.heap.objs.size + 1 := Heap.size_push ..
  show _ ∧ _
  rw [hz]
  have he : IsEnum ((s.heap.push { cls := .type "tuple_iterator", data := .fields #[.ref l, .int 0 0] }).push
      { cls := .type "enumerate", data := .fields #[.none, .bool false, .ref s.heap.objs.size, rawInt 0, .none, .none] }) (s.heap.objs.size + 1) s.heap.objs.size 0 .none := by
    have := Heap.get?_push_size (s.heap.push { cls := .type "tuple_iterator", data := .fields #[.ref l, .int 0 0] })
      (o := { cls := .type "enumerate", data := .fields #[.none, .bool false, .ref s.heap.objs.size, rawInt 0, .none, .none] }) rfl
    rw [hz] at this; exact this
  refine ⟨⟨_, he, rfl⟩, h _ he ⟨_, Heap.get?_push_of_some _ (Heap.get?_push_size _ rfl), rfl, rfl⟩ (by rw [Heap.size_push, hz]) fun b o x => Heap.get?_push_of_some _ (Heap.get?_push_of_some _ x)⟩
end PySem
namespace Sv
open PySem PySem.Spec PyProof.Rows L2
/-- two or more arguments, read in order -/
theorem evalArgs_two {M : Model} {A : Around} {E : Value → Shared → Prop} {s : Shared} {f : Value} {a b : Bool × Sem Value} {rest : List (Bool × Sem Value)} {Q : Args → Shared → Prop}
    (h : wpAny M A (spliced (a :: b :: rest)) (fun vs s' => Q ⟨vs, []⟩ s') E s) : wpAny M A (evalArgs f true (a :: b :: rest) []) Q E s := by
  unfold evalArgs
  obtain ⟨a1, a2⟩ := a
  cases a1 <;>
  · refine wpAny_bind (wpAny_mono h (fun vs s' h' => ?_) fun _ _ x => x)
    refine wpAny_holding ?_
    exact wpAny_bind (wpAny_pure (wpAny_bind (wpAny_pure (wpAny_pure h'))))
section
variable {X : Cx} {N L S G B : List Str} {x m : Str} {e e2 : Expr} {es : List Expr} {σ : L2.St} {H : Hp} {Q : VK} {p pos p1 : Pos} {j k : Nat} {sp : Sp} {E : XK} {C : Addr}
/-- C() -/
theorem w_make0 (c : Nm X N L S G B) (mm : Mb x G) (hm : X.mg x = some (.ref C)) (F : Mkr X.prog X.w X.K X.mg X.base C k sp) (hr : Room j X.A) (hj : k + 1 ≤ j) (hx : Passes (L2.CX X.prog X.w) X E)
    (h : Made C sp [] H Q E) : WE X (.Call (.Name x p) [] [] pos) σ H Q := by
  have kp := F.ex
  obtain ⟨f, M, _⟩ := kp
  obtain ⟨a, b, d⟩ := c.glo x mm.mem
  exact ⟨fun pins s I => wpAny_Call_Name_kw (ld_glob I a hm (PySem.W.callWith_K0 (first := []) I.kIn M.kp (run_mkr F hr hj hx I .nil h)) b)⟩
/-- C(.. e, ..) with a star among two or more -/
theorem w_makeSS (c : Nm X N L S G B) (mm : Mb x G) (hm : X.mg x = some (.ref C)) (F : Mkr X.prog X.w X.K X.mg X.base C k sp) (hr : Room j X.A) (hj : k + 1 ≤ j) (hx : Passes (L2.CX X.prog X.w) X E)
    (h : WA X (e :: e2 :: es) σ H fun vs H1 => Made C sp vs H1 Q E)
    (he : ∃ a b r, starEach (e :: e2 :: es) X.env = a :: b :: r := by exact ⟨_, _, _, by with_unfolding_all rfl⟩) (hst : (backTo pos (starEach (e :: e2 :: es) X.env)).any (·.1) = true := by with_unfolding_all rfl) : WE X (.Call (.Name x p) (e :: e2 :: es) [] pos) σ H Q := by
  have kp := F.ex
  obtain ⟨f, M, _⟩ := kp
  obtain ⟨a, b, d⟩ := c.glo x mm.mem
  refine ⟨fun pins s I => wpAny_Call_Name_kw (ld_glob I a hm ?_ b)⟩
  refine PySem.W.ks_call hst (PySem.W.keeps_K M.kp) ?_
  obtain ⟨u, v, r, e9⟩ := he
  have go := h.run pos pins s I
  rw [e9] at go ⊢
  refine evalArgs_two (thn go fun us s1 ⟨vs, H1, I1, rv, q⟩ => ⟨I1.kIn, ?_⟩)
  exact run_mkr F hr hj hx I1 rv q
end
/-- the tuple at a as it stands at each turn, each item in a new pair -/
def Itet (K : PySem.W.Frag) (n : Nat) (a : Addr) : It :=
  ⟨fun i H => i < n ∧ ∃ (xs : List V) (x : V), SqT K H a xs ∧ xs[i]? = some x, fun i H v H' => ∃ T x, v = .ref T ∧ H T = none ∧ H' = upd H T (.tup [.int (i : Nat), x]) ∧ ∀ xs, SqT K H a xs → xs[i]? = some x, fun i H => n ≤ i ∧ ∃ xs : List V, SqT K H a xs ∧ xs.length = n⟩
theorem turn_enumT {P : Program} {w : World} {K : PySem.W.Frag} {n : Nat} {elts : List Expr} {kk : Nat} {tpos : Pos} {a e it : Addr} (na : a ≠ it) (hei : e ≠ it) (hea : e ≠ a) :
    Turn P w K (.Tuple elts kk tpos) (Itet K n a) [e, it] e (fun i h => i ≤ n ∧ (∃ old, IsEnum h e it (0 + ((i : Nat) : Int)) old) ∧ h.IsTupleIter it a i) where
  mem := by simp
  obj := fun i h st b hb => by
    obtain ⟨_, ⟨old, he⟩, ⟨o, ho, hc, hd⟩⟩ := st
    have e' : b = e ∨ b = it := by simpa using hb
    rcases e' with z | z
    · rw [z]; exact ⟨_, he, fun v q => nomatch q⟩
    · rw [z]; exact ⟨o, ho, fun v q => by rw [hd] at q; cases q⟩
  keep := fun i h h' st k => let ⟨hn, ⟨old, he⟩, hi⟩ := st; ⟨hn, ⟨old, k e (by simp) _ he⟩, hi.at fun o q => k it (by simp) o q⟩
  item := by
    intro X hP hw hK hc i pins s σ H E I hf st hg
    subst hP hw hK
    obtain ⟨hn, he, hit⟩ := st
    obtain ⟨hin, xs, x, hq, hx⟩ := hg
    obtain ⟨its, rv, p, hz⟩ := I.tuple hq
    obtain ⟨u, hu, ru⟩ := rv.get hx
    have hh := I.ok.hd hc
    have li := (List.getElem?_eq_some_iff.mp hu).1
    have hel : e < s.heap.objs.size := by obtain ⟨_, he⟩ := he; exact Heap.lt_size he
    have hil : it < s.heap.objs.size := by obtain ⟨_, q, _⟩ := hit; exact Heap.lt_size q
    have G := GoesN.enumFrom (A := X.A) (elts := elts) (x1 := kk) (pos := tpos) 0 (Draws.tuple (prog := X.prog) (w := X.w) (A := X.A.in1) hh it a na its.toArray) e hei (by simp [hei, hea]) (by simp)
    refine thn (G.goes i s (fun u s2 => ∃ x H', Inv X pins σ H' s2 ∧ RelV x u ∧ (Itet X.K n a).yld i H x H' ∧ (i + 1 ≤ n ∧ (∃ old, IsEnum s2.heap e it (0 + (((i + 1 : Nat) : Nat) : Int)) old) ∧ s2.heap.IsTupleIter it a (i + 1)) ∧ ∀ q ∈ [e, it], H' q = none) E (by rw [List.size_toArray]; omega) ⟨he, hit, p⟩ fun v h' tk y' st' k _ => ?_) fun r s1 h => h
    obtain ⟨T, t, x', rfl, hT, e1, ht⟩ := y'
    obtain ⟨ke, ki, _⟩ := st'
    have q1 : x' = u := by rw [List.getElem?_toArray, hu] at e1; exact (Option.some.inj e1).symm
    subst q1
    have new : ObjOk X.prog X.w (upd H T (.tup [.int (i : Nat), x])) h' T (.tup [.int (i : Nat), x]) := ⟨by show 2 ≤ sizeLine; decide, [.int (0 + (i : Nat)) t, x'], .cons ⟨t, by simp⟩ (.cons ru .nil), by
      obtain ⟨o, ho, hcl, m, hd⟩ := ht
      exact ⟨o, ho, hcl, m, by simpa using hd⟩⟩
    have I1 : Inv X pins σ (upd H T (.tup [.int (i : Nat), x])) { s with heap := h', toks := tk } :=
      I.turnedNew (ch := [e, it]) (fun q ob hb e' => k q ob hb e') hf hT new
    refine ⟨.ref T, _, I1, rfl, ⟨T, x, rfl, I.hok.fresh hT, rfl, fun l hl => by rw [I.tuple_inj hl hq]; exact hx⟩, ⟨hin, ke, ki⟩, fun q hq => ?_⟩
    have hlt : q < s.heap.objs.size := by
      have e' : q = e ∨ q = it := by simpa using hq
      rcases e' with r | r
      · rw [r]; exact hel
      · rw [r]; exact hil
    rw [upd_ne (Nat.ne_of_lt (Nat.lt_of_lt_of_le hlt hT))]
    exact (hf q hq).1
  done := by
    intro X hP hw hK hc i pins s σ H E I hf st hg
    subst hP hw hK
    obtain ⟨hn, he, hit⟩ := st
    obtain ⟨hin, xs, hq, hl⟩ := hg
    have e0 : i = n := Nat.le_antisymm hn hin
    subst e0
    obtain ⟨its, rv, p, hz⟩ := I.tuple hq
    have l1 := rv.length
    have hh := I.ok.hd hc
    have G := GoesN.enumFrom (A := X.A) (elts := elts) (x1 := kk) (pos := tpos) 0 (Draws.tuple (prog := X.prog) (w := X.w) (A := X.A.in1) hh it a na its.toArray) e hei (by simp [hei, hea]) (by simp)
    have en : its.toArray.size = i := by rw [List.size_toArray]; omega
    refine thn (G.stops s (fun s1 => Inv X pins σ H s1) E (by rw [en]; exact ⟨he, hit, p⟩) fun h' tk k _ => ?_) fun r s1 h => h
    exact I.turnedL (ch := [e, it]) (fun q ob hb e' => k q ob hb e') hf
  self := fun A i s Q E st h => let ⟨_, ⟨_, he⟩, _⟩ := st; wpAny_pyIter_enum he h
def iEnumT (K : PySem.W.Frag) (ta : TA) : TI := fun σ H R => ta σ H fun vs H1 => ∃ a xs, vs = [.ref a] ∧ SqT K H1 a xs ∧ R (Itet K xs.length a) H1
theorem pi_enumT {X : Cx} {e : Expr} {ta : TA} {p pos tpos : Pos} {elts : List Expr} {kk : Nat} (hg : Gl X "enumerate") (hm : X.mg "enumerate" = none) (ha : PA X [e] ta) (hs : starEach [e] X.env = [(false, eval e X.env)] := by rfl) :
    PI X (.Tuple elts kk tpos) (.Call (.Name "enumerate" p) [e] [] pos) (iEnumT X.K ta) := by
  refine ⟨fun pins s σ H R I h => ?_⟩
  refine Call_ (ld_blt I hg hm boot_enumerate (PyProof.Rows.callWith_type1 (thn (ha.run pos pins s σ H _ I h) fun us s1 ⟨vs, H1, I1, r1, q1⟩ => ?_) hs rfl))
  obtain ⟨a, xs, ex, hq, q⟩ := q1
  subst ex
  cases r1 with
  | cons r rr =>
    cases rr
    cases r
    obtain ⟨its, rv, p', hz⟩ := I1.tuple hq
    have la : a < s1.heap.objs.size := by obtain ⟨_, q, _⟩ := p'; exact Heap.lt_size q
    refine call_enumerate_tup p' fun h' he hit hsz hk => wpAny_pyIter_enum he ?_
    have I2 : Inv X pins σ H1 { s1 with heap := h' } := I1.kept (t' := s1.toks) hk
    refine ⟨s1.heap.objs.size + 1, [s1.heap.objs.size + 1, s1.heap.objs.size], _, _, H1, rfl, I2, turn_enumT (a := a) (e := s1.heap.objs.size + 1) (it := s1.heap.objs.size) (Nat.ne_of_lt la) (Nat.succ_ne_self _) (Ne.symm (Nat.ne_of_lt (Nat.lt_succ_of_lt la))), ⟨Nat.zero_le _, ⟨.none, by simpa using he⟩, hit⟩, fun b hb => ?_, q⟩
    have e' : b = s1.heap.objs.size + 1 ∨ b = s1.heap.objs.size := by simpa using hb
    have hle : s1.heap.objs.size ≤ b := by
      rcases e' with z | z
      · rw [z]; exact Nat.le_add_right _ _
      · rw [z]; exact Nat.le_refl _
    exact I1.fpOk hle (I1.hok.fresh hle)
theorem wlk_enumT {K : PySem.W.Frag} {a : Addr} {xs : List V} {H1 : Hp} (h : SqT K H1 a xs) : WlkT (Itet K xs.length a) xs.length (fun i => [.int (i : Nat), xs.getD i .non]) H1 where
  go := fun i H hi e => ⟨hi, xs, xs[i], same_t e h, by simp [hi]⟩
  yld := fun i H v H' hi e y => by
    obtain ⟨T, x, ev, hT, eH, hx⟩ := y
    have := hx xs (same_t e h)
    exact ⟨T, ev, hT, by rw [eH, List.getD_eq_getElem?_getD, this]; rfl⟩
  stop := fun i H hi e => ⟨hi, xs, same_t e h, rfl⟩
section
variable {X : Cx} {N L S G B : List Str} {a : Expr} {σ : L2.St} {H : Hp} {R : It → Hp → Prop} {p pos : Pos}
theorem wi_enumT {elts : List Expr} {kk : Nat} {tpos : Pos} (c : Nm X N L S G B) (m : Mb "enumerate" B) (h : WE X a σ H fun x H1 => ∃ l xs, x = .ref l ∧ SqT X.K H1 l xs ∧ R (Itet X.K xs.length l) H1) (hs : starEach [a] X.env = [(false, eval a X.env)] := by with_unfolding_all rfl) :
    WI X (.Tuple elts kk tpos) (.Call (.Name "enumerate" p) [a] [] pos) σ H R :=
  (pi_enumT (c.bgl _ m.mem).1 (c.blt _ m.mem) (pa_cons pe_w pa_nil hs) hs).w (WE.imp h fun x H1 ⟨l, xs, e, h, q⟩ => ⟨l, xs, by rw [e], h, q⟩)
end
end Sv

/-! Errors of the program's own directly over a builtin kind (OverflowError, RuntimeError), their __init__ calling that of the kind. -/
namespace PySem
/-- what a builtin kind of errors brings -/
structure BaseF (B newId initId : String) (tl : List Value) : Prop where
  ex : ExcBaseFacts B newId initId tl
  st : StoreFacts B tl "object.__setattr__" "object"
  ob : tl.contains (.type "object") = true
abbrev ovTail : List Value := [.type "OverflowError", .type "ArithmeticError", .type "Exception", .type "BaseException", .type "object"]
abbrev rtTail : List Value := [.type "RuntimeError", .type "Exception", .type "BaseException", .type "object"]
theorem base_ov : BaseF "OverflowError" "OverflowError.__new__" "OverflowError.__init__" ovTail := ⟨F.excBase_OverflowError, F.store_OverflowError, by decide +kernel⟩
theorem base_rt : BaseF "RuntimeError" "RuntimeError.__new__" "RuntimeError.__init__" rtTail := ⟨F.excBase_RuntimeError, F.store_RuntimeError, by decide +kernel⟩
section
open Builtin Builtin.ObjectAttr HandSPX
variable {prog : Program} {w : World} {A : Around} {E : Value → Shared → Prop} {R : Result → Shared → Prop} {hp : Heap} {g : Array GenState} {d : Drawn} {t : Nat} {os : OsState}
theorem exc_osaB {B newId initId : String} {tl : List Value} (BF : BaseF B newId initId tl) {K : W.Frag} {name : Str} {tk : Tok} {v : Value} {x C : Addr} {fv : Array Value} {cd : ClassData}
    (X : K.In hp) (hx : hp.get? x = some { cls := .ref C, data := .fields fv }) (hcd : W.clsIn K C = some cd) (hm : cd.mro = .ref C :: tl) (hh : cd.hasDict = true) (ha : W.findIn K (.ref C) name = some none)
    (hq : ∀ h' tk' dx, (∀ b o, b ≠ x → hp.get? b = some o → h'.get? b = some o) → hp.objs.size ≤ dx → dx ≠ x → h'.get? x = some { cls := .ref C, dict := some dx, data := .fields fv } →
      h'.Ns1 dx (fun y => if y = name then some v else none) → R (.ok (.ret .none)) ⟨h', g, d, tk', os⟩) :
    codeAny (model prog w) A (.call (.builtin "object.__setattr__") ⟨[.ref x, .str name tk, v], []⟩) R ⟨hp, g, d, t, os⟩ := by
  have I : W.InstAt hp x { cls := .ref C, data := .fields fv } C none := ⟨hx, rfl, rfl, trivial⟩
  have SF := F.store_object
  have ne : cd.mro.isEmpty = false := by rw [hm]; rfl
  have hob : cd.mro.contains (.type "object") = true := by rw [hm, List.contains_cons, BF.ob, Bool.or_true]
  have hxs : x ≠ hp.objs.size := Nat.ne_of_lt (Heap.lt_size hx)
  have sub : W.Looks (model prog w) hp (isInstance (.ref x) (.type "object")) true := I.type.andThen (W.looks_mroIn X (by unfold W.mroIn; rw [hcd, Option.bind_some, if_neg (by rw [ne]; decide), hob]))
  refine codeAny_call_builtin SF.slot.plain SF.entry (@W.check_slot (model prog w) _ _ ⟨hp, g, d, t, os⟩ "object.__setattr__" "object" "__setattr__" (.ref x) [.str name tk, v] [] _ SF.kind SF.split sub (SF.args (.ref x) (.str name tk) v) ?_)
  have hmr : W.Looks (model prog w) hp (mroOf (.ref C)) cd.mro := (W.looks_clsIn X hcd).andThen .now
  have L3 : W.Looks (model prog w) hp (storeTaker? none) none := .now
  have hcls : W.Looks (model prog w) hp (classData C) cd := W.looks_clsIn X hcd
  have hpass : refuseLoop (.ref x) "__setattr__" cd.mro = pure () := by
    rw [hm, refuseLoop_ref]
    exact BF.st.passes _
  rw [W.osa_eq, refuse_eq]
  refine wpAny_bind (wpAny_bind (I.type.at (wpAny_bind (hmr.at ?_))))
  rw [hpass]
  refine wpAny_pure (wpAny_bind (I.type.at (wpAny_bind ((W.looks_findIn X ha).at (wpAny_bind (L3.at ?_))))))
  show wpAny _ _ (storeInOwnDict (.ref x) (.ref C) (.str name tk) name v false) _ _ _
  obtain ⟨nm, bs, mro, ns, qn, hd, sn, sb, ab, col, del⟩ := cd
  dsimp only at hh
  subst hh
  unfold storeInOwnDict ownDictForStores
  repeat (first | with_reducible refine store_in_new ?_ ?_ | with_reducible refine wpAny_loadPart_at hx ?_ | with_reducible refine hcls.at ?_ | wp_step)
  · exact ⟨_, #[], _, (Heap.get?_update_ne _ _ _ _ hxs.symm).trans (Heap.get?_push_at rfl rfl), rfl, fun e he => absurd he (by simp), fun _ => rfl⟩
  · intro h' tk' hn' hs
    have hx₁ : (hp.push { cls := .type "dict", data := .dict #[] }).get? x = some { cls := .ref C, data := .fields fv } := Heap.get?_push_of_some _ hx
    refine hq h' tk' hp.objs.size (fun b o hb ho => ?_) (Nat.le_refl _) hxs.symm ?_ hn'
    · exact (hs.2 b (Nat.ne_of_lt (Heap.lt_size ho))).trans ((Heap.get?_update_ne _ _ _ _ hb).trans (Heap.get?_push_of_some _ ho))
    · exact (hs.2 x hxs).trans (Heap.get?_update_self _ hx₁ rfl)
end
end PySem
namespace L2
open PySem PySem.Spec PyProof.Rows
/-- what the written part says of such a class -/
structure OexB (K : PySem.W.Frag) (C : Addr) (newId : String) (tl : List Value) : Prop where
  cls : ∃ nm q N bs sn sub ab col dd k0 k1 k2 k3 k5, K.lookup C = some (excClassObj nm q C N bs tl true sn sub ab col dd k0 k1 k2 k3 k5 newId)
  sa : PySem.W.findIn K (.ref C) "__setattr__" = some (some (.builtin "object.__setattr__"))
  exC : PySem.W.subIn K (.ref C) (.type "BaseException") = some true
  tyC : PySem.W.typeIn K (.ref C) = some (.type "type")
  kC : PySem.W.keepIn K (.ref C) = true
section
variable {X : Cx} {pins : List (Addr × Obj)} {σ : St} {H : Hp} {s : Shared} {a C dx : Addr} {f : Str} {y : V} {u : Value} {fs : List (Str × V)} {Q : Unit → Shared → Prop} {E : Value → Shared → Prop} {A : Around} {B newId initId : String} {tl : List Value}
theorem ost_newB (BF : BaseF B newId initId tl) (T : OexB X.K C newId tl) (I : Inv X pins σ H s) (e : H a = some (exo a C none)) (hno : PySem.W.findIn X.K (.ref C) f = some none) (ry : RelV y u)
    (h : ∀ dx s', H dx = none → dx ≠ a → Inv X pins σ (upd (upd H dx (exd dx [(f, y)])) a (exo a C (some dx))) s' → Q () s') : wpAny (model X.prog X.w) A (setAttr (.ref a) f u) Q E s := by
  obtain ⟨nm, q, N, bs, sn, sub, ab, col, dd, k0, k1, k2, k3, k5, hC⟩ := T.cls
  have hcl : PySem.W.clsIn X.K C = some { name := nm, bases := bs, mro := .ref C :: tl, ns := N, qualname := q, hasDict := true, slotNames := sn, subclasses := sub, abstract := ab, collection := col, hasDel := false } := by unfold PySem.W.clsIn; rw [hC] <;> rfl
  obtain ⟨t1, ho⟩ := exo_at I.hok e
  obtain ⟨hp, g, d, t, os⟩ := s
  refine PySem.W.set_plain I.kIn (ox := { cls := .ref C, dict := none, data := .fields #[.ref t1, .none, .none, .none, .bool false, .none] }) (od := none) ⟨ho, rfl, rfl, trivial⟩ T.sa ?_
  refine PySem.exc_osaB BF I.kIn ho hcl rfl rfl hno (fun h' tk' dx k dn dne hx hn => ?_)
  have hnd : H dx = none := I.hok.fresh dn
  have nd : ∀ {b : Addr} {o : Obj}, hp.get? b = some o → b ≠ dx := fun {b o} q => Nat.ne_of_lt (Nat.lt_of_lt_of_le (Heap.lt_size q) dn)
  have na : ∀ {b : Addr}, H b = none → b ≠ a := fun {b} n z => by
    rw [z, e] at n
    cases n
  have Un1 : Un X.fs [] H (upd (upd H dx (exd dx [(f, y)])) a (exo a C (some dx))) hp h' := {
    keep := fun b o q n _ _ => k b o (na n) q
    slot := fun b o q n _ _ => ⟨o.slots, k b o (na n) q⟩
    free := fun b o q n _ => by rw [upd_ne (na n), upd_ne (nd q)]; exact n
    there := fun b o q _ => by
      by_cases hb : b = a
      · exact ⟨_, by rw [hb]; exact hx⟩
      · exact ⟨o, k b o hb q⟩
    tups := fun b xs q => by rw [upd_ne (at_ne e q exo_tup), upd_ne (ne_of_none q hnd)]; exact q
    frzs := fun b o v q => by rw [upd_ne (at_ne e q exo_frz), upd_ne (ne_of_none q hnd)]; exact q
    tbls := fun b ps q => ⟨#[], by rw [upd_ne (at_ne e q exo_tbl), upd_ne (ne_of_none q hnd), q]; simp⟩ }
  refine h dx _ hnd dne (I.un (t' := tk') Un1 fun b o q => ?_)
  by_cases hb : b = a
  · subst hb
    rw [upd_same] at q
    cases q
    exact exo_ok hx
  · rw [upd_ne hb] at q
    by_cases hd : b = dx
    · subst hd
      rw [upd_same] at q
      cases q
      exact exd_ok hn (relO_put (fs := []) ry fun g => True.intro)
    · rw [upd_ne hd] at q
      exact (I.hok b o q).stay (fun c v hc z => k c v (by
          rcases hc with hc | hc
          · rw [hc]
            exact hb
          · exact at_ne e hc exo_own) z)
        (fun c hc => by rw [upd_ne (at_ne e hc exo_own), upd_ne (ne_of_none hc hnd)]; exact hc) (fun c xs hc => by rw [upd_ne (at_ne e hc exo_tup), upd_ne (ne_of_none hc hnd)]; exact hc)
theorem oinit_okB {us : List Value} {Q : Value → Shared → Prop} (BF : BaseF B newId initId tl) (T : OexB X.K C newId tl) (I : Inv X pins σ H s) (e : H a = some (exo a C none)) (hl : us.length ≤ sizeLine) (h : ∀ s', Inv X pins σ H s' → Q .none s') :
    wpAny (model X.prog X.w) A (call (.builtin initId) (.ref a :: us)) Q E s := by
  obtain ⟨nm, q, N, bs, sn, sub, ab, col, dd, k0, k1, k2, k3, k5, hC⟩ := T.cls
  obtain ⟨t1, ho⟩ := exo_at I.hok e
  obtain ⟨hp, g, d, t, os⟩ := s
  refine wpAny_call (PySem.HandSPX.init_base BF.ex (fun Y => rfl) (I.kIn _ _ hC) ho hl fun h' t2 k hx => ?_)
  have J := I.write (t' := t) (x := a) (e := a) (o := exo a C none) (by rw [e]; exact True.intro) (.inl rfl) k ⟨_, hx⟩ (exo_ok hx)
  have eu : upd H a (exo a C none) = H := by
    funext b
    by_cases hb : b = a
    · rw [hb, upd_same, e]
    · rw [upd_ne hb]
  rw [eu] at J
  exact h _ J
end
end L2
namespace Sv
open PySem PySem.Spec PyProof.Rows L2
section
open He
def oexOB (newId : String) (tl : List Value) (C : Addr) : Option Obj → Bool
  | some ⟨.type "type", _, .cls cd, sl⟩ => (match cd.mro, sl.toList with
    | .ref C' :: bm, [_, _, _, _, some (.builtin n), _] => C' == C && n == newId && !cd.hasDel && cd.hasDict && bm == tl
    | _, _ => false)
  | _ => false
theorem oexOB_ok {newId : String} {tl : List Value} {C : Addr} {oo : Option Obj} (h : oexOB newId tl C oo = true) : ∃ nm q N bs sn sub ab col dd k0 k1 k2 k3 k5, oo = some (excClassObj nm q C N bs tl true sn sub ab col dd k0 k1 k2 k3 k5 newId) := by
  unfold oexOB at h
  split at h
  · rename_i dd cd sl
    split at h
    · rename_i C' bm k0 k1 k2 k3 n k5 hm hs
      simp only [Bool.and_eq_true, beq_iff_eq, Bool.not_eq_true'] at h
      obtain ⟨⟨⟨⟨rfl, rfl⟩, hdel⟩, hdc⟩, rfl⟩ := h
      obtain ⟨nm, bs, mro, ns, qn, hd, sn, sub, ab, col, del⟩ := cd
      dsimp only at hm hdel hdc
      subst hm hdel hdc
      have hsl : sl = #[k0, k1, k2, k3, some (.builtin n), k5] := by
        obtain ⟨l⟩ := sl
        simp only at hs
        rw [hs]
      subst hsl
      exact ⟨nm, qn, ns, bs, sn, sub, ab, col, dd, k0, k1, k2, k3, k5, rfl⟩
    · cases h
  · cases h
def errOB (newId : String) (tl : List Value) (x fld : Str) (K : PySem.W.Frag) : Bool := oexOB newId tl (ga K x) (K.lookup (ga K x)) && (eqO (PySem.W.findIn K (.ref (ga K x)) "__setattr__") (some (some (.builtin "object.__setattr__"))) &&
  (decide (PySem.W.subIn K (.ref (ga K x)) (.type "BaseException") = some true) && (decide (PySem.W.typeIn K (.ref (ga K x)) = some (.type "type")) && (PySem.W.keepIn K (.ref (ga K x)) &&
  (eqO (PySem.W.findIn K (.ref (ga K x)) fld) (some none) && (xfB K (ga K x) && (eqO (PySem.W.findIn K (.ref (ga K x)) "__init__") (some (some (.ref (ma K (ga K x) "__init__")))) &&
  decide (PySem.W.typeIn K (.ref (ma K (ga K x) "__init__")) = some (.type "function")))))))))
/-- ErrC, over a builtin kind -/
structure ErrCB (K : PySem.W.Frag) (C : Addr) (fld : Str) (f : Addr) (newId : String) (tl : List Value) : Prop where
  T : OexB K C newId tl
  no : PySem.W.findIn K (.ref C) fld = some none
  xf : XfC K C
  iC : PySem.W.findIn K (.ref C) "__init__" = some (some (.ref f))
  tI : PySem.W.typeIn K (.ref f) = some (.type "function")
theorem errOB_ok {newId : String} {tl : List Value} {x fld : Str} {K : PySem.W.Frag} (h : errOB newId tl x fld K = true) : ErrCB K (ga K x) fld (ma K (ga K x) "__init__") newId tl := by
  obtain ⟨h1, h⟩ := ba h
  obtain ⟨h2, h⟩ := ba h
  obtain ⟨h3, h⟩ := ba h
  obtain ⟨h4, h⟩ := ba h
  obtain ⟨h5, h⟩ := ba h
  obtain ⟨h6, h⟩ := ba h
  obtain ⟨h7, h⟩ := ba h
  obtain ⟨h8, h9⟩ := ba h
  exact ⟨⟨oexOB_ok h1, eqO_ok h2, of_decide_eq_true h3, of_decide_eq_true h4, h5⟩, eqO_ok h6, xfB_ok h7, eqO_ok h8, of_decide_eq_true h9⟩
end
section
variable {X : Cx} {N L S G B : List Str} {x f : Str} {e o : Expr} {es : List Expr} {σ : L2.St} {H : Hp} {Q : VK} {D : Ends} {p p1 p2 p' pos : Pos} {nB newId initId : String} {tl : List Value}
/-- Kind.__init__(self, ..) of a builtin kind -/
theorem w_binit {pl : Sem Bool} (BF : BaseF nB newId initId tl) (c : Nm X N L S G B) (mm : Mb x B) (hv : bootBuiltins x = some (.type nB)) (ht : typeOf (.type nB) = pure (.type "type")) (hs : Manifest.isStub nB = false) (hh : PySem.W.handedIn (.builtin initId) = true) (vV : PySem.W.findCls X.K (.type nB) (.type "type") "__init__" = some (.val (.builtin initId)))
    (h : WA X (e :: es) σ H fun vs H1 => ∃ (a C : Addr) (ws : List V), vs = .ref a :: ws ∧ ws.length ≤ 1000 ∧ OexB X.K C newId tl ∧ H1 a = some (exo a C none) ∧ Q .non H1)
    (hn : x ≠ "__name__" := by decide) (hd : (x == ("__debug__" : Str)) = false := by decide)
    (hc : eval (.Call (.Attribute (.Name x p1) "__init__" p2) (e :: es) [] pos) X.env = (do
      let ov ← eval (.Name x p1) X.env
      standAt p2.atName
      let (f, first) ← holding [ov] (getMethod ov "__init__" pl)
      callWith pos f first (backTo pos (starEach (e :: es) X.env)) (backToKw pos (keywordEach [] X.env))) := by with_unfolding_all rfl)
    (he : starEach (e :: es) X.env = (false, eval e X.env) :: starEach es X.env := by with_unfolding_all rfl) (hpl : (backTo pos (starEach es X.env)).any (·.1) = false := by with_unfolding_all rfl) :
    WE X (.Call (.Attribute (.Name x p1) "__init__" p2) (e :: es) [] pos) σ H Q := by
  refine ⟨fun pins s I => ?_⟩
  refine PySem.W.methodCall_KW (ld_blt I (c.bgl _ mm.mem).1 (c.blt _ mm.mem) hv ?_ hn hd) hc
  obtain ⟨m, fr⟩ := I.fr
  refine PySem.W.method_type fr I.ok.mod.kin ht hs vV hh ?_
  show wpAny _ _ (callWith pos (Value.builtin initId) [] (backTo pos (starEach (e :: es) X.env)) []) _ _ _
  refine PyProof.Rows.callWith_method1 (thn (h.run pos pins _ (I.tok _)) fun us s1 ⟨vs, H1, I1, r1, a, C, ws, ev, hl, T, ea, q⟩ => ?_) he hpl
  subst ev
  cases r1 with
  | @cons _ u0 _ ur ra rw' =>
    obtain rfl : u0 = Value.ref a := ra
    have hlen : ur.length ≤ sizeLine := by
      rw [← Paired.length rw', sizeLine_eq]
      omega
    exact oinit_okB BF T I1 ea hlen fun s' J => ⟨.non, H1, J, rfl, q⟩
/-- self.f = e, self an error that is being made -/
theorem ws_ostB (BF : BaseF nB newId initId tl) (h : WE X e σ H fun y H1 => WE X o σ H1 fun x H2 => ∃ a C : Addr, x = .ref a ∧ OexB X.K C newId tl ∧ PySem.W.findIn X.K (.ref C) f = some none ∧ H2 a = some (exo a C none) ∧
      ∀ dx, H2 dx = none → dx ≠ a → D.nx σ (upd (upd H2 dx (exd dx [(f, y)])) a (exo a C (some dx))))
    (hs : swapsWith e (some (.Attribute o f p')) pos.line X.env = pure false := by with_unfolding_all rfl) : WS X (.Assign [.Attribute o f p'] e pos) D σ H := by
  refine ⟨fun pins s I => ?_⟩
  refine plainObj_wpAny_Assign_Attribute (thn (h.run pins s I) fun v s1 ⟨y, H1, I1, r1, q1⟩ => thn (q1.run pins s1 I1) fun u s2 ⟨x, H2, I2, r2, a, C, ex, T, hno, ea, q⟩ => ?_) hs
  subst ex
  obtain rfl : u = Value.ref a := r2
  exact ost_newB BF T I2 ea hno r1 fun dx s' n ne J => ⟨σ, _, J, q dx n ne⟩
end
/-- Err, over a builtin kind -/
structure ErrB (P : Program) (w : World) (K : PySem.W.Frag) (mg : Str → Option Value) (base : Heap) (C : Addr) (fld : Str) (k : Nat) (nB newId initId : String) (tl : List Value) : Prop where
  bf : BaseF nB newId initId tl
  ex : ∃ f, ErrCB K C fld f newId tl ∧ FnR P w K mg base (L2.CX P w) k f (spErrI K C fld)
section
variable {X : Cx} {N L S G B : List Str} {x : Str} {e : Expr} {σ : L2.St} {H : Hp} {p pos : Pos} {C : Addr} {fld : Str} {j k : Nat} {nB newId initId : String} {tl : List Value}
theorem wmk_errB {Q : XK} (c : Nm X N L S G B) (mm : Mb x G) (hm : X.mg x = some (.ref C)) (F0 : ErrB X.prog X.w X.K X.mg X.base C fld k nB newId initId tl) (hr : Room j X.A) (hj : k + 1 ≤ j) (h : WE X e σ H fun v H1 => ∀ d, H1 d = none → Q (.ref C) (some d) (upd H1 d (.xd [(fld, v)])))
    (he : starEach [e] X.env = (false, eval e X.env) :: starEach [] X.env := by with_unfolding_all rfl) (hpl : (backTo pos (starEach [] X.env)).any (·.1) = false := by with_unfolding_all rfl) : WMk X (.Call (.Name x p) [e] [] pos) σ H Q := by
  obtain ⟨fI, Er, F1⟩ := F0.ex
  have T := Er.T
  obtain ⟨nm, q, N', bs, sn, sub, ab, col, dd, k0, k1, k2, k3, k5, hC⟩ := T.cls
  obtain ⟨ag, b, d⟩ := c.glo x mm.mem
  refine ⟨fun pins s I => wpAny_Call_Name_kw (ld_glob I ag hm ?_ b)⟩
  have ha : WA X [e] σ H fun vs H1 => ∃ v, vs = [v] ∧ ∀ d, H1 d = none → Q (.ref C) (some d) (upd H1 d (.xd [(fld, v)])) := wa_cons (WE.imp h fun v H1 q => wa_nil ⟨v, rfl, q⟩) he
  refine PySem.W.callWith_K (h₀ := X.base) I.ok.mod.kin T.kC (thn (ha.run pos pins s I) fun us s1 ⟨vs, H1, I1, r1, v, ev, q1⟩ => ⟨I1.kIn, ?_⟩) he hpl
  subst ev
  show wpAny _ _ (call (.ref C) us) _ _ _
  have hus : us.length ≤ sizeLine := by
    rw [← Paired.length r1, sizeLine_eq]
    show 1 ≤ 16777216
    omega
  obtain ⟨hp, g, dr, tk, os⟩ := s1
  have hsz : hp.objs.size ≤ hp.objs.size + 1 := Nat.le_succ _
  have hn : H1 (hp.objs.size + 1) = none := I1.hok.fresh hsz
  have kk : ∀ b o, hp.get? b = some o → ((hp.push (PySem.W.kdv_tup us)).push (PySem.HandSPX.excO C hp.objs.size)).get? b = some o := fun b o e => Heap.get?_push_of_some _ (Heap.get?_push_of_some _ e)
  have hget : ((hp.push (PySem.W.kdv_tup us)).push (PySem.HandSPX.excO C hp.objs.size)).get? (hp.objs.size + 1) = some (PySem.HandSPX.excO C hp.objs.size) := by heap_get
  have I2 : Inv X pins σ (upd H1 (hp.objs.size + 1) (exo (hp.objs.size + 1) C none)) ⟨(hp.push (PySem.W.kdv_tup us)).push (PySem.HandSPX.excO C hp.objs.size), g, dr, tk, os⟩ :=
    I1.laid (t' := tk) (a := hp.objs.size + 1) (o := exo (hp.objs.size + 1) C none) (h' := (hp.push (PySem.W.kdv_tup us)).push (PySem.HandSPX.excO C hp.objs.size)) kk hsz (exo_ok hget)
  have r2 : Vals [V.ref (hp.objs.size + 1), v] (Value.ref (hp.objs.size + 1) :: us) := .cons rfl r1
  have hr2 : Room (k + 1) X.A := hr.mono hj
  have hq : spErrI X.K C fld [V.ref (hp.objs.size + 1), v] (upd H1 (hp.objs.size + 1) (exo (hp.objs.size + 1) C none)) (fun v' H2 => v' = .non ∧ ∃ (d : Addr), H2 (hp.objs.size + 1) = some (exo (hp.objs.size + 1) C (some d)) ∧ H2 d = some (exd d [(fld, v)]) ∧ H1 d = none ∧
      Q (.ref C) (some d) (upd (del H2 (hp.objs.size + 1)) d (.xd [(fld, v)]))) E0 := by
    refine ⟨_, v, rfl, upd_same, fun dx hdx hne => ⟨rfl, dx, upd_same, ?_, ?_, ?_⟩⟩
    · rw [upd_ne hne, upd_same]
    · rw [upd_ne hne] at hdx
      exact hdx
    · rw [upd_ne hne] at hdx
      have hH : upd (del (upd (upd (upd H1 (hp.objs.size + 1) (exo (hp.objs.size + 1) C none)) dx (exd dx [(fld, v)])) (hp.objs.size + 1) (exo (hp.objs.size + 1) C (some dx))) (hp.objs.size + 1)) dx (.xd [(fld, v)]) = upd H1 dx (.xd [(fld, v)]) := by
        funext b
        by_cases hb : b = dx
        · rw [hb, upd_same, upd_same]
        · rw [upd_ne hb, upd_ne hb]
          by_cases hb2 : b = hp.objs.size + 1
          · rw [hb2, del_same, hn]
          · rw [del_ne hb2, upd_ne hb2, upd_ne hb, upd_ne hb2]
      rw [hH]
      exact q1 dx hdx
  refine wpAny_call (PySem.HandSPX.call_own F0.bf.ex (fun Y => rfl) (I1.kIn _ _ hC) (PySem.W.looks_findIn I1.kIn Er.iC) (fun self => PySem.W.bind_fn I1.kIn self Er.tI) hus
    (codeAny_mono (F1 _ X.stack _ _ (Value.ref (hp.objs.size + 1) :: us) [V.ref (hp.objs.size + 1), v] _ E0 (hr2.make C us []) (I2.env0.make C us []) r2 hq) fun r s' hq' => ?_))
  cases r with
  | error er => exact (passL (X := X) pins σ _ _ er s' I2 hq')
  | ok fl =>
    cases fl with
    | ret u =>
      obtain ⟨v', H2, os2, bare2, un2, hok2, rv, ev, d', ea, ed, hd1, q2⟩ := hq'
      subst ev
      obtain ⟨h2, g2, d2, t2, os'⟩ := s'
      exact ⟨rv, mk_end (raises_own T.exC T.tyC) I1 hsz kk un2 hok2 os2 bare2 ea ed hd1 q2⟩
    | next => exact False.elim hq'
    | brk => exact False.elim hq'
    | cont => exact False.elim hq'
variable {Q : VK} {v : V} {a : Addr} {oe : Obj} {cls : Value} {d : Option Addr} {pn : List (Addr × Obj)} {fI : Addr}
/-- e.f of the caught one -/
theorem s_xfB (T : ErrCB X.K C fld fI newId tl) (hz : Zc cls d oe) (hf : ∃ vs, oe.data = .fields vs) (h : WE (X.suite a ((a, oe) :: pn)) e σ H fun y H1 => y = .ref a ∧ Cau X.K cls d H1 C fld v ∧ Q v H1) (hb : attributeBase e fld X.env (eval e X.env) = eval e X.env := by with_unfolding_all rfl) :
    WE (X.suite a ((a, oe) :: pn)) (.Attribute e fld pos) σ H Q :=
  (pe_xf T.xf T.no hz hf pe_w hb).w (WE.imp h fun y H1 ⟨e1, ⟨e2, dd, e3, e4⟩, q⟩ => ⟨e1, e2, dd, _, v, e3, e4, by simp [List.lookup], q⟩)
end
end Sv

/-! repr of an empty dict; builtin kinds as arguments inside except clauses. -/
namespace Sv
open PySem PySem.Spec PyProof.Rows L2
section
variable {X : Cx} {N L S G B : List Str} {σ : L2.St} {H : Hp} {Q : VK} {e : Expr} {p pos : Pos} {a : Addr}
theorem c_repr0 (hg : NoG X.A) (hu : X.A.units + 64 < cLine) (h : H a = some (.dK [])) (q : Q (.str "{}") H) : WC X (.builtin "repr") [.ref a] σ H Q := by
  refine ⟨fun pins s us I r => ?_⟩
  obtain ⟨u, rfl, hu1⟩ := vals1 r
  obtain rfl : u = Value.ref a := hu1
  obtain ⟨_, hsm, vs, kv, o, es, ep, ho, hx, hd, hk, hp, _⟩ := dk_of I.hok h
  cases kv
  have he : es.toList = [] := by
    have := hp.length
    exact List.length_eq_zero_iff.mp (by simpa using this)
  have hdp : (PyData.dict []).depth = 1 := by decide +kernel
  have hsh : (PyData.dict []).shown = ("{}" : Str) := by decide +kernel
  have rd : Reads s.heap (.ref a) (.dict []) (a :: [] ++ []) := .dict ho hx.1 hd (by rw [he]; exact .nil) (by rw [he]; exact .nil)
  exact repr_of_reads' rd (by decide +kernel) (fun _ z => by
    have z' : sysModules = a := by simpa using z
    rw [← z'] at hsm
    exact absurd hsm (by decide)) hg (by rw [hdp]; omega) (fun b o' z => z) (fun h' u' tk hk' => ⟨.str "{}", H, I.kept (t' := tk) hk', ⟨_, by rw [hsh]⟩, q⟩) (by rw [hsh, sizeLine_eq]; decide)
/-- repr shows v as the text z -/
def Shows (K : PySem.W.Frag) (H : Hp) (v : V) (z : Str) : Prop := (∃ d, Dp K H v d ∧ d.showable = true ∧ d.hasDict = false ∧ d.depth < 60 ∧ d.shown.length ≤ sizeLine ∧ z = d.shown) ∨ ∃ a, v = .ref a ∧ H a = some (.dK []) ∧ z = "{}"
theorem c_reprS {v : V} {z : Str} (hg : NoG X.A) (hu : X.A.units + 64 < cLine) (h : Shows X.K H v z) (q : Q (.str z) H) : WC X (.builtin "repr") [v] σ H Q := by
  rcases h with ⟨d, h1, h2, h3, h4, h5, rfl⟩ | ⟨a, rfl, h1, rfl⟩
  · exact c_reprD hg hu h1 h2 h3 h4 h5 q
  · exact c_repr0 hg hu h1 q
theorem x_reprS (c : Nm X N L S G B) (m : Mb "repr" B) (hg : NoG X.A) (hu : X.A.units + 64 < cLine) (h : WE X e σ H fun v H1 => ∃ z, Shows X.K H1 v z ∧ Q (.str z) H1)
    (hs : starEach [e] X.env = (false, eval e X.env) :: starEach [] X.env := by with_unfolding_all rfl) (hpl : (backTo pos (starEach [] X.env)).any (·.1) = false := by with_unfolding_all rfl) : WE X (.Call (.Name "repr" p) [e] [] pos) σ H Q :=
  w_callB c m bt_repr (wa_cons (WE.imp h fun v H1 ⟨z, h1, q⟩ => wa_nil (c_reprS hg hu h1 q)) hs) hs hpl
theorem s_reprS (c : NmS X N L S G B) (m : Mb "repr" B) (hg : NoG X.A) (hu : X.A.units + 64 < cLine) (h : WE X e σ H fun v H1 => ∃ z, Shows X.K H1 v z ∧ Q (.str z) H1)
    (hs : starEach [e] X.env = (false, eval e X.env) :: starEach [] X.env := by with_unfolding_all rfl) (hpl : (backTo pos (starEach [] X.env)).any (·.1) = false := by with_unfolding_all rfl) : WE X (.Call (.Name "repr" p) [e] [] pos) σ H Q :=
  s_callB c m bt_repr (wa_cons (WE.imp h fun v H1 ⟨z, h1, q⟩ => wa_nil (c_reprS hg hu h1 q)) hs) hs hpl
/-- a builtin kind by its name, in an except suite -/
theorem s_bty {x : Str} {T : String} (c : NmS X N L S G B) (m : Mb x B) (hv : bootBuiltins x = some (.type T)) (q : Q (.ty T) H) : WE X (.Name x pos) σ H Q := by
  obtain ⟨a, b, d⟩ := c.bgl x m.mem
  exact ⟨fun pins s I => ld_blt I a (c.blt x m.mem) hv ⟨.ty T, H, I, rfl, q⟩ d b⟩
end
theorem Shows.same {K : PySem.W.Frag} {H H' : Hp} {v : V} {z : Str} (h : Shows K H v z) (e : Same H H') (dp : ∀ (d : PyData) (v : V), Dp K H v d → Dp K H' v d) : Shows K H' v z := by
  rcases h with ⟨d, h1, h2⟩ | ⟨a, h0, h1, h2⟩
  · exact .inl ⟨d, dp d v h1, h2⟩
  · exact .inr ⟨a, h0, e _ _ h1, h2⟩
open He in
def kitXB (x : Str) (t : String) (b : Bool) (K : PySem.W.Frag) : Bool := decide (PySem.W.kitOne K (.ref (ga K x)) (.type t) = some b)
theorem bt_ovf : bootBuiltins "OverflowError" = some (.type "OverflowError") := by decide +kernel
theorem bt_rt : bootBuiltins "RuntimeError" = some (.type "RuntimeError") := by decide +kernel
theorem typ_ov : typeOf (.type "OverflowError") = pure (.type "type") := by kernel_rfl
theorem typ_rt : typeOf (.type "RuntimeError") = pure (.type "type") := by kernel_rfl
theorem fc_ov {K : PySem.W.Frag} : PySem.W.findCls K (.type "OverflowError") (.type "type") "__init__" = some (.val (.builtin "OverflowError.__init__")) := by kernel_rfl
theorem fc_rt {K : PySem.W.Frag} : PySem.W.findCls K (.type "RuntimeError") (.type "type") "__init__" = some (.val (.builtin "RuntimeError.__init__")) := by kernel_rfl
end Sv

/-! Comprehensions with two `for`s; d.setdefault; isinstance of a tuple of kinds. -/
namespace Sv
open PySem PySem.Spec PyProof.Rows L2
def WIb (X : Cx) (scope : Scope) (tg iter : Expr) (σ : L2.St) (H : Hp) (R : It → Hp → Prop) : Prop := ∀ X', Blk X scope X' → WI X' tg iter σ H R
/-- two walks, the inner one over what stood ahead of both -/
theorem lc2_of {X : Cx} {tg elt iter tg1 iter1 : Expr} {ifs ifs1 : List Expr} {scope : Scope} {vs vs1 : List Nat} {σ : L2.St} {H : Hp} {Q : VK} (P : Nat → List V → Prop)
    (h : WI X tg iter σ H fun J H1 => ∃ n it, Wlk J n it H1 ∧ P 0 [] ∧
      (∀ i acc H', i < n → P i acc → Same H1 H' → WGb X scope tg (it i) (wipe σ vs) H' fun σ2 H2 => H2 = H' ∧ wipe σ2 vs = wipe σ vs ∧ WTb X scope ifs σ2 H2 fun k H3 => Same H2 H3 ∧
        if k = true then WIb X scope tg1 iter1 σ2 H3 fun J1 H4 => Same H3 H4 ∧ ∃ n1 it1, Wlk J1 n1 it1 H1 ∧ ∃ P1 : Nat → List V → Prop, P1 0 acc ∧ (∀ acc', P1 n1 acc' → P (i + 1) acc') ∧
          ∀ j acc' H', j < n1 → P1 j acc' → Same H1 H' → WGb X scope tg1 (it1 j) (wipe σ2 vs1) H' fun σ3 H5 => H5 = H' ∧ wipe σ3 vs1 = wipe σ2 vs1 ∧ WTb X scope ifs1 σ3 H5 fun k H6 => Same H5 H6 ∧
            if k = true then WEb X scope elt σ3 H6 fun y H7 => Same H6 H7 ∧ acc'.length < sizeLine ∧ P1 (j + 1) (acc' ++ [y]) else P1 (j + 1) acc'
        else P (i + 1) acc) ∧
      ∀ acc D H', P n acc → H1 D = none → Same H1 H' → H' D = some (.lst acc) → Q (.ref D) H') :
    tLc2 (WI X tg iter) (WGb X scope tg) (WTb X scope ifs) (WIb X scope tg1 iter1) (WGb X scope tg1) (WTb X scope ifs1) (WEb X scope elt) vs vs1 σ H Q := by
  refine ⟨fun pins s I => thn (h.run pins s I) fun v s1 h1 => thn h1 fun itv s2 ⟨it, fp, tn, J, H1, e, I', T, t0, hf, n, itm, W, p0, hst, hd⟩ => ⟨it, fp, tn, J, H1, e, I', T, t0, hf, fun D hD => ?_⟩⟩
  refine ⟨fun i m H' => m = n - i ∧ i ≤ n ∧ ∃ acc, P i acc ∧ Same H1 H' ∧ H' D = some (.lst acc), ⟨n, by simp, Nat.zero_le _, [], p0, same_new hD, upd_same⟩, ?_⟩
  rintro i m H' ⟨rfl, hi, acc, hp, hsm, hDa⟩
  by_cases hlt : i < n
  · refine .inr ⟨W.go i H' hlt hsm, fun H2 => i + 1 ≤ n ∧ ∃ acc, P (i + 1) acc ∧ Same H1 H2 ∧ H2 D = some (.lst acc), fun H2 q => ⟨n - (i + 1), by omega, rfl, q⟩, fun x H3 y => ?_⟩
    obtain ⟨rfl, rfl⟩ := W.yld i H' x H3 hlt hsm y
    intro X' bX
    refine ⟨fun pins' s' u I' r => thn ((hst i acc H3 hlt hp hsm X' bX).run pins' s' u I' r) fun _ s2 ⟨σ2, H2, I2, e2, ew, q2⟩ => ⟨σ2, H2, I2, ew, fun X2 b2 => ?_⟩⟩
    subst e2
    refine ⟨fun pins3 s3 I3 => thn ((q2 X2 b2).run pins3 s3 I3) fun k s4 ⟨H4, I4, e4, q4⟩ => ⟨H4, I4, ?_⟩⟩
    cases k with
    | false =>
      rw [if_neg (by decide)] at q4 ⊢
      exact ⟨hlt, acc, q4, hsm.trans e4, e4 _ _ hDa⟩
    | true =>
      rw [if_pos rfl] at q4 ⊢
      intro X5 b5
      refine ⟨fun pins s I => thn ((q4 X5 b5).run pins s I) fun v s1 h1 => thn h1 fun itv s2 ⟨it', fp', tn', J1, H5, e', I'', T', t0', hf', e5, n1, it1, W1, P1, p1, hout, hst1⟩ => ⟨it', fp', tn', J1, H5, e', I'', T', t0', hf', ?_⟩⟩
      have s5 : Same H1 H5 := hsm.trans (e4.trans e5)
      have d5 : H5 D = some (.lst acc) := e5 _ _ (e4 _ _ hDa)
      refine ⟨fun j m H' => m = n1 - j ∧ j ≤ n1 ∧ ∃ acc', P1 j acc' ∧ Same H1 H' ∧ H' D = some (.lst acc'), ⟨n1, by simp, Nat.zero_le _, acc, p1, s5, d5⟩, ?_⟩
      rintro j m H6 ⟨rfl, hj, acc', hp1, hsm1, hDa1⟩
      by_cases hlt1 : j < n1
      · refine .inr ⟨W1.go j H6 hlt1 hsm1, fun H2 => j + 1 ≤ n1 ∧ ∃ acc, P1 (j + 1) acc ∧ Same H1 H2 ∧ H2 D = some (.lst acc), fun H2 q => ⟨n1 - (j + 1), by omega, rfl, q⟩, fun x H7 y => ?_⟩
        obtain ⟨rfl, rfl⟩ := W1.yld j H6 x H7 hlt1 hsm1 y
        intro X6 b6
        refine ⟨fun pins' s' u I' r => thn ((hst1 j acc' H7 hlt1 hp1 hsm1 X6 b6).run pins' s' u I' r) fun _ s2 ⟨σ3, H8, I2, e8, ew, q2⟩ => ⟨σ3, H8, I2, ew, fun X7 b7 => ?_⟩⟩
        subst e8
        refine ⟨fun pins3 s3 I3 => thn ((q2 X7 b7).run pins3 s3 I3) fun k s4 ⟨H9, I4, e9, q4⟩ => ⟨H9, I4, ?_⟩⟩
        cases k with
        | false =>
          rw [if_neg (by decide)] at q4 ⊢
          exact ⟨hlt1, acc', q4, hsm1.trans e9, e9 _ _ hDa1⟩
        | true =>
          rw [if_pos rfl] at q4 ⊢
          intro X8 b8
          refine WE.imp (q4 X8 b8) fun y H10 ⟨e10, hz, q5⟩ => ⟨acc', e10 _ _ (e9 _ _ hDa1), hz, hlt1, acc' ++ [y], q5, same_mut (hsm1.trans (e9.trans e10)) hD, upd_same⟩
      · have e : j = n1 := by omega
        subst e
        exact .inl ⟨W1.stop _ _ (Nat.le_refl _) hsm1, hlt, acc', hout acc' hp1, hsm1, hDa1⟩
  · have e : i = n := by omega
    subst e
    exact .inl ⟨W.stop _ _ (Nat.le_refl _) hsm, hd acc D H' hp hD hsm hDa⟩
section
variable {X : Cx} {N L S G B : List Str} {tg elt iter tg1 iter1 : Expr} {ifs ifs1 : List Expr} {scope : Scope} {own : List (Str × Nat)} {σ : L2.St} {H : Hp} {pos : Pos}
theorem w_lc2 {Q : VK} (c : Nm X N L S G B) (ok : blkC N X.env.scope scope own = true) (vs1 : List Nat) (hv : ∀ i ∈ vs1, i ∈ own.map (·.2)) (P : Nat → List V → Prop)
    (h : WI X tg iter σ H fun J H1 => ∃ n it, Wlk J n it H1 ∧ P 0 [] ∧
      (∀ i acc H', i < n → P i acc → Same H1 H' → WGb X scope tg (it i) (wipe σ (own.map (·.2))) H' fun σ2 H2 => H2 = H' ∧ wipe σ2 (own.map (·.2)) = wipe σ (own.map (·.2)) ∧ WTb X scope ifs σ2 H2 fun k H3 => Same H2 H3 ∧
        if k = true then WIb X scope tg1 iter1 σ2 H3 fun J1 H4 => Same H3 H4 ∧ ∃ n1 it1, Wlk J1 n1 it1 H1 ∧ ∃ P1 : Nat → List V → Prop, P1 0 acc ∧ (∀ acc', P1 n1 acc' → P (i + 1) acc') ∧
          ∀ j acc' H', j < n1 → P1 j acc' → Same H1 H' → WGb X scope tg1 (it1 j) (wipe σ2 vs1) H' fun σ3 H5 => H5 = H' ∧ wipe σ3 vs1 = wipe σ2 vs1 ∧ WTb X scope ifs1 σ3 H5 fun k H6 => Same H5 H6 ∧
            if k = true then WEb X scope elt σ3 H6 fun y H7 => Same H6 H7 ∧ acc'.length < sizeLine ∧ P1 (j + 1) (acc' ++ [y]) else P1 (j + 1) acc'
        else P (i + 1) acc) ∧
      ∀ acc D H', P n acc → H1 D = none → Same H1 H' → H' D = some (.lst acc) → Q (.ref D) H')
    (hs : ∀ x, foldedSetIterable iter X.env x = pure x := by intro _; with_unfolding_all rfl) (hs1 : ∀ env x, foldedSetIterable iter1 env x = pure x := by intro _ _; with_unfolding_all rfl) : WE X (.ListComp elt [⟨tg, iter, ifs, 0⟩, ⟨tg1, iter1, ifs1, 0⟩] scope pos) σ H Q := by
  have hN : X.N.Nodup := by rw [c.names]; exact c.nd
  have ok' : BlkOk X.N X.env.scope scope own := by rw [c.names]; exact blkOk_by ok
  have p := pe_lc2 (X := X) (pos := pos) (vs1 := vs1) (g := WGb X scope tg) (tt := WTb X scope ifs) (wi1 := WIb X scope tg1 iter1) (g1 := WGb X scope tg1) (tt1 := WTb X scope ifs1) (te := WEb X scope elt) c.calm hN (pi_w (X := X) (tg := tg) (iter := iter)) ok' hv
    (fun s H C cl fp => ⟨fun pins s1 σ1 H1 v u R I r q => (q _ ⟨s, H, C, cl, fp, rfl⟩).run pins s1 u I r⟩)
    (fun s H C cl fp => ⟨fun pins s1 σ1 H1 R I q => (q _ ⟨s, H, C, cl, fp, rfl⟩).run pins s1 I⟩)
    (fun s H C cl fp => ⟨fun pins s1 σ1 H1 R I q => (q _ ⟨s, H, C, cl, fp, rfl⟩).run pins s1 I⟩)
    (fun s H C cl fp => ⟨fun pins s1 σ1 H1 v u R I r q => (q _ ⟨s, H, C, cl, fp, rfl⟩).run pins s1 u I r⟩)
    (fun s H C cl fp => ⟨fun pins s1 σ1 H1 R I q => (q _ ⟨s, H, C, cl, fp, rfl⟩).run pins s1 I⟩)
    (fun s H C cl fp => ⟨fun pins s1 σ1 H1 R I q => (q _ ⟨s, H, C, cl, fp, rfl⟩).run pins s1 I⟩) hs hs1
  exact p.w (lc2_of P h)
theorem ws_setLc2 {y : Str} {py spos : Pos} {D0 : Ends} (c : Nm X N L S G B) (ok : blkC N X.env.scope scope own = true) (vs1 : List Nat) (hv : ∀ i ∈ vs1, i ∈ own.map (·.2)) (P : Nat → List V → Prop)
    (h : WI X tg iter σ H fun J H1 => ∃ n it, Wlk J n it H1 ∧ P 0 [] ∧
      (∀ i acc H', i < n → P i acc → Same H1 H' → WGb X scope tg (it i) (wipe σ (own.map (·.2))) H' fun σ2 H2 => H2 = H' ∧ wipe σ2 (own.map (·.2)) = wipe σ (own.map (·.2)) ∧ WTb X scope ifs σ2 H2 fun k H3 => Same H2 H3 ∧
        if k = true then WIb X scope tg1 iter1 σ2 H3 fun J1 H4 => Same H3 H4 ∧ ∃ n1 it1, Wlk J1 n1 it1 H1 ∧ ∃ P1 : Nat → List V → Prop, P1 0 acc ∧ (∀ acc', P1 n1 acc' → P (i + 1) acc') ∧
          ∀ j acc' H', j < n1 → P1 j acc' → Same H1 H' → WGb X scope tg1 (it1 j) (wipe σ2 vs1) H' fun σ3 H5 => H5 = H' ∧ wipe σ3 vs1 = wipe σ2 vs1 ∧ WTb X scope ifs1 σ3 H5 fun k H6 => Same H5 H6 ∧
            if k = true then WEb X scope elt σ3 H6 fun y H7 => Same H6 H7 ∧ acc'.length < sizeLine ∧ P1 (j + 1) (acc' ++ [y]) else P1 (j + 1) acc'
        else P (i + 1) acc) ∧
      ∀ acc D H', P n acc → H1 D = none → Same H1 H' → H' D = some (.lst acc) → ∃ σ', Put N σ y (.ref D) σ' ∧ D0.nx σ' H')
    (hyl : X.env.scope.names.lookup y = some .local) (hsw : swapsWith (.ListComp elt [⟨tg, iter, ifs, 0⟩, ⟨tg1, iter1, ifs1, 0⟩] scope pos) (some (.Name y py)) spos.line X.env = pure true)
    (hs : ∀ x, foldedSetIterable iter X.env x = pure x := by intro _; with_unfolding_all rfl) (hs1 : ∀ env x, foldedSetIterable iter1 env x = pure x := by intro _ _; with_unfolding_all rfl) (iy : ∃ i : Nat, N[i]? = some y) : WS X (.Assign [.Name y py] (.ListComp elt [⟨tg, iter, ifs, 0⟩, ⟨tg1, iter1, ifs1, 0⟩] scope pos) spos) D0 σ H := by
  have hN : X.N.Nodup := by rw [c.names]; exact c.nd
  have ok' : BlkOk X.N X.env.scope scope own := by rw [c.names]; exact blkOk_by ok
  obtain ⟨i, hi⟩ := iy
  have hi' : X.N[i]? = some y := by rw [c.names]; exact hi
  have p := ps_setLc2 (X := X) (pos := pos) (spos := spos) (py := py) (vs1 := vs1) (g := WGb X scope tg) (tt := WTb X scope ifs) (wi1 := WIb X scope tg1 iter1) (g1 := WGb X scope tg1) (tt1 := WTb X scope ifs1) (te := WEb X scope elt) c.calm hN hi' hyl hsw (pi_w (X := X) (tg := tg) (iter := iter)) ok' hv
    (fun s H C cl fp => ⟨fun pins s1 σ1 H1 v u R I r q => (q _ ⟨s, H, C, cl, fp, rfl⟩).run pins s1 u I r⟩)
    (fun s H C cl fp => ⟨fun pins s1 σ1 H1 R I q => (q _ ⟨s, H, C, cl, fp, rfl⟩).run pins s1 I⟩)
    (fun s H C cl fp => ⟨fun pins s1 σ1 H1 R I q => (q _ ⟨s, H, C, cl, fp, rfl⟩).run pins s1 I⟩)
    (fun s H C cl fp => ⟨fun pins s1 σ1 H1 v u R I r q => (q _ ⟨s, H, C, cl, fp, rfl⟩).run pins s1 u I r⟩)
    (fun s H C cl fp => ⟨fun pins s1 σ1 H1 R I q => (q _ ⟨s, H, C, cl, fp, rfl⟩).run pins s1 I⟩)
    (fun s H C cl fp => ⟨fun pins s1 σ1 H1 R I q => (q _ ⟨s, H, C, cl, fp, rfl⟩).run pins s1 I⟩) hs hs1
  refine p.w ?_
  refine lc2_of (Q := fun v H1 => D0.nx (σ.set i (some v)) H1) P ⟨fun pins s I => thn (h.run pins s I) fun v s1 h1 => thn h1 fun itv s2 ⟨it, fp, tn, J, H1, e, I', T, t0, hf, n, itm, W, p0, hst, hd⟩ => ⟨it, fp, tn, J, H1, e, I', T, t0, hf, n, itm, W, p0, hst, fun acc D H' h2 h3 h4 h5 => ?_⟩⟩
  obtain ⟨σ', hp, q⟩ := hd acc D H' h2 h3 h4 h5
  obtain ⟨i', hi2, rfl⟩ := hp.ix
  have ei : i' = i := nodup_ix hN (by rw [c.names]; exact hi2) hi'
  rw [← ei]
  exact q
end
section
variable {X : Cx} {N L S G B : List Str} {o e f : Expr} {σ : L2.St} {H : Hp} {Q : VK} {p p2 p3 apos pos : Pos}
/-- d.setdefault(k, v) of a dict of numbers or texts -/
theorem w_setd (h : WE X o σ H fun x H1 => ∃ a, x = .ref a ∧ IsD H1 a ∧ WE X e σ H1 fun y H2 => WE X f σ H2 fun z H3 => ∃ (kvs : List (Key × V)) (k : Key), H3 a = some (.dK kvs) ∧ y = kV k ∧ kvs.length < sizeLine ∧
      (∀ v, valV kvs k = some v → Q v H3) ∧ (valV kvs k = none → Q z (upd H3 a (.dK (putK kvs k z)))))
    (h1 : attributeBase o "setdefault" X.env (eval o X.env) = eval o X.env := by with_unfolding_all rfl)
    (h2 : ((backTo pos (starEach [e, f] X.env)).all (fun x => !x.1) && (backToKw pos (keywordEach [] X.env)).all (fun x => x.1.isSome) && decide (([e, f] : List Expr).length + ([] : List Keyword).length + (if ([] : List Keyword).isEmpty then 0 else 1) < 30)) = true := by with_unfolding_all rfl)
    (h3 : (apos.endLine == pos.line) = true := by with_unfolding_all rfl) (h4 : backTo pos (starEach [e, f] X.env) = [(false, eval e X.env), (false, eval f X.env)] := by with_unfolding_all rfl) :
    WE X (.Call (.Attribute o "setdefault" apos) [e, f] [] pos) σ H Q := (pe_dsetd pe_w pe_w pe_w ⟨h1, h2, h3, h4⟩).w h
/-- {} -/
theorem w_dnew (h : ∀ p H', H p = none → Same H H' → H' p = some (.dK []) → Q (.ref p) H') : WE X (.Dict [] [] pos) σ H Q := pe_dnewK.w (newly' (Q := fun p H' => Q (.ref p) H') h)
/-- d[k] -/
theorem w_dget (hu : X.A.units + 1 < cLine) (h : WE X o σ H fun x H1 => WE X e σ H1 fun y H2 => ∃ a v, x = .ref a ∧ DGet H2 a y (some v) ∧ Q v H2) (hs : NoSl e := by with_unfolding_all exact fun _ _ => rfl) : WE X (.Subscript o e pos) σ H Q := (pe_dget hu pe_w pe_w hs).w h
/-- a walk over a list or a tuple that a local name holds -/
theorem wi_seqN {x : Str} {tg : Expr} {a : Addr} {xs : List V} {R : It → Hp → Prop} (c : Nm X N L S G B) (h : At N σ x (.ref a)) (m : Mb x L) (hl : H a = some (.lst xs) ∨ H a = some (.tup xs)) (q : ∀ J, (∀ H0, H0 a = H a → Wlk J xs.length (fun i => xs.getD i .non) H0) → R J H) : WI X tg (.Name x pos) σ H R := by
  rcases hl with hl | hl
  · exact wi_list (w_name c h m ⟨a, xs, rfl, .inl (.inl hl), q _ fun H0 e => wlk_list (.inl (.inl (e.trans hl)))⟩)
  · exact wi_tup (w_name c h m ⟨a, xs, rfl, .inl (.inl hl), q _ fun H0 e => wlk_tup (.inl (.inl (e.trans hl)))⟩)
/-- isinstance(x, (T1, T2)) of built-in kinds -/
theorem c_isiT {x : V} {tp : Addr} {cs : List V} {t : Value} {us : List Value} {b : Bool} (h1 : H tp = some (.tup cs)) (h2 : Paired ClsV cs us) (ht : TyX X.K H x t) (hk : PySem.W.kitAny X.K t us = some b) (q : Q (.bl b) H) : WC X (.builtin "isinstance") [x, .ref tp] σ H Q := call_isiT.w ⟨x, tp, cs, t, us, b, rfl, h1, h2, ht, hk, q⟩
/-- tuple(xs) of a list -/
theorem x_tupleL (c : Nm X N L S G B) (m : Mb "tuple" B) (h : WE X e σ H fun x H1 => ∃ a xs, x = .ref a ∧ SqL X.K H1 a xs ∧ ∀ p H', H1 p = none → Same H1 H' → H' p = some (.tup xs) → Q (.ref p) H') (hs : starEach [e] X.env = (false, eval e X.env) :: starEach [] X.env := by with_unfolding_all rfl) (hpl : (backTo pos (starEach [] X.env)).any (·.1) = false := by with_unfolding_all rfl) : WE X (.Call (.Name "tuple" p) [e] [] pos) σ H Q :=
  w_callTy c m bt_tuple (wa_cons (WE.imp h fun x H1 ⟨a, xs, ex, l, q⟩ => wa_nil (by rw [ex]; exact call_tuple_of.w ⟨a, xs, rfl, .inl ⟨l, newly' (Q := fun p H' => Q (.ref p) H') q⟩⟩)) hs) hs hpl
theorem c_minL {a : Addr} {ns : List Int} (hc : X.calm = true) (h : SqL X.K H a (ns.map V.int)) (hne : 0 < ns.length) (q : ∀ m, m ∈ ns → (∀ x ∈ ns, m ≤ x) → Q (.int m) H) : WC X (.builtin "min") [.ref a] σ H Q := by
  refine ⟨fun pins s us I rv => ?_⟩
  obtain ⟨its, rw', hl, hzl⟩ := I.list h
  rw [Vals.ref1 rv]
  have hi := rw'.ints
  obtain ⟨xs, e⟩ := hi.allInts.items
  have hns : xs.toList.map (·.1) = ns := by
    have := hi.numsOf
    rw [← this, ← nums_intItems, ← e]
  have hsz : xs.size = ns.length := by rw [← hns]; simp
  refine min_intList (I.ok.hd hc) (by rw [← e]; exact hl.isList) (by omega) fun v h' tk hv hk => ?_
  obtain ⟨t, rfl⟩ := intItems_at hv
  obtain ⟨h1, h2⟩ := argBest_lt (numAt xs) (xs.size - 1)
  refine ⟨.int _, H, I.kept (t' := tk) hk, ⟨t, rfl⟩, q _ ?_ fun a ha => ?_⟩
  · rw [numAt_eq, hns, List.getD_eq_getElem?_getD, List.getElem?_eq_getElem (by omega)]
    exact List.getElem_mem _
  · obtain ⟨j, hj, rfl⟩ := List.getElem_of_mem ha
    have := h2 j (by omega)
    rw [numAt_eq xs j, hns, List.getD_eq_getElem?_getD, List.getElem?_eq_getElem hj] at this
    exact this
end
end Sv

namespace Sv
open PySem PySem.Spec PyProof.Rows L2
/-- sys.modules is known as a dict -/
def SysD (K : PySem.W.Frag) : Prop := ∃ o, K.lookup PySem.sysModules = some o ∧ o.cls = .type "dict"
def sysB (K : PySem.W.Frag) : Bool := match K.lookup PySem.sysModules with
  | some o => decide (o.cls = .type "dict")
  | none => false
theorem sysB_ok {K : PySem.W.Frag} (h : sysB K = true) : SysD K := by
  unfold sysB at h
  split at h
  · rename_i o e
    exact ⟨o, e, of_decide_eq_true h⟩
  · cases h
/-- t + u of tuples -/
theorem b_catT {X : Cx} {σ : L2.St} {H : Hp} {Q : VK} {l b : Addr} {xs zs : List V} (h1 : H l = some (.tup xs)) (h2 : H b = some (.tup zs)) (hz : xs.length + zs.length ≤ sizeLine) (hne : zs ≠ []) (q : ∀ p H', Same H H' → H' p = some (.tup (xs ++ zs)) → Q (.ref p) H') :
    WB X (binaryOp .Add) (.ref l) (.ref b) σ H Q := op_catA.w ⟨_, _, _, _, rfl, rfl, .inl (.inl h1), .inl (.inl h2), hz, fun e => q b H (Same.refl _) (by rw [e, List.nil_append]; exact h2), fun _ e => absurd e hne, fun _ _ p hp => q p _ (same_new hp) upd_same⟩
end Sv

/-! Plain mathematics of observations: all texts of a length, those that agree, those that fit. -/
namespace Sv
open PySem PySem.Spec PyProof.Rows L2
/-- all texts of n signs, + ahead of - -/
def txs : Nat → List (List Bool)
  | 0 => [[]]
  | n + 1 => (txs n).flatMap fun t => [t ++ [true], t ++ [false]]
def opt : Option Bool → List Bool
  | some b => [b]
  | none => [true, false]
/-- .. with some signs known -/
def agr (sg : Nat → Option Bool) : Nat → List (List Bool)
  | 0 => [[]]
  | n + 1 => (agr sg n).flatMap fun t => (opt (sg n)).map fun b => t ++ [b]
def fitsAt (sg : Nat → Option Bool) (t : List Bool) (i : Nat) : Bool := match sg i with
  | some b => t.getD i false == b
  | none => true
def agree (fs : List (Nat × Bool)) (t : List Bool) : Bool := fs.all fun f => kp t f.1 == f.2
def primB (t : List Bool) : Bool := (List.range t.length).all fun d => d == 0 || t.length % d != 0 || !((List.range t.length).all fun i => kp t (i + d) == kp t i)
def okB (t : List Bool) : Bool := t.contains true && primB t
def allp (L : Nat) : List (List Bool) := (List.range L).flatMap fun i => (txs (i + 1)).filter okB
def fits (fs : List (Nat × Bool)) (L : Nat) : List (List Bool) := (List.range L).flatMap fun i => ((txs (i + 1)).filter (agree fs)).filter okB
theorem txs_len {n : Nat} : ∀ {t : List Bool}, t ∈ txs n → t.length = n := by
  induction n with
  | zero => intro t h; rw [txs] at h; rw [List.mem_singleton.mp h]; rfl
  | succ n ih =>
    intro t h
    rw [txs, List.mem_flatMap] at h
    obtain ⟨u, hu, h⟩ := h
    have := ih hu
    simp only [List.mem_cons, List.not_mem_nil, or_false] at h
    rcases h with rfl | rfl <;> simp [this]
theorem txs_size (n : Nat) : (txs n).length = 2 ^ n := by
  induction n with
  | zero => rfl
  | succ n ih =>
    rw [txs, List.length_flatMap]
    have : (List.map (fun t => ([t ++ [true], t ++ [false]] : List (List Bool)).length) (txs n)) = (txs n).map fun _ => 2 := rfl
    rw [this, List.map_const', List.sum_replicate_nat, ih, Nat.pow_succ]
theorem mem_txs {n : Nat} : ∀ {t : List Bool}, t.length = n → t ∈ txs n := by
  induction n with
  | zero => intro t h; rw [txs, List.length_eq_zero_iff.mp h]; exact List.mem_singleton.mpr rfl
  | succ n ih =>
    intro t h
    have hne : t ≠ [] := fun z => by rw [z] at h; cases h
    rw [txs, List.mem_flatMap]
    refine ⟨t.dropLast, ih (by rw [List.length_dropLast]; omega), ?_⟩
    have e := List.dropLast_concat_getLast hne
    simp only [List.mem_cons, List.not_mem_nil, or_false]
    cases hb : t.getLast hne with
    | true => rw [hb] at e; exact .inl e.symm
    | false => rw [hb] at e; exact .inr e.symm
theorem flatMap_filter' {α β : Type} (p : α → Bool) (f : α → List β) : ∀ l : List α, (l.filter p).flatMap f = l.flatMap fun t => if p t = true then f t else []
  | [] => rfl
  | a :: l => by
    rw [List.filter_cons, List.flatMap_cons]
    by_cases h : p a = true
    · rw [if_pos h, if_pos h, List.flatMap_cons, flatMap_filter' p f l]
    · rw [if_neg h, if_neg h, flatMap_filter' p f l, List.nil_append]
theorem filter_flatMap' {α β : Type} (p : β → Bool) (f : α → List β) : ∀ l : List α, (l.flatMap f).filter p = l.flatMap fun t => (f t).filter p
  | [] => rfl
  | a :: l => by rw [List.flatMap_cons, List.flatMap_cons, List.filter_append, filter_flatMap' p f l]
theorem flatMap_congr' {α β : Type} {f g : α → List β} : ∀ {l : List α}, (∀ x ∈ l, f x = g x) → l.flatMap f = l.flatMap g
  | [], _ => rfl
  | a :: l, h => by rw [List.flatMap_cons, List.flatMap_cons, h a List.mem_cons_self, flatMap_congr' fun x hx => h x (List.mem_cons_of_mem _ hx)]
theorem agr_eq (sg : Nat → Option Bool) (n : Nat) : agr sg n = (txs n).filter fun t => (List.range n).all (fitsAt sg t) := by
  induction n with
  | zero => rfl
  | succ n ih =>
    rw [agr, txs, ih, flatMap_filter', filter_flatMap']
    refine flatMap_congr' fun t ht => ?_
    have hl := txs_len ht
    have key : ∀ b, ((List.range (n + 1)).all (fitsAt sg (t ++ [b]))) = ((List.range n).all (fitsAt sg t) && (match sg n with | some c => b == c | none => true)) := fun b => by
      rw [List.range_succ, List.all_append]
      congr 1
      · rw [Bool.eq_iff_iff, List.all_eq_true, List.all_eq_true]
        have : ∀ i, i ∈ List.range n → fitsAt sg (t ++ [b]) i = fitsAt sg t i := fun i hi => by
          unfold fitsAt
          rw [List.getD_eq_getElem?_getD, List.getElem?_append_left (by rw [hl]; exact List.mem_range.mp hi), ← List.getD_eq_getElem?_getD]
        exact ⟨fun h i hi => by rw [← this i hi]; exact h i hi, fun h i hi => by rw [this i hi]; exact h i hi⟩
      · rw [List.all_cons, List.all_nil, Bool.and_true]
        unfold fitsAt
        cases sg n with
        | none => rfl
        | some c => rw [List.getD_eq_getElem?_getD, ← hl]; simp
    cases hs : sg n with
    | none =>
      simp only [opt, List.map_cons, List.map_nil, List.filter_cons, List.filter_nil, key, hs, Bool.and_true]
      by_cases h : (List.range n).all (fitsAt sg t) = true
      · rw [if_pos h, if_pos h, if_pos h]
      · rw [if_neg h, if_neg h, if_neg h]
    | some c =>
      simp only [opt, List.map_cons, List.map_nil, List.filter_cons, List.filter_nil, key, hs]
      by_cases h : (List.range n).all (fitsAt sg t) = true
      · rw [if_pos h, h]; cases c <;> simp
      · rw [if_neg h, Bool.eq_false_iff.mpr h]; simp
/-- signs that say the facts modulo p -/
structure Signs (fs : List (Nat × Bool)) (p : Nat) (sg : Nat → Option Bool) : Prop where
  all : ∀ f ∈ fs, sg (f.1 % p) = some f.2
  only : ∀ r b, sg r = some b → ∃ n, (n, b) ∈ fs ∧ n % p = r
theorem fitsAt_agree {fs : List (Nat × Bool)} {p : Nat} {sg : Nat → Option Bool} (h : Signs fs p sg) (h0 : 0 < p) {t : List Bool} (ht : t.length = p) : ((List.range p).all (fitsAt sg t)) = agree fs t := by
  unfold agree
  rw [Bool.eq_iff_iff, List.all_eq_true, List.all_eq_true]
  constructor
  · intro k f hf
    have := k (f.1 % p) (List.mem_range.mpr (Nat.mod_lt _ h0))
    unfold fitsAt at this
    rw [h.all f hf] at this
    unfold kp
    rw [ht]
    exact this
  · intro k r hr
    unfold fitsAt
    cases hs : sg r with
    | none => rfl
    | some b =>
      obtain ⟨n, hn, e⟩ := h.only r b hs
      have := k (n, b) hn
      unfold kp at this
      rw [ht] at this
      show (t.getD r false == b) = true
      rw [← e]
      exact this
theorem agr_signs {fs : List (Nat × Bool)} {p : Nat} {sg : Nat → Option Bool} (h : Signs fs p sg) (h0 : 0 < p) : agr sg p = (txs p).filter (agree fs) := by
  rw [agr_eq]
  exact List.filter_congr fun t ht => fitsAt_agree h h0 (txs_len ht)
/-- facts that contradict each other modulo p -/
def Contra (fs : List (Nat × Bool)) (p : Nat) : Prop := ∃ a ∈ fs, ∃ b ∈ fs, a.1 % p = b.1 % p ∧ a.2 ≠ b.2
theorem contra_none {fs : List (Nat × Bool)} {p : Nat} (h : Contra fs p) : (txs p).filter (agree fs) = [] := by
  rw [List.filter_eq_nil_iff]
  intro t ht k
  obtain ⟨a, ha, b, hb, e, ne⟩ := h
  unfold agree at k
  rw [List.all_eq_true] at k
  have k1 := eq_of_beq (k a ha)
  have k2 := eq_of_beq (k b hb)
  refine ne ?_
  rw [← k1, ← k2]
  unfold kp
  rw [txs_len ht, e]
theorem primB_iff {t : List Bool} (h0 : 0 < t.length) : primB t = true ↔ Prim t := by
  have per : ∀ d, ((List.range t.length).all fun i => kp t (i + d) == kp t i) = true ↔ Per (kp t) d := fun d => by
    rw [List.all_eq_true]
    constructor
    · intro k i
      have hi := Nat.mod_lt i h0
      have := eq_of_beq (k (i % t.length) (List.mem_range.mpr hi))
      rw [(kp_per t).mod] at this
      rw [← this, ← (kp_per t).mod (i + d), ← (kp_per t).mod (i % t.length + d)]
      congr 1
      rw [Nat.mod_add_mod]
    · intro k i _
      exact beq_iff_eq.mpr (k i)
  unfold primB Prim
  rw [List.all_eq_true]
  constructor
  · intro k d d0 dl dd hp
    have := k d (List.mem_range.mpr dl)
    simp only [Bool.or_eq_true, beq_iff_eq, bne_iff_ne, Bool.not_eq_true'] at this
    rcases this with (z | z) | z
    · omega
    · exact z (Nat.mod_eq_zero_of_dvd dd)
    · have := (per d).mpr hp
      rw [z] at this
      cases this
  · intro k d hd
    have dl := List.mem_range.mp hd
    by_cases d0 : d = 0
    · simp [d0]
    by_cases dd : t.length % d = 0
    · have := k d (by omega) dl (Nat.dvd_of_mod_eq_zero dd)
      have : ((List.range t.length).all fun i => kp t (i + d) == kp t i) = false := by
        rw [Bool.eq_false_iff]
        exact fun z => this ((per d).mp z)
      rw [this]
      simp
    · simp [dd]
theorem okB_iff {t : List Bool} (h0 : 0 < t.length) (h1 : t.length ≤ 10000) : okB t = true ↔ Good t := by
  unfold okB
  rw [Bool.and_eq_true, List.contains_iff_mem, primB_iff h0]
  exact ⟨fun ⟨a, b⟩ => ⟨⟨h0, h1, a⟩, b⟩, fun g => ⟨g.plus, g.prim⟩⟩
theorem fits_allp (fs : List (Nat × Bool)) (L : Nat) : fits fs L = (allp L).filter (agree fs) := by
  unfold fits allp
  rw [filter_flatMap']
  refine flatMap_congr' fun i _ => ?_
  rw [List.filter_filter, List.filter_filter]
  exact List.filter_congr fun t _ => Bool.and_comm _ _
theorem allp_succ (L : Nat) : allp (L + 1) = allp L ++ (txs (L + 1)).filter okB := by
  unfold allp
  rw [List.range_succ, List.flatMap_append]
  simp
theorem fits_succ (fs : List (Nat × Bool)) (L : Nat) : fits fs (L + 1) = fits fs L ++ ((txs (L + 1)).filter (agree fs)).filter okB := by
  unfold fits
  rw [List.range_succ, List.flatMap_append]
  simp
theorem allp_len (L : Nat) : (allp L).length + 2 ≤ 2 ^ (L + 1) := by
  induction L with
  | zero => decide
  | succ L ih =>
    rw [allp_succ, List.length_append]
    have := List.length_filter_le okB (txs (L + 1))
    rw [txs_size] at this
    rw [Nat.pow_succ]
    omega
theorem fits_len (fs : List (Nat × Bool)) (L : Nat) : (fits fs L).length + 2 ≤ 2 ^ (L + 1) := by
  rw [fits_allp]
  have := List.length_filter_le (agree fs) (allp L)
  have := allp_len L
  omega
theorem mem_allp {L : Nat} {t : List Bool} (hL : L ≤ 10000) : t ∈ allp L ↔ Good t ∧ t.length ≤ L := by
  unfold allp
  rw [List.mem_flatMap]
  constructor
  · rintro ⟨i, hi, h⟩
    have hi := List.mem_range.mp hi
    obtain ⟨h1, h2⟩ := List.mem_filter.mp h
    have := txs_len h1
    exact ⟨(okB_iff (by omega) (by omega)).mp h2, by omega⟩
  · rintro ⟨g, hl⟩
    have := g.one
    refine ⟨t.length - 1, List.mem_range.mpr (by omega), List.mem_filter.mpr ⟨mem_txs (by omega), (okB_iff g.one g.most).mpr g⟩⟩
theorem mem_fits {fs : List (Nat × Bool)} {L : Nat} {t : List Bool} (hL : L ≤ 10000) : t ∈ fits fs L ↔ Good t ∧ t.length ≤ L ∧ agree fs t = true := by
  rw [fits_allp, List.mem_filter, mem_allp hL, and_assoc]
theorem pow_le_2048 {L : Nat} (h : L ≤ 10) : 2 ^ (L + 1) ≤ 2048 := Nat.le_trans (Nat.pow_le_pow_right (by decide) (by omega : L + 1 ≤ 11)) (by decide)
theorem txs_1024 {L : Nat} (h : L ≤ 10) : (txs L).length ≤ 1024 := by
  rw [txs_size]
  exact Nat.le_trans (Nat.pow_le_pow_right (by decide) h) (by decide)
end Sv

/-! A static method called through an instance; == and != of an instance with values of other kinds. -/
namespace Sv
open PySem PySem.Spec PyProof.Rows L2
structure SMi (K : PySem.W.Frag) (C : Addr) (m : Str) (p : Addr) : Prop where
  ha : PySem.W.findIn K (.ref C) m = some (some (.ref p))
  ht : PySem.W.typeIn K (.ref p) = some (.type "staticmethod")
  hg : PySem.W.specialIn K (.ref p) "__get__" = some (some (.builtin "staticmethod.__get__"))
  hts : PySem.W.takesIn K (.ref p) = some false
  hc : PySem.W.copiedNames.contains m = false
structure SMI (P : Program) (w : World) (K : PySem.W.Frag) (mg : Str → Option Value) (base : Heap) (C : Addr) (m : Str) (k : Nat) (sp : Sp) : Prop where
  ex : ∃ (p g : Addr) (rest : List Value), Cls K C ∧ SMi K C m p ∧ PySem.W.recIn K p "staticmethod" = some (.ref g :: rest) ∧ PySem.W.keepIn K (.ref g) = true ∧ FnR P w K mg base (L2.CX P w) k g sp
open He in
def smiB (x m : Str) (K : PySem.W.Frag) : Bool := decide (PySem.W.findIn K (.ref (ga K x)) m = some (some (.ref (ma K (ga K x) m)))) && (decide (PySem.W.typeIn K (.ref (ma K (ga K x) m)) = some (.type "staticmethod")) &&
  (decide (PySem.W.specialIn K (.ref (ma K (ga K x) m)) "__get__" = some (some (.builtin "staticmethod.__get__"))) && (decide (PySem.W.takesIn K (.ref (ma K (ga K x) m)) = some false) && !(PySem.W.copiedNames.contains m))))
open He in
theorem smiB_ok {x m : Str} {K : PySem.W.Frag} (h : smiB x m K = true) : SMi K (ga K x) m (ma K (ga K x) m) := by
  obtain ⟨h1, h⟩ := ba h
  obtain ⟨h2, h⟩ := ba h
  obtain ⟨h3, h⟩ := ba h
  obtain ⟨h4, h5⟩ := ba h
  exact ⟨of_decide_eq_true h1, of_decide_eq_true h2, of_decide_eq_true h3, of_decide_eq_true h4, by simpa using h5⟩
section
variable {X : Cx} {N L S G B : List Str} {m : Str} {e o : Expr} {es : List Expr} {σ : L2.St} {H : Hp} {Q : VK} {pos apos : Pos}
/-- o.m(e, ..), m a static method, o an instance -/
theorem w_smethI {C : Addr} {k j : Nat} {sp : Sp} {E : XK} {pl : Sem Bool} (F : SMI X.prog X.w X.K X.mg X.base C m k sp) (hr : Room j X.A) (hj : k ≤ j) (hx : Passes (L2.CX X.prog X.w) X E)
    (h : WE X o σ H fun x H1 => ∃ a dx fs, x = .ref a ∧ H1 a = some (.ins C dx fs) ∧ fs.lookup m = none ∧ WA X (e :: es) σ H1 fun vs H2 => sp vs H2 Q E)
    (hst : starEach (e :: es) X.env = (false, eval e X.env) :: starEach es X.env := by with_unfolding_all rfl) (hpl : (backTo pos (starEach es X.env)).any (·.1) = false := by with_unfolding_all rfl)
    (ht : eval (.Call (.Attribute o m apos) (e :: es) [] pos) X.env = (do
      let ov ← eval o X.env
      standAt apos.atName
      let (f, first) ← holding [ov] (getMethod ov m pl)
      callWith pos f first (backTo pos (starEach (e :: es) X.env)) (backToKw pos (keywordEach [] X.env))) := by with_unfolding_all rfl) : WE X (.Call (.Attribute o m apos) (e :: es) [] pos) σ H Q := by
  obtain ⟨p, g, rest, c, si, rc, kp, F⟩ := F.ex
  refine ⟨fun pins s I => PySem.W.methodCall_KW (pl := pl) (thn (h.run pins s I) fun u s1 ⟨x, H1, I1, rx, a, dx, fs, ex, ea, l, q⟩ => ?_) ht⟩
  subst ex
  obtain rfl : u = Value.ref a := rx
  obtain ⟨mA, O, r, _⟩ := ins_get I1.hok ea
  obtain ⟨od, J, hl⟩ := O.look
  have hno : mA m = none := RelO.none_of (by rw [← l]; exact r m)
  have pg := PySem.W.plainGet_of (c.get m)
  refine PySem.W.method_usual (r := some (.ref p)) I1.kIn J pg.1 pg.2 si.ha (by simp only [Option.all_some, si.ht, Option.any_some]; decide +kernel) ?_
  refine PySem.W.get_bind I1.kIn J pg.1 (PySem.W.findObj_fn c.hd si.ha si.hg si.hts si.hc (by rw [hl, hno])) pg.2 ?_
  refine wpAny_call (PySem.W.sm_get (s := { s1 with toks := s1.toks + 1 }) I1.kIn rc (PySem.W.handed_on rfl ?_))
  have I2 := I1.tok (s1.toks + 1)
  refine PySem.W.callWith_K (first := []) (h₀ := X.base) I.ok.mod.kin kp (thn (q.run pos pins _ I2) fun us s2 ⟨vs, H2, I3, rv, q2⟩ => ⟨I3.kIn, ?_⟩) hst hpl
  exact wpAny_call (run_fnR (us := us) (vs := vs) F (hr.mono hj) hx I3 rv q2)
end
/-! ### the other side is of another kind -/
/-- its kind, as the model tells it -/
inductive Kd (H : Hp) : V → String → Prop where
  | non : Kd H .non "NoneType"
  | int (i : Int) : Kd H (.int i) "int"
  | str (x : Str) : Kd H (.str x) "str"
  | lst {a : Addr} {xs : List V} (e : H a = some (.lst xs)) : Kd H (.ref a) "list"
theorem Kd.looks {X : Cx} {pins : List (Addr × Obj)} {σ : L2.St} {H : Hp} {s : Shared} {y : V} {T : String} {u : Value} (I : Inv X pins σ H s) (k : Kd H y T) (r : RelV y u) : PySem.W.Looks (model X.prog X.w) s.heap (typeOf u) (.type T) := by
  cases k with
  | non => obtain rfl : u = Value.none := r; exact fun A Q E s k q => wpAny_of_eq (show typeOf .none = pure (.type "NoneType") from rfl) q
  | int i => obtain ⟨t, rfl⟩ := r; exact fun A Q E s k q => wpAny_of_eq (show typeOf (.int i t) = pure (.type "int") from rfl) q
  | str x => obtain ⟨t, rfl⟩ := r; exact fun A Q E s k q => wpAny_of_eq (show typeOf (.str x t) = pure (.type "str") from rfl) q
  | @lst a xs e =>
    obtain rfl : u = Value.ref a := r
    obtain ⟨_, its, n, rv, eo⟩ := (show ObjOk X.prog X.w H s.heap a (.lst xs) from I.hok a _ e)
    exact fun A Q E s k q => wpAny_typeOf_ref (k _ _ eo) q
section
variable {X : Cx} {σ : L2.St} {H : Hp} {Q : VK} {a C dx : Addr} {fs : List (Str × V)} {k j : Nat} {sp : Sp} {y : V} {T : String}
theorem b_eqX (F : EqM X.prog X.w X.K X.mg X.base C k sp) (hr : Room j X.A) (hj : k + 1 ≤ j) (ha : H a = some (.ins C dx fs)) (hy : Kd H y T) (hn : PySem.W.subIn X.K (.type T) (.ref C) = some false) (q : sp [.ref a, y] H (fun v H' => ∃ r, v = .bl r ∧ Q (.bl r) H') E0) :
    WB X (compareOp .Eq) (.ref a) y σ H Q := by
  obtain ⟨f, c, F⟩ := F.ex
  refine ⟨fun pins s v u I rx ry => ?_⟩
  cases rx
  obtain ⟨mA, O, _⟩ := ins_get I.hok ha
  obtain ⟨od, J, _⟩ := O.look
  obtain ⟨m, hF⟩ := I.fr
  refine PySem.W.cmp_K (op := .Eq) (tb := .type T) hr.units0 hF I.ok.mod.kin J (hy.looks I ry) (by simp [PySem.W.notFirst, hn]) c.eq c.fn ?_
  refine wpAny_mono (wpAny_call (run_fnR (us := [.ref a, u]) (vs := [.ref a, y]) F (hr.mono (by omega)) passL I (.cons rfl (.cons ry .nil)) q)) (fun w s' z => ?_) fun _ _ x => x
  obtain ⟨z', H', I', rz, r, ez, qz⟩ := z
  subst ez
  cases rz
  exact ⟨.bl r, H', I', rfl, qz⟩
end
section
open PySem.Builtin
variable {P : Program} {wo : World} {A : Around} {E : Value → Shared → Prop} {h : Heap} {g : Array GenState} {dr : Drawn} {tk : Nat} {os : OsState} {C x f : Addr} {b : Value}
/-- object.__ne__ of an instance whose class has its own __eq__, any other side -/
theorem neOwn (X : h.OwnEqNoNe x C f "object" [.type "object"]) (hu : A.units < cLine) {Q : Fin → Shared → Prop}
    (hc : wpAny (model P wo) A (call (.ref f) [.ref x, b]) (fun v s' => ∃ r, v = .bool r ∧ Q (.done (.ret (.bool (!r)))) s') E ⟨h, g, dr, tk, os⟩) :
    wpAny (model P wo) A (Builtin.«object.__ne__» ⟨[.ref x, b], []⟩) Q E ⟨h, g, dr, tk, os⟩ := by
  have oe := X.ownEq
  have hc2 := wpAny_callSpecialIfBound?_own oe (args := [b]) (Q := fun o s' => ∃ r, o = some (.bool r) ∧ Q (.done (.ret (.bool (!r)))) s') (wpAny_mono hc (fun r s' ⟨z, e, q⟩ => ⟨z, by rw [e], q⟩) fun _ _ e => e)
  delta Builtin.«object.__ne__»
  repeat (first
    | (with_reducible refine wpAny_cRoomFor hu ?_)
    | (refine wpAny_bind (m := callSpecialIfBound? (.ref x) (Str.ofString "__eq__") [b]) (wpAny_mono hc2 (fun r s' z => ?_) fun _ _ e => e); obtain ⟨z, rfl, hq⟩ := z)
    | exact hq
    | exact wpAny_pure hq
    | exact wpAny_truthy_bool hq
    | (refine wpAny_bind (m := truthy (.bool _)) (wpAny_truthy_bool ?_))
    | wp_step)
theorem tryNe (X : h.OwnEqNoNe x C f "object" [.type "object"]) (hu : A.units + 1 < cLine) {Q : Option Value → Shared → Prop}
    (hc : wpAny (model P wo) A.in1 (call (.ref f) [.ref x, b]) (fun v s' => ∃ r, v = .bool r ∧ Q (some (.bool (!r))) s') E ⟨h, g, dr, tk, os⟩) :
    wpAny (model P wo) A (tryCompare (.ref x) "__ne__" b) Q E ⟨h, g, dr, tk, os⟩ := by
  have FB := PySem.F.cmp_object
  obtain ⟨o, _, nm, q, N, bs, hdct, sn, sub, ab, col, dd, k0, k1, k2, k3, k5, newId, mN, _, hx, hcl, hC, hn, _, _, _, _, _, hne⟩ := id X
  delta tryCompare
  refine wpAny_bind (wpAny_callSpecialIfBound?_inst hx hcl hC hn hne FB.mro FB.ne (wpAny_call ?_))
  refine codeAny_call_builtin FB.ne.plain F.cmpEntry_ne ?_
  refine wpAny_check_slot_inst F.cmpKind_ne F.cmpSplit_ne (F.cmpArgs_ne _ _) FB.hasObject hx hcl hC ?_
  refine neOwn (A := A.in1) X hu (wpAny_mono hc (fun v s' z => ?_) fun _ _ e => e)
  obtain ⟨r, rfl, hq⟩ := z
  first | exact ⟨r, rfl, wpAny_pure hq⟩ | exact ⟨r, rfl, wpAny_pure (wpAny_pure hq)⟩ | exact ⟨r, rfl, hq⟩
end
section
variable {X : Cx} {σ : L2.St} {H : Hp} {Q : VK} {a C dx : Addr} {fs : List (Str × V)} {k j : Nat} {sp : Sp} {y : V} {T : String}
theorem b_neX (F : EqM X.prog X.w X.K X.mg X.base C k sp) (hr : Room j X.A) (hj : k + 1 ≤ j) (ha : H a = some (.ins C dx fs)) (hy : Kd H y T) (hn : PySem.W.subIn X.K (.type T) (.ref C) = some false) (q : sp [.ref a, y] H (fun v H' => ∃ r, v = .bl r ∧ Q (.bl (!r)) H') E0) :
    WB X (compareOp .NotEq) (.ref a) y σ H Q := by
  obtain ⟨f, c, F⟩ := F.ex
  refine ⟨fun pins s v u I rx ry => ?_⟩
  cases rx
  obtain ⟨mA, O, _⟩ := ins_get I.hok ha
  obtain ⟨od, J, _⟩ := O.look
  obtain ⟨nm, qn, N, bs, hdct, sn, sub, ab, col, dd, k0, k1, k2, k3, k5, newId, oN, es, ep, of, lC, lN, dN, hk, he, hne, lf, cf⟩ := c.ne
  have X1 := I.kIn
  have own : s.heap.OwnEqNoNe a C f "object" [.type "object"] := ⟨_, of, nm, qn, N, bs, hdct, sn, sub, ab, col, dd, k0, k1, k2, k3, k5, newId, fun z => nsFind es z, some (.builtin "object.__eq__"), O.obj, rfl, X1 _ _ lC, ⟨oN, es, ep, X1 _ _ lN, dN, hk, fun _ => rfl⟩, he, X1 _ _ lf, cf, PySem.F.cmp_object.mro, PySem.F.cmp_object.eq.lookup, hne⟩
  have hr1 : Room k X.A.in1 := (hr.mono hj).in1
  have hu : X.A.units + 1 < cLine := by have := hr.un; omega
  have one : wpAny (model X.prog X.w) X.A (tryCompare (.ref a) "__ne__" u) (fun r s' => ∃ v, r = some v ∧ ∃ z H', Inv X pins σ H' s' ∧ RelV z v ∧ Q z H') (fun _ _ => False) s := by
    refine tryNe own hu ?_
    refine wpAny_mono (wpAny_call (codeAny_mono (F X.A.in1 X.stack s H [.ref a, u] [.ref a, y] _ E0 hr1 I.env0.in1 (.cons rfl (.cons ry .nil)) q) fun r s' hq => ?_)) (fun v s' z => z) fun _ _ x => x
    cases r with
    | error er => exact False.elim (passL (X := X.nox) pins σ H s er s' (I.wish _) hq)
    | ok fl =>
      cases fl with
      | ret u =>
        obtain ⟨v, H', I3, rv, r, ev, q3⟩ := I.after hq
        subst ev
        cases rv
        exact ⟨r, rfl, _, rfl, .bl (!r), H', I3, rfl, q3⟩
      | next => exact False.elim hq
      | brk => exact False.elim hq
      | cont => exact False.elim hq
  delta compareOp
  dsimp only
  delta richCompare
  simp only [oneThing_ref]
  refine wpAny_holding (wpAny_bind (wpAny_cRoomFor (by omega) ?_))
  rw [cmpInfo_NotEq]
  dsimp only
  refine wpAny_bind (J.type.here (wpAny_bind ((hy.looks I ry).here ?_)))
  rw [if_pos (show (Value.ref C != Value.type T) = true by simp)]
  refine wpAny_bind ((PySem.W.looks_subIn X1 hn).here ?_)
  simp only [if_false, Bool.false_eq_true]
  refine wpAny_bind (wpAny_mono one (fun r s' z => ?_) fun _ _ e => False.elim e)
  obtain ⟨v, rfl, hq⟩ := z
  exact wpAny_pure hq
end
open He in
def subB (T : String) (x : Str) (K : PySem.W.Frag) : Bool := decide (PySem.W.subIn K (.type T) (.ref (ga K x)) = some false)
end Sv

/-! super().m(..) in the defs of a class: the statements at the running code -/
namespace Sv
open PySem PySem.Spec PyProof.Rows L2

/-! ### at the running code -/
structure WEat (X : Cx) (c : Code) (e : Expr) (σ : L2.St) (H : Hp) (Q : VK) : Prop where
  run : ∀ (pins : List (Addr × Obj)) (s : Shared), Inv X pins σ H s → _root_.PySem.wpAt (model X.prog X.w) X.A c (eval e X.env) (EP X pins σ Q) X.xe s
structure WAat (X : Cx) (c : Code) (es : List Expr) (σ : L2.St) (H : Hp) (Q : List V → Hp → Prop) : Prop where
  run : ∀ (pos : Pos) (pins : List (Addr × Obj)) (s : Shared), Inv X pins σ H s → _root_.PySem.wpAt (model X.prog X.w) X.A c (spliced (backTo pos (starEach es X.env))) (AP X pins σ Q) X.xe s
structure WSat (X : Cx) (c : Code) (st : Stmt) (D : Ends) (σ : L2.St) (H : Hp) : Prop where
  run : ∀ (pins : List (Addr × Obj)) (s : Shared), Inv X pins σ H s → _root_.PySem.wpAt (model X.prog X.w) X.A c (exec st X.env) (SP X pins D) X.xe s
structure WLat (X : Cx) (c : Code) (sts : List Stmt) (D : Ends) (σ : L2.St) (H : Hp) : Prop where
  run : ∀ (pins : List (Addr × Obj)) (s : Shared), Inv X pins σ H s → _root_.PySem.wpAt (model X.prog X.w) X.A c (execs sts X.env) (SP X pins D) X.xe s
section
variable {X : Cx} {c : Code} {e : Expr} {es : List Expr} {st : Stmt} {sts : List Stmt} {D : Ends} {σ : L2.St} {H : Hp} {Q : VK} {pos : Pos}
theorem wla_of (h : WL X sts D σ H) : WLat X c sts D σ H := ⟨fun pins s I => _root_.PySem.wpAt_of_wpAny (h.run pins s I)⟩
theorem wsa_of (h : WS X st D σ H) : WSat X c st D σ H := ⟨fun pins s I => _root_.PySem.wpAt_of_wpAny (h.run pins s I)⟩
theorem wea_of (h : WE X e σ H Q) : WEat X c e σ H Q := ⟨fun pins s I => _root_.PySem.wpAt_of_wpAny (h.run pins s I)⟩
theorem wla_cons (h : WSat X c st { D with nx := fun σ' H' => WLat X c sts D σ' H' } σ H) : WLat X c (st :: sts) D σ H :=
  ⟨fun pins s I => ks_wpAt_execs_cons (ks_wpAt_mono (h.run pins s I) (fun f s1 h1 => by
    cases f with
    | next =>
      obtain ⟨σ', H', I1, q⟩ := h1
      exact q.run pins s1 I1
    | ret v => exact h1
    | brk => exact h1
    | cont => exact h1) fun _ _ z => z)⟩
theorem wsa_expr (h : WEat X c e σ H fun _ H1 => D.nx σ H1) (hi : interactive X.env = false := by with_unfolding_all rfl) (hs : swapsWith e none pos.line X.env = pure false := by with_unfolding_all rfl) : WSat X c (.Expr e pos) D σ H :=
  ⟨fun pins s I => ks_wpAt_Expr_any (ks_wpAt_mono (h.run pins s I) (fun v s1 ⟨x, H1, I1, r, q⟩ => ⟨σ, H1, I1, q⟩) fun _ _ z => z) hi hs⟩
theorem wsa_ret (h : WEat X c e σ H D.rt) : WSat X c (.Return (some e) pos) D σ H :=
  ⟨fun pins s I => ks_wpAt_Return_some (ks_wpAt_mono (h.run pins s I) (fun v s1 ⟨x, H1, I1, r, q⟩ => ⟨x, σ, H1, I1, r, q⟩) fun _ _ z => z)⟩
variable {R : List V → Hp → Prop}
theorem waa_of (h : WA X es σ H R) : WAat X c es σ H R := ⟨fun pos pins s I => _root_.PySem.wpAt_of_wpAny (h.run pos pins s I)⟩
theorem waa_cons (h : WEat X c e σ H fun x H1 => WAat X c es σ H1 fun xs H2 => R (x :: xs) H2) (hs : starEach (e :: es) X.env = (false, eval e X.env) :: starEach es X.env := by with_unfolding_all rfl) : WAat X c (e :: es) σ H R := by
  refine ⟨fun pos pins s I => ?_⟩
  rw [hs]
  show _root_.PySem.wpAt _ _ _ (spliced ((false, eval e X.env) :: backTo pos (starEach es X.env))) _ _ s
  rw [spliced]
  refine _root_.PySem.wpAt_bind (ks_wpAt_mono (h.run pins s I) (fun u s1 ⟨x, H1, I1, r1, q1⟩ => ?_) fun _ _ z => z)
  simp only [Bool.false_eq_true, if_false]
  refine _root_.PySem.wpAt_bind (_root_.PySem.wpAt_of_wpAny (wpAny_pure ?_))
  refine _root_.PySem.wpAt_bind (ks_wpAt_holding (ks_wpAt_mono (q1.run pos pins s1 I1) (fun us s2 ⟨xs, H2, I2, r2, q2⟩ => ?_) fun _ _ z => z))
  exact _root_.PySem.wpAt_of_wpAny (wpAny_pure ⟨x :: xs, H2, I2, .cons r1 r2, q2⟩)
theorem waa_star {p} (h : WEat X c e σ H fun x H1 => ∃ a xs, x = .ref a ∧ (SqT X.K H1 a xs ∨ SqL X.K H1 a xs) ∧ WAat X c es σ H1 fun ys H2 => R (xs ++ ys) H2) (hs : starEach (.Starred e p :: es) X.env = (true, eval e X.env) :: starEach es X.env := by with_unfolding_all rfl) :
    WAat X c (.Starred e p :: es) σ H R := by
  refine ⟨fun pos pins s I => ?_⟩
  rw [hs]
  show _root_.PySem.wpAt _ _ _ (spliced ((true, (do let v ← eval e X.env; standAt pos; pure v)) :: backTo pos (starEach es X.env))) _ _ s
  rw [spliced]
  refine _root_.PySem.wpAt_bind (_root_.PySem.wpAt_bind (ks_wpAt_mono (h.run pins s I) (fun u s1 ⟨x, H1, I1, r1, a, xs, ex, hx, q1⟩ => ?_) fun _ _ z => z))
  refine _root_.PySem.wpAt_bind (_root_.PySem.wpAt_of_wpAny (wpAny_standAt (_root_.PySem.wpAt_of_wpAny (wpAny_pure ?_))))
  subst ex
  obtain rfl : u = Value.ref a := r1
  have S := StX.star_any (E := X.xe) (Q := fun us s' => Inv X pins σ H1 s' ∧ Vals xs us) I1 hx fun us s' I' r => ⟨I', r⟩
  unfold PySem.W.StarOf at S
  simp only [if_true]
  refine _root_.PySem.wpAt_bind (m := notIterableAtAll (Value.ref a)) (_root_.PySem.wpAt_of_wpAny (wpAny_mono S (fun b s2 h2 => ?_) fun _ _ z => z))
  obtain ⟨rfl, h2⟩ := h2
  simp only [Bool.false_eq_true, if_false]
  refine _root_.PySem.wpAt_bind (_root_.PySem.wpAt_of_wpAny (wpAny_mono h2 (fun us s3 ⟨I3, r3⟩ => ?_) fun _ _ z => z))
  refine _root_.PySem.wpAt_bind (ks_wpAt_holding (ks_wpAt_mono (q1.run pos pins s3 I3) (fun ws s4 ⟨ys, H2, I4, r4, q4⟩ => ?_) fun _ _ z => z))
  exact _root_.PySem.wpAt_of_wpAny (wpAny_pure ⟨xs ++ ys, H2, I4, r3.append r4, q4⟩)
theorem wea_tup {k} (h : WAat X c es σ H fun xs H1 => xs.length ≤ sizeLine ∧ ∀ p H2, H1 p = none → Same H1 H2 → H2 p = some (.tup xs) → Q (.ref p) H2) : WEat X c (.Tuple es k pos) σ H Q := by
  refine ⟨fun pins s I => ?_⟩
  rw [arm_eval_Tuple]
  refine _root_.PySem.wpAt_bind (_root_.PySem.wpAt_of_wpAny (wpAny_standAt (_root_.PySem.wpAt_bind (ks_wpAt_mono (h.run pos pins s I) (fun us s1 ⟨xs, H1, I1, r, z, q⟩ => _root_.PySem.wpAt_of_wpAny (wpAny_newTuple ?_ (by rw [← r.length]; exact z))) fun _ _ z => z))))
  have hf : H1 s1.heap.objs.size = none := I1.hok.fresh (Nat.le_refl _)
  refine ⟨.ref s1.heap.objs.size, upd H1 s1.heap.objs.size (.tup xs), I1.laid (t' := s1.toks) (fun b u e => Heap.get?_push_of_some _ e) (Nat.le_refl _) ?_, rfl, newly' (Q := fun p H' => Q (.ref p) H') q _ hf⟩
  exact ⟨z, us, r, ⟨_, Heap.get?_push_size _ rfl, rfl, _, rfl⟩⟩
end

/-! ### what of the text a class must have that super().m is found behind D for an instance of C -/
structure SupF (K : PySem.W.Frag) (C D : Addr) (m : Str) (g : Addr) : Prop where
  isD : (PySem.W.clsIn K D).isSome = true
  sub : PySem.W.mroIn K C (.ref D) = some true
  nx : PySem.W.ks_superIn K C D m = some (some (.ref g))
  ty : PySem.W.typeIn K (.ref g) = some (.type "function")
  fi : PySem.W.fnIn K g = true
  op : PySem.W.nsIn K PySem.cStatics "thirdparty.any" = some none
  nm : (m == ("__class__" : Str)) = false
/-- the running def stands in the class at D, its first parameter is `self` -/
structure SupX (X : Cx) (D : Addr) (me : Str) : Prop where
  ks : X.env.kindOf "super" = some .globalImplicit
  kc : X.env.kindOf "__class__" = some .free
  fn : ∃ (f : Addr) (of : Obj) (fd : FuncData) (ar : Arg), X.env.func = some f ∧ X.K.lookup f = some of ∧ of.data = .func fd ∧ (fd.params.posonlyargs ++ fd.params.args).head? = some ar ∧ ar.arg = me
  code : ∃ (cc : Addr) (oc : Obj) (vs : Array Value) (file : Str) (tf : Tok), X.env.code = .ref cc ∧ X.K.lookup cc = some oc ∧ oc.data = .fields vs ∧ vs[2]? = some (.str file tf) ∧ ((X.prog.main.file : Str) == file) = true
  top : (X.prog.main.scope.names.lookup ("super" : Str)).isSome = false
  cell : ∃ (cc : Addr) (oc : Obj), X.env.cells.lookup ("__class__" : Str) = some cc ∧ X.K.lookup cc = some oc ∧ oc.data = .cell (some (.ref D))
section
variable {X : Cx} {N L S G B : List Str} {pins : List (Addr × Obj)} {σ : L2.St} {H : Hp} {s : Shared} {D C a dx g : Addr} {fs : List (Str × V)} {self m : Str} {p0 p1 : Pos} {body : List Stmt} {whole : Sem Value} {pl : Sem Bool}
/-- super() made, its method bound: a new record of the method, pinned -/
theorem super_bound {Q : Value × List Value → Shared → Prop} {E : Value → Shared → Prop} (c : Nm X N L S G B) (U : SupX X D self) (F : SupF X.K C D m g) (cC : Cls X.K C) (mB : Mb "super" B) (mL : Mb self L) (ha : At N σ self (.ref a)) (ea : H a = some (.ins C dx fs)) (I : Inv X pins σ H s)
    (h : ∀ q s', Inv X ((q, PySem.W.methodObj (.ref g) (.ref a)) :: pins) σ H s' → X.base.get? q = none → Q (.ref q, []) s') :
    _root_.PySem.wpAt (model X.prog X.w) X.A (.func body X.env) (attributeBase (.Call (.Name "super" p0) [] [] p1) m X.env whole) (fun ov s1 => wpAny (model X.prog X.w) X.A (getMethod ov m pl) Q E s1) E s := by
  obtain ⟨f, of, fd, ar, e1, e2, e3, e4, e5⟩ := U.fn
  obtain ⟨cd, oc, vs, file, tf, k1, k2, k3, k4, k5⟩ := U.code
  obtain ⟨cc, oc', j1, j2, j3⟩ := U.cell
  have XK := I.kIn
  obtain ⟨mA, O, _⟩ := ins_get I.hok ea
  obtain ⟨od, J, _⟩ := O.look
  obtain ⟨cdD, hD⟩ := Option.isSome_iff_exists.mp F.isD
  obtain ⟨oD, hD1, hD2⟩ : ∃ oD, s.heap.get? D = some oD ∧ oD.data = .cls cdD := by
    unfold PySem.W.clsIn at hD
    split at hD
    · rename_i c d cd' sl ho
      cases hD
      exact ⟨_, XK _ _ ho, rfl⟩
    · cases hD
  have hmB : X.mg "super" = none := c.blt _ mB.mem
  have hboot : bootBuiltins "super" = some (.type "super") := by decide +kernel
  obtain ⟨mb, h1, h2⟩ := I.mod.blt
  obtain ⟨i, n1, n2⟩ := ha.ix
  obtain ⟨mm, hn, hl⟩ := I.loc
  obtain ⟨vis, _, _⟩ := c.vis self mL.mem
  obtain ⟨u, ru, lk⟩ := hl i self _ (by rw [c.names]; exact n1) n2 vis
  obtain rfl : u = Value.ref a := ru
  refine ks_wpAt_super_base U.ks U.kc F.nm e1 (XK _ _ e2) e3 e4 k1 (XK _ _ k2) k3 k4 k5 U.top ?_
  refine PySem.W.ks_loadName_global I.ok.kind U.ks (Calls.loadGlobal_builtin (by rw [I.ok.glob]; exact I.mod.glob.keeps I.bk) hmB (by rw [I.ok.blt]; exact h1.keeps I.bk) ((h2 "super" (by decide)).trans hboot) ⟨rfl, ?_⟩)
  refine wpAny_loadName_free I.ok.kind U.kc j1 ⟨_, XK _ _ j2, j3⟩ ?_
  rw [e5]
  have go : wpAny (model X.prog X.w) X.A (isType (.ref D)) (fun b s₄ => b = true ∧ wpAny (model X.prog X.w) X.A (call (.type "super") [.ref D, .ref a]) (fun ov s1 => wpAny (model X.prog X.w) X.A (getMethod ov m pl) Q E s1) E s₄) E s := by
    refine ks_wpAny_isType_cls hD1 hD2 ⟨rfl, ?_⟩
    refine ks_wpAny_call_super hD1 hD2 J.at_ J.cls (fun c e => ?_) (PySem.W.looks_mroIn XK F.sub) (fun h' e k => ?_)
    · have z := J.no
      unfold PySem.W.notCls at z
      rw [e] at z
      exact Bool.noConfusion z
    · have I1 : Inv X pins σ H { s with heap := h' } := I.kept (t' := s.toks) k
      have XK1 := I1.kIn
      cases hc : PySem.W.clsIn X.K C with
      | none =>
        have z := F.nx
        unfold PySem.W.ks_superIn at z
        rw [hc] at z
        cases z
      | some cdC =>
        have z := F.nx
        unfold PySem.W.ks_superIn at z
        rw [hc] at z
        obtain ⟨og, hog, hogc⟩ : ∃ og, h'.get? g = some og ∧ og.cls = .type "function" := by
          have ht' : (X.K.lookup g).map (·.cls) = some (.type "function") := F.ty
          cases z : X.K.lookup g with
          | none => rw [z] at ht'; cases ht'
          | some og => rw [z] at ht'; exact ⟨og, XK1 _ _ z, Option.some.inj ht'⟩
        refine ks_wpAny_getMethod_super e (PySem.W.looks_opaque XK1 F.op) (l₀ := cdC.mro) ?_ rfl XK1 z hog hogc (PySem.W.ks_ne XK J hc) F.nm ?_
        · exact fun A Q E s k q => wpAny_bind ((PySem.W.looks_clsIn XK1 hc) A _ E s k (wpAny_pure q))
        · exact h _ _ (ClX.met_new I1) (ClX.base_none I1 (Nat.le_refl _))
  rcases lk with ⟨hk, hm⟩ | ⟨hk, c', hc, hcell⟩
  · exact wpAny_loadName_local I.ok.kind hk hn hm go
  · rcases hk with hk | hk
    · exact wpAny_loadName_cell I.ok.kind hk hc hcell go
    · refine wpAny_loadName_free I.ok.kind hk hc hcell go ?_
      exact (c.vis self mL.mem).2.2
end
section
variable {X : Cx} {N L S G B : List Str} {σ : L2.St} {H : Hp} {Q : VK} {D C a dx g : Addr} {fs : List (Str × V)} {self m : Str} {e : Expr} {es : List Expr} {p0 p1 apos pos : Pos} {body : List Stmt} {k j : Nat} {sp : Sp} {E : XK} {pl : Sem Bool}
/-- super().m(e, ..) -/
theorem wea_super (c : Nm X N L S G B) (U : SupX X D self) (F : SupF X.K C D m g) (cC : Cls X.K C) (G' : FnR X.prog X.w X.K X.mg X.base (L2.CX X.prog X.w) k g sp) (hr : Room j X.A) (hj : k ≤ j) (hx : Passes (L2.CX X.prog X.w) X E) (mB : Mb "super" B) (mL : Mb self L)
    (ha : At N σ self (.ref a)) (ea : H a = some (.ins C dx fs)) (h : WA X (e :: es) σ H fun vs H1 => sp (.ref a :: vs) H1 Q E)
    (hst : starEach (e :: es) X.env = (false, eval e X.env) :: starEach es X.env := by with_unfolding_all rfl) (hpl : (backTo pos (starEach es X.env)).any (·.1) = false := by with_unfolding_all rfl)
    (ht : eval (.Call (.Attribute (.Call (.Name "super" p0) [] [] p1) m apos) (e :: es) [] pos) X.env = (do
      let ov ← attributeBase (.Call (.Name "super" p0) [] [] p1) m X.env (eval (.Call (.Name "super" p0) [] [] p1) X.env)
      standAt apos.atName
      let (f, first) ← holding [ov] (getMethod ov m pl)
      callWith pos f first (backTo pos (starEach (e :: es) X.env)) []) := by with_unfolding_all rfl) : WEat X (.func body X.env) (.Call (.Attribute (.Call (.Name "super" p0) [] [] p1) m apos) (e :: es) [] pos) σ H Q := by
  refine ⟨fun pins s I => ks_wpAt_MethodCall (pl := pl) (super_bound c U F cC mB mL ha ea I fun q s2 I2 hb => ?_) ht⟩
  refine ClX.callwith_cm (C := a) I2 hb F.fi (thn (h.run pos _ s2 I2) fun us s3 ⟨vs, H2, I3, rv, q2⟩ => ⟨⟨ClX.pin_at I3, I3.kIn⟩, ?_⟩) hst hpl
  exact ClX.run_cm (C := a) G' (hr.mono hj) hx I3 rv q2
/-- super().m() -/
theorem wea_super0 (c : Nm X N L S G B) (U : SupX X D self) (F : SupF X.K C D m g) (cC : Cls X.K C) (G' : FnR X.prog X.w X.K X.mg X.base (L2.CX X.prog X.w) k g sp) (hr : Room j X.A) (hj : k ≤ j) (hx : Passes (L2.CX X.prog X.w) X E) (mB : Mb "super" B) (mL : Mb self L)
    (ha : At N σ self (.ref a)) (ea : H a = some (.ins C dx fs)) (h : sp [.ref a] H Q E)
    (ht : eval (.Call (.Attribute (.Call (.Name "super" p0) [] [] p1) m apos) [] [] pos) X.env = (do
      let ov ← attributeBase (.Call (.Name "super" p0) [] [] p1) m X.env (eval (.Call (.Name "super" p0) [] [] p1) X.env)
      standAt apos.atName
      let (f, first) ← holding [ov] (getMethod ov m pl)
      callWith pos f first (backTo pos (starEach [] X.env)) []) := by with_unfolding_all rfl) : WEat X (.func body X.env) (.Call (.Attribute (.Call (.Name "super" p0) [] [] p1) m apos) [] [] pos) σ H Q := by
  refine ⟨fun pins s I => ks_wpAt_MethodCall (pl := pl) (super_bound c U F cC mB mL ha ea I fun q s2 I2 hb => ?_) ht⟩
  exact PySem.W.callWith_M0 (first := []) ⟨ClX.pin_at I2, I2.kIn⟩ F.fi (ClX.run_cm (C := a) (us := []) (vs := []) G' (hr.mono hj) hx I2 .nil h)
end

/-! ### the def -/
/-- a def that says super(), in the class at D -/
structure FunX (P : Program) (K : PySem.W.Frag) (x qual : Str) (params : Arguments) (body : List Stmt) (scope : Scope) (D f : Addr) : Prop where
  ex : ∃ (oc : Value) (od : Option Addr) (kV doc pm : Value) (an : Option Addr) (cda : Addr) (ct : Value) (osl : Array (Option Value)) (cc : Addr) (ocd : Obj) (vs : Array Value) (file : Str) (tf : Tok) (occ : Obj),
    K.lookup f = some ⟨oc, od, .func (PySem.W.ksFn x qual params body scope .none kV doc pm an (.ref cda) ct cc), osl⟩ ∧ PySem.W.codeIn K (.ref cda) qual = true ∧ K.lookup cda = some ocd ∧ ocd.data = .fields vs ∧ vs[2]? = some (.str file tf) ∧
    ((P.main.file : Str) == file) = true ∧ K.lookup cc = some occ ∧ occ.data = .cell (some (.ref D))
  kp : PySem.W.keepIn K (.ref f) = true
/-- the context of its body -/
abbrev xcx (P : Program) (w : World) (K : PySem.W.Frag) (mg : Str → Option Value) (base : Heap) (N : List Str) (x qual : Str) (params : Arguments) (body : List Stmt) (sc : Scope) (f cda cc : Addr) (A : Around) (outer : List Env) (s : Shared) (H : Hp) (E : XK) : Cx :=
  NdefX.ncx (L2.CX P w) P w K mg base N ⟨x, qual, params, body, sc, [("__class__", cc)], cda⟩ f A outer s H E
section
variable {P : Program} {w : World} {K : PySem.W.Frag} {mg : Str → Option Value} {base : Heap} {N ps L G B : List Str} {k : Nat} {x qual : Str} {params : Arguments} {body : List Stmt} {sc : Scope} {f cda cc D : Addr} {sp : Sp}
theorem takes_xcx {A : Around} {outer : List Env} {s : Shared} {H : Hp} {E : XK} : Takes (xcx P w K mg base N x qual params body sc f cda cc A outer s H E) (fun cls d _ H' => E cls d H') := takes_of rfl rfl rfl rfl
theorem owns_xcx {A : Around} {outer : List Env} {s : Shared} {H : Hp} {E : XK} : PassesOwn (model P w) (xcx P w K mg base N x qual params body sc f cda cc A outer s H E).A (xcx P w K mg base N x qual params body sc f cda cc A outer s H E).env (xcx P w K mg base N x qual params body sc f cda cc A outer s H E).xe :=
  passes_of (X := xcx P w K mg base N x qual params body sc f cda cc A outer s H E) rfl
/-- names of such a def: parameters, the class's cell, its own -/
def xscB (N ps L G B : List Str) (sc : Scope) : Bool :=
  NdefX.nscB N ps ["__class__"] sc && (L.all fun x => decide (sc.names.lookup x = some .local) && !(x == ("__debug__" : Str)) && !(x == ("__classdict__" : Str))) && (G.all fun x => gloB sc x && !(x == ("__debug__" : Str)) && decide (x ≠ "__name__")) &&
  (B.all fun x => gloB sc x && !(x == ("__debug__" : Str)) && decide (x ≠ "__name__")) && gloB sc "super"
theorem nm_xcx {A : Around} {outer : List Env} {s : Shared} {H : Hp} {E : XK} (h : xscB N ps L G B sc = true) (hb : ∀ x ∈ B, mg x = none) : Nm (xcx P w K mg base N x qual params body sc f cda cc A outer s H E) N L L G B := by
  unfold xscB at h
  simp only [Bool.and_eq_true, List.all_eq_true, decide_eq_true_eq, Bool.not_eq_true'] at h
  obtain ⟨⟨⟨⟨h0, h8⟩, h9⟩, h10⟩, h11⟩ := h
  have S := NdefX.nscope_by h0
  exact ⟨rfl, S.nd, fun x hx => ⟨.inl (h8 x hx).1.1, (h8 x hx).1.2, (h8 x hx).2⟩, fun x hx => ⟨.inl (h8 x hx).1.1, .inr (h8 x hx).1.1⟩, fun x hx => ⟨gloB_ok (h9 x hx).1.1, (h9 x hx).1.2, (h9 x hx).2⟩, hb, fun x hx => ⟨gloB_ok (h10 x hx).1.1, (h10 x hx).1.2, (h10 x hx).2⟩, rfl⟩
/-- THE RULE for such a def -/
theorem fnr_x {self : Str} (F : FunX P K x qual params body sc D f) (S : xscB N ps L G B sc = true) (htop : (P.main.scope.names.lookup ("super" : Str)).isSome = false) (hself : ((params.posonlyargs ++ params.args).head?.map (·.arg)) = some self)
    (len : ∀ vs H Q E, sp vs H Q E → vs.length = ps.length)
    (hbind : ∀ (kV doc pm : Value) (an : Option Addr) (cdv ct : Value) (cc : Addr) (us : List Value), us.length = ps.length → bindArgs (PySem.W.ksFn x qual params body sc .none kV doc pm an cdv ct cc) ⟨us, []⟩ = pure (ps.zip us))
    (hb : ∀ x ∈ B, mg x = none)
    (hbody : ∀ (cda cc : Addr) (A : Around) (outer : List Env) (s : Shared) (H : Hp) (vs : List V) (Q : VK) (E : XK), Room k (xcx P w K mg base N x qual params body sc f cda cc A outer s H E).A → Nm (xcx P w K mg base N x qual params body sc f cda cc A outer s H E) N L L G B →
      SupX (xcx P w K mg base N x qual params body sc f cda cc A outer s H E) D self → sp vs H Q E →
      WLat (xcx P w K mg base N x qual params body sc f cda cc A outer s H E) (.func body (xcx P w K mg base N x qual params body sc f cda cc A outer s H E).env) body { nx := fun _ H' => Q .non H', rt := Q } (NdefX.startF N vs [none]) H) :
    FnR P w K mg base (L2.CX P w) (k + 1) f sp := by
  intro A outer s H us vs Q E hr e0 r hsp
  obtain ⟨oc, od, kV, doc, pm, an, cda, ct, osl, cc, ocd, cvs, file, tf, occ, lk, hcd, l1, l2, l3, l4, l5, l6⟩ := F.ex
  have S' := S
  unfold xscB at S'
  simp only [Bool.and_eq_true, List.all_eq_true, decide_eq_true_eq, Bool.not_eq_true'] at S'
  obtain ⟨⟨⟨⟨h0, h8⟩, h9⟩, h10⟩, h11⟩ := S'
  have Sc := NdefX.nscope_by h0
  have hl := len _ _ _ _ hsp
  have KX : K.In s.heap := e0.mod.kin.keeps fun b o e => (e0.bs b o e).1
  have KB : K.In base := e0.mod.kin
  have lim : s.heap.NoLimit := e0.mod.nolimit.keeps fun b o e => (e0.bs b o e).1
  refine ks_codeAny_call_defAt hr.depth (KX _ _ lk) rfl lim (PySem.W.codeRec_of KX hcd) rfl (.of_eq (hbind _ _ _ _ _ _ _ us (by rw [← r.length]; exact hl))) Sc.nocell (fun ⟨n, _⟩ hy => Sc.par n (List.of_mem_zip hy).1) (fun h₁ hns kp => ?_) Sc.co Sc.gen Sc.kind
  have C : NdefX.CellsAt [("__class__", cc)] ["__class__"] [none] s.heap H := by
    refine ⟨rfl, fun y c e => ?_, fun y z c e1 e2 => ?_, fun i y e => ?_⟩
    · simp only [List.lookup] at e
      split at e
      · cases e
        exact ⟨(e0.bs _ _ (KB _ _ l5)).2, _, _, KX _ _ l5, l6⟩
      · cases e
    · simp only [List.lookup] at e1 e2
      split at e1
      · rename_i q1
        split at e2
        · rename_i q2
          rw [beq_iff_eq.mp q1, beq_iff_eq.mp q2]
        · cases e2
      · cases e1
    · match i, e with
      | 0, e =>
        cases e
        exact ⟨cc, by simp [List.lookup], fun v z => by simp at z⟩
  have Ix : Inv (xcx P w K mg base N x qual params body sc f cda cc A outer s H E) [] (NdefX.startF N vs [none]) H { s with heap := h₁, toks := s.toks + (ps.zip us).length } := NdefX.inv_startN (fr := ["__class__"]) Sc hr.hd e0 hl r C hns kp
  obtain ⟨ar, har, ear⟩ : ∃ ar, (params.posonlyargs ++ params.args).head? = some ar ∧ ar.arg = self := by
    cases q : (params.posonlyargs ++ params.args).head? with
    | none => rw [q] at hself; cases hself
    | some ar => rw [q] at hself; exact ⟨ar, rfl, Option.some.inj hself⟩
  have U : SupX (xcx P w K mg base N x qual params body sc f cda cc A outer s H E) D self :=
    ⟨gloB_ok h11, Sc.frk _ (by simp), ⟨f, _, _, ar, rfl, lk, rfl, har, ear⟩, ⟨cda, ocd, cvs, file, tf, rfl, l1, l2, l3, l4⟩, htop, ⟨cc, occ, rfl, l5, l6⟩⟩
  refine ks_wpAt_mono ((hbody cda cc A outer s H vs Q E (hr.deeper _) (nm_xcx S hb) U hsp).run [] _ Ix) (fun fl s' hs => ?_) fun e s' hs => hs
  have fin : ∀ {σ' : L2.St} {H' : Hp} {v : V} {u : Value}, Inv (xcx P w K mg base N x qual params body sc f cda cc A outer s H E) [] σ' H' s' → L2.RelV v u → Q v H' → CE outer P w H s Q u s' :=
    fun {σ' H' v u} J rv q => ⟨v, H', J.os, J.bare, J.base, J.hok, rv, q⟩
  cases fl with
  | ret u =>
    obtain ⟨v, σ', H', J, rv, q⟩ := hs
    exact fin J rv q
  | next =>
    obtain ⟨σ', H', J, q⟩ := hs
    exact fin (v := V.non) (u := Value.none) J rfl q
  | brk =>
    obtain ⟨_, _, _, q⟩ := hs
    exact False.elim q
  | cont =>
    obtain ⟨_, _, _, q⟩ := hs
    exact False.elim q
end

/-- a property of the class at C -/
structure PrP (P : Program) (w : World) (K : PySem.W.Frag) (mg : Str → Option Value) (base : Heap) (C : Addr) (m : Str) (sp : Sp) : Prop where
  ex : ∃ p g, PropOf K C m p g ∧ FnR P w K mg base (L2.CX P w) 3 g sp
theorem a_prp {X : Cx} {m : Str} {σ : L2.St} {H : Hp} {Q : VK} {sp : Sp} {j : Nat} {C a dx : Addr} {fs : List (Str × V)} (cC : Cls X.K C) (F : PrP X.prog X.w X.K X.mg X.base C m sp) (hr : Room j X.A) (hj : 4 ≤ j) (ha : H a = some (.ins C dx fs)) (q : sp [.ref a] H Q E0) : WAt X (.ref a) m σ H Q := by
  obtain ⟨p, g, c, F⟩ := F.ex
  exact a_prop (E := E0) cC c F (hr.mono hj) ha q
theorem wla_start {X : Cx} {c : Code} {sts : List Stmt} {D : Ends} {σ σ' : L2.St} {H : Hp} (e : σ = σ') (h : WLat X c sts D σ' H) : WLat X c sts D σ H := e ▸ h
/-! ### facts -/
open He in
/-- a def of the class D: its cell holds D, its code is of the main file, it has no defaults -/
def supB (pf : Str) (D : Str) (a : PySem.W.Frag → Addr) (K : PySem.W.Frag) : Bool := match K.lookup (a K) with
  | some ⟨_, _, .func fd, _⟩ => (match fd.code with
      | .ref cda => (match K.lookup cda with
        | some ⟨_, _, .fields vs, _⟩ => (match vs[2]? with | some (Value.str file _) => pf == file | _ => false)
        | _ => false)
      | _ => false) && ((match fd.closure with
      | [(_, cc)] => (match K.lookup cc with
        | some ⟨_, _, .cell (some (.ref d)), _⟩ => decide (d = ga K D)
        | _ => false)
      | _ => false) && (match fd.defaults with | .none => true | _ => false))
  | _ => false
open He in
theorem funX_ok {P : Program} {K : PySem.W.Frag} {d : DefY} {D : Str} {pf : Str} (hpf : P.main.file = pf) (hcl : d.cells = [("__class__" : Str)]) (e : fnY K (d.at_ K) = d.val ∧ d.ok K = true) (s : supB pf D d.at_ K = true) : FunX P K d.name d.qual d.params d.body d.scope (ga K D) (d.at_ K) := by
  obtain ⟨e, c⟩ := e
  obtain ⟨kp, c2⟩ := ba c
  unfold fnY at e
  unfold supB at s
  cases q : K.lookup (d.at_ K) with
  | none =>
    rw [q] at c2
    cases c2
  | some o =>
    obtain ⟨oc, od, dt, osl⟩ := o
    rw [q] at c2 e s
    cases dt with
    | func fd =>
      obtain ⟨n1, n2, n3, n4, n5, n6, n7, n8, n9, n10, n11, n12, n13, n14, n15⟩ := fd
      have e2 : (some (n1, n2, n3, n4, n5, n6, n7.map (fun p => (p.1, 0)), n15) : FnW) = some (d.name, d.qual, d.params, .stmts d.body, d.scope, mainGlobals, d.cells.map (fun x => (x, 0)), builtinsNs) := e
      rw [hcl] at e2
      simp only [Option.some.injEq, Prod.mk.injEq, List.map_cons, List.map_nil] at e2
      obtain ⟨h1, h2, h3, h4, h5, h6, h7, h8⟩ := e2
      have c3 : (PySem.W.codeIn K n13 d.qual && dflB K n8 (d.dfl.map (Dv.v K))) = true := c2
      obtain ⟨k1, k2⟩ := ba c3
      obtain ⟨s1, s23⟩ := ba s
      obtain ⟨s2, s3⟩ := ba s23
      clear s s23
      dsimp only at s1 s2 s3
      split at s1
      case h_2 => cases s1
      rename_i cda
      split at s1
      case h_2 => cases s1
      rename_i x1 x2 vs x3 qc
      split at s1
      case h_2 => cases s1
      rename_i file tf qv
      split at s2
      case h_2 => cases s2
      rename_i ql nm cc
      split at s2
      case h_2 => cases s2
      rename_i y1 y2 dd y3 qd
      split at s3
      case h_2 => cases s3
      have e4 : dd = ga K D := of_decide_eq_true s2
      subst e4
      have e5 : nm = ("__class__" : Str) := by simpa using h7
      subst h1 h2 h3 h4 h5 h6 h8 e5 hpf
      exact ⟨⟨oc, od, _, _, _, _, cda, _, osl, cc, _, vs, file, tf, _, q, k1, qc, rfl, qv, s1, qd, rfl⟩, kp⟩
    | _ => cases c2
open He in
/-- super().m in a def of the class D, for an instance of C: what stands behind is the def of the class B -/
def supF (C D m B : Str) (K : PySem.W.Frag) : Bool := (PySem.W.clsIn K (ga K D)).isSome && (decide (PySem.W.mroIn K (ga K C) (.ref (ga K D)) = some true) && (decide (PySem.W.ks_superIn K (ga K C) (ga K D) m = some (some (.ref (ma K (ga K B) m)))) &&
  (decide (PySem.W.typeIn K (.ref (ma K (ga K B) m)) = some (.type "function")) && (PySem.W.fnIn K (ma K (ga K B) m) && (decide (PySem.W.nsIn K PySem.cStatics "thirdparty.any" = some none) && !(m == ("__class__" : Str)))))))
open He in
theorem supF_ok {C D m B : Str} {K : PySem.W.Frag} (h : supF C D m B K = true) : SupF K (ga K C) (ga K D) m (ma K (ga K B) m) := by
  obtain ⟨h1, h⟩ := ba h
  obtain ⟨h2, h⟩ := ba h
  obtain ⟨h3, h⟩ := ba h
  obtain ⟨h4, h⟩ := ba h
  obtain ⟨h5, h⟩ := ba h
  obtain ⟨h6, h7⟩ := ba h
  exact ⟨h1, of_decide_eq_true h2, of_decide_eq_true h3, of_decide_eq_true h4, h5, of_decide_eq_true h6, by simpa using h7⟩
open He in
/-- a property of C is that of the class B above it -/
def inhB (C B f : Str) (K : PySem.W.Frag) : Bool := decide (rcA "property" C f K = rcA "property" B f K)
end Sv

namespace Sv
open PySem PySem.Spec PyProof.Rows L2
/-! ### `if` in a generator -/
theorem gws_if {X : Cx} {c : Expr} {a b : List Stmt} {D : GEnds} {ys : List V} {σ : L2.St} {H : Hp} {pos : Pos} (h : WT X c σ H fun t H1 => if t = true then GWL X a D ys σ H1 else GWL X b D ys σ H1) : GWS X (.If c a b pos) D ys σ H := by
  refine ⟨fun A S ip R n s₀ cc fs K J gd lv s g hn k hI => ?_⟩
  obtain ⟨acc, c0, r, I⟩ := hI
  rw [exec_If]
  refine seg_bw (wpAny_standAt ?_)
  refine seg_bw ?_
  rw [g.over]
  refine wpAny_mono (h.run _ s I) (fun t s1 h1 => ?_) fun x s' hx => k.exc n s₀ x s' hx
  obtain ⟨H1, I1, q⟩ := h1
  cases t with
  | true =>
    have q' : GWL X a D ys σ H1 := q
    exact q'.run A S ip R n s₀ cc fs K J gd lv s1 g hn k ⟨acc, c0, r, I1⟩
  | false =>
    have q' : GWL X b D ys σ H1 := q
    exact q'.run A S ip R n s₀ cc fs K J gd lv s1 g hn k ⟨acc, c0, r, I1⟩
/-! ### list(f(..)) of a generator def -/
structure GFt (P : Program) (w : World) (K : PySem.W.Frag) (mg : Str → Option Value) (base : Heap) (x : Str) (k : Nat) (sp : SpG) : Prop where
  ex : ∃ f fd ps, mg x = some (.ref f) ∧ PySem.W.keepIn K (.ref f) = true ∧ GFn P w K mg base k f fd ps sp ∧ Binds K fd ps []
theorem x_listF {X : Cx} {N L S G B : List Str} {e : Expr} {es : List Expr} {x : Str} {k j : Nat} {sp : SpG} {σ : L2.St} {H : Hp} {Q : VK} {p p' pos' pos : Pos} (c : Nm X N L S G B) (mm : Mb "list" B) (mx : Mb x G) (F : GFt X.prog X.w X.K X.mg X.base x k sp) (hr : Room j X.A) (hj : k + 3 ≤ j)
    (h : WA X (e :: es) σ H fun vs H2 => sp vs H2 (fun out H3 => ∀ q, H3 q = none → Q (.ref q) (upd H3 q (.lst out))) E0)
    (hst : starEach (e :: es) X.env = (false, eval e X.env) :: starEach es X.env := by with_unfolding_all rfl) (hpl : (backTo pos' (starEach es X.env)).any (·.1) = false := by with_unfolding_all rfl)
    (he : starEach [.Call (.Name x p') (e :: es) [] pos'] X.env = (false, eval (.Call (.Name x p') (e :: es) [] pos') X.env) :: starEach [] X.env := by with_unfolding_all rfl) :
    WE X (.Call (.Name "list" p) [.Call (.Name x p') (e :: es) [] pos'] [] pos) σ H Q := by
  obtain ⟨f, fd, ps, hm, hk, F, hB⟩ := F.ex
  obtain ⟨ga, gb, gd⟩ := c.glo x mx.mem
  refine (pe_listG (E := E0) (pgen_call (E := E0) F (hr.mono (by omega)) ga hm hk hB .nil pa_w gb hst hpl) passL (fun _ _ _ z => z.elim) (hr.mono hj) (c.bgl _ mm.mem).1 (c.blt _ mm.mem) bt_list (he := he)).w ?_
  refine WA.imp h fun vs H2 q2 => ?_
  rw [List.append_nil]
  exact q2
/-! ### t[::-1] -/
theorem fm_congr {α β : Type} {f g : α → Option β} : ∀ {l : List α}, (∀ x ∈ l, f x = g x) → l.filterMap f = l.filterMap g
  | [], _ => rfl
  | x :: l, h => by
    rw [List.filterMap_cons, List.filterMap_cons, h x List.mem_cons_self, fm_congr fun y hy => h y (List.mem_cons_of_mem _ hy)]
theorem pick_all : ∀ (l : List Value) (n : Nat), l.length = n → (List.range n).filterMap (fun m => l[m]?) = l := by
  intro l
  induction l with
  | nil => intro n h; subst h; rfl
  | cons a l ih =>
    intro n h
    subst h
    rw [List.length_cons, List.range_succ_eq_map, List.filterMap_cons, List.filterMap_map]
    show a :: (List.range l.length).filterMap ((fun m => (a :: l)[m]?) ∘ Nat.succ) = a :: l
    congr 1
    exact (fm_congr fun m _ => rfl).trans (ih l.length rfl)
theorem pick_rev (xs : Array Value) : ((List.range xs.size).filterMap fun (m : Nat) => xs[((xs.size : Int) - 1 + (m : Int) * (-1)).toNat]?).toArray = xs.toList.reverse.toArray := by
  congr 1
  have e1 : (List.range xs.size).filterMap (fun (m : Nat) => xs[((xs.size : Int) - 1 + (m : Int) * (-1)).toNat]?) = (List.range xs.size).filterMap (fun m => xs.toList.reverse[m]?) := by
    refine fm_congr fun m hm => ?_
    have hm := List.mem_range.mp hm
    rw [List.getElem?_reverse (by rw [Array.length_toList]; exact hm), Array.length_toList, Array.getElem?_toList]
    congr 1
    omega
  rw [e1]
  exact pick_all _ _ (by rw [List.length_reverse, Array.length_toList])
section
variable {prog : Program} {w : World} {A : Around} {E : Value → Shared → Prop} {s : Shared}
theorem applied_rev {sl : Addr} {vs : Value} {n : Nat} {Q : Int × Int × Nat → Shared → Prop} (hs : s.heap.IsSliceOf sl .none .none vs) (ps : IsPart vs (some (-1)))
    (h : Q ((n : Int) - 1, -1, n) s) : wpAny (model prog w) A (Builtin.Slice.sliceApplied (.ref sl) (pure (n : Int))) Q E s := by
  obtain ⟨os, hos, hcs, hds⟩ := id hs
  unfold Builtin.Slice.sliceApplied Builtin.Slice.sliceFields
  refine wpAny_bind (wpAny_bind (wpAny_field hos hds (x := .none) rfl (wpAny_bind (wpAny_field hos hds (x := .none) rfl (wpAny_bind (wpAny_field hos hds (x := vs) rfl (wpAny_pure ?_)))))))
  refine wpAny_bind (HT.slicePart_ ps ?_)
  show wpAny _ _ (if ((-1 : Int) == 0) = true then _ else _) _ _ s
  rw [if_neg (by decide)]
  refine wpAny_bind (slicePart_none (wpAny_bind (slicePart_none (wpAny_bind (wpAny_pure ?_)))))
  have e1 : Builtin.Slice.sliceAdjust none none (-1) (n : Int) = ((n : Int) - 1, -1) := by
    unfold Builtin.Slice.sliceAdjust
    rfl
  have e2 : Builtin.Slice.slicePlaces ((n : Int) - 1) (-1) (-1) = n := by
    unfold Builtin.Slice.slicePlaces
    rw [if_neg (by decide)]
    by_cases h0 : n = 0
    · subst h0; rfl
    · rw [if_pos (by omega), show (-(-1) : Int) = 1 from rfl, Int.ediv_one]; omega
  show wpAny _ _ (match Builtin.Slice.sliceAdjust none none (-1) (n : Int) with | (lo, hi) => pure (lo, (-1 : Int), Builtin.Slice.slicePlaces lo hi (-1))) _ _ s
  rw [e1]
  show wpAny _ _ (pure (((n : Int) - 1), (-1 : Int), Builtin.Slice.slicePlaces ((n : Int) - 1) (-1) (-1))) _ _ s
  rw [e2]
  exact wpAny_pure h
theorem getItem_tuple_rev {t sl : Addr} {items : Array Value} {vs : Value} {Q : Value → Shared → Prop} (ht : IsTup s.heap t items) (hs : s.heap.IsSliceOf sl .none .none vs) (ps : IsPart vs (some (-1)))
    (h : Q (.ref s.heap.objs.size) { s with heap := s.heap.push { cls := .type "tuple", data := .seq items.toList.reverse.toArray } })
    (hsz : items.size ≤ sizeLine) : wpAny (model prog w) A (getItem (.ref t) (.ref sl)) Q E s := by
  have htake : sizeOk (.seq items.toList.reverse.toArray) := by
    show (items.toList.reverse.toArray).size ≤ sizeLine
    rw [List.size_toArray, List.length_reverse, Array.length_toList]
    exact hsz
  obtain ⟨os, hos, hcs, hds⟩ := id hs
  have hTs : s.TypeIs (.ref sl) "slice" := ⟨os, hos, hcs⟩
  unfold getItem
  try with_reducible refine wpAny_holding ?_
  first | refine wpAny_bind (wpAny_pure ?_) | skip
  refine wpAny_bind (wpAny_sequenceKey ht.typeIs (by decide) ?_)
  refine wpAny_bind (wpAny_callSpecial?_slot (name := Str.ofString "__getitem__") ht.typeIs PyProof.Rows.slot_tuple_getitem
    (wpAny_call_entry PyProof.Rows.slot_tuple_getitem ht.typeIs entry_tuple_getitem ?_ (args_tuple_getitem _ _)))
  show wpAny _ _ (Builtin.Tuple.tupleItemsOf (.ref t) >>= _) _ _ s
  refine wpAny_bind (tupleItemsOf_ ht ?_)
  refine wpAny_bind (wpAny_typeOf hTs ?_)
  rw [if_pos (by decide)]
  refine wpAny_bind (applied_rev hs ps ?_)
  show wpAny _ _ (if ((items.size : Int) - 1 == 0 && (-1 : Int) == 1 && items.size == items.size) = true then _ else _) _ _ s
  rw [if_neg (by rw [show ((-1 : Int) == 1) = false from rfl, Bool.and_false, Bool.false_and]; decide), pick_rev]
  first
    | exact wpAny_bind (m := Builtin.Tuple.tupleExact _) (wpAny_newObj_type (wpAny_pure ⟨_, rfl, wpAny_pure h⟩) htake)
    | exact wpAny_bind (m := Builtin.Tuple.tupleExact _) (wpAny_newObj_type (wpAny_bind (wpAny_pure (wpAny_pure ⟨_, rfl, wpAny_pure h⟩))) htake)
    | exact wpAny_bind (wpAny_bind (m := Builtin.Tuple.tupleExact _) (wpAny_newObj_type (wpAny_pure (wpAny_pure ⟨_, rfl, wpAny_pure h⟩)) htake))
    | exact wpAny_bind (wpAny_bind (m := Builtin.Tuple.tupleExact _) (wpAny_newObj_type (wpAny_pure ⟨_, rfl, wpAny_pure h⟩) htake))
end
theorem w_revT {X : Cx} {e : Expr} {σ : L2.St} {H : Hp} {Q : VK} {k : Nat} {p1 p2 p3 pos : Pos} (h : WE X e σ H fun x H1 => ∃ a xs, x = .ref a ∧ SqT X.K H1 a xs ∧ ∀ p H', H1 p = none → Same H1 H' → H' p = some (.tup xs.reverse) → Q (.ref p) H') :
    WE X (.Subscript e (.Slice none none (some (.UnaryOp .USub (.Constant (.int 1) k p1) p2)) p3) pos) σ H Q := by
  refine ⟨fun pins s I => ?_⟩
  refine Subscript_ (thn (h.run pins s I) fun v s1 ⟨x, H1, I1, r1, q1⟩ => ?_)
  obtain ⟨a, xs, ex, hx, q⟩ := q1
  subst ex
  cases r1
  have hst : PO X (some (.UnaryOp .USub (.Constant (.int 1) k p1) p2)) (tPart (tUn (rU fun i => .int (-i)) (tC (.int 1)))) := po_some (pe_un un_neg pe_int)
  refine wpAny_Slice (thn (po_none.run pins s1 σ H1 (fun o H2 => o = none ∧ H2 = H1) I1 ⟨rfl, rfl⟩) fun vl s2 ⟨l, H2, I2, pl, el, e2⟩ => ?_)
  subst el e2
  refine thn (po_none.run pins s2 σ H2 (fun o H3 => o = none ∧ H3 = H2) I2 ⟨rfl, rfl⟩) fun vu s3 ⟨u, H3, I3, pu, eu, e3⟩ => ?_
  subst eu e3
  refine thn (hst.run pins s3 σ H3 (fun o H4 => o = some (-1) ∧ H4 = H3) I3 ⟨1, rfl, -1, rfl, rfl, rfl⟩) fun vs s4 ⟨o, H4, I4, ps, eo, e4⟩ => ?_
  subst eo e4
  cases pl
  cases pu
  have I5 : Inv X pins σ H4 { s4 with heap := s4.heap.push { cls := .type "slice", data := .fields #[.none, .none, vs] } } := I4.kept (t' := s4.toks) fun b ob q => Heap.get?_push_of_some _ q
  obtain ⟨its, r, ht, hz⟩ := I5.tuple hx
  have hlen := r.length
  show wpAny (model X.prog X.w) X.A (subscriptTail e (.Slice none none (some (.UnaryOp .USub (.Constant (.int 1) k p1) p2)) p3) (.ref a) (.ref s4.heap.objs.size)) (EP X pins σ Q) X.xe { s4 with heap := s4.heap.push { cls := .type "slice", data := .fields #[.none, .none, vs] } }
  refine tail_any (ops := [.ref a, .ref s4.heap.objs.size]) ht.typeIs PyProof.Rows.slot_tuple_getitem.lookup ?_ (by with_unfolding_all rfl)
  refine getItem_tuple_rev ht (Heap.IsSliceOf.new _ .none .none vs) ps ?_ (by rw [List.size_toArray]; omega)
  have hn := I5.hok.fresh (Nat.le_refl _)
  refine ⟨.ref _, _, I5.laid (t' := s4.toks) (o := .tup xs.reverse) (fun b ob q => Heap.get?_push_of_some _ q) (Nat.le_refl _) ?_, rfl, q _ _ hn (same_new hn) upd_same⟩
  exact ⟨by rw [List.length_reverse]; exact hz, _, r.reverse, _, Heap.get?_push_size _ rfl, rfl, 0, rfl⟩
end Sv

namespace Sv
open PySem PySem.Spec PyProof.Rows L2
/-! ### != of instances of a class that has no __eq__ and no __ne__ of its own -/
structure PlC (K : PySem.W.Frag) (C : Addr) : Prop where
  ex : ∃ (nm q : Str) (N : Addr) (bs : List Value) (hdct : Bool) (sn : List Str) (sub : List Value) (ab : Bool) (col : Option Bool) (dd : Option Addr) (k0 k1 k2 k3 k5 : Option Value) (newId : String) (oN : Obj) (es : Array DictEntry) (ep : Nat),
    K.lookup C = some (excClassObj nm q C N bs [.type "object"] hdct sn sub ab col dd k0 k1 k2 k3 k5 newId) ∧ K.lookup N = some oN ∧ oN.data = .dict es ep ∧ StrKeys es ∧ nsFind es "__eq__" = none ∧ nsFind es "__ne__" = none
open He in
def plcB (C : Str) (K : PySem.W.Frag) : Bool := (match K.lookup (ga K C) with
  | some ⟨.type t, _, .cls cd, sl⟩ => (match sl.toList with | [_, _, _, _, some (.builtin _), _] => true | _ => false) && decide (t = "type") && decide (cd.mro = [.ref (ga K C), .type "object"]) && !cd.hasDel && (match K.lookup cd.ns with
    | some ⟨_, _, .dict es _, _⟩ => (es.toList.all fun e => match e.key with | .str _ _ => true | _ => false) && decide (nsFind es "__eq__" = none) && decide (nsFind es "__ne__" = none)
    | _ => false)
  | _ => false)
open He in
theorem plcB_ok {C : Str} {K : PySem.W.Frag} (h3 : plcB C K = true) : PlC K (ga K C) := by
  unfold plcB at h3
  refine ⟨?_⟩
  split at h3
  · rename_i t dd cd sl q
    obtain ⟨h3, h8⟩ := ba h3
    obtain ⟨h3, h7⟩ := ba h3
    obtain ⟨h3, h6⟩ := ba h3
    obtain ⟨h12, h5⟩ := ba h3
    obtain ⟨sl⟩ := sl
    split at h12
    case h_2 => cases h12
    rename_i k0 k1 k2 k3 nid k5 es
    have es' : sl = [k0, k1, k2, k3, some (.builtin nid), k5] := es
    subst es'
    split at h8
    · rename_i oc od es ep osl qn
      obtain ⟨h8, h11⟩ := ba h8
      obtain ⟨h9, h10⟩ := ba h8
      refine ⟨cd.name, cd.qualname, cd.ns, cd.bases, cd.hasDict, cd.slotNames, cd.subclasses, cd.abstract, cd.collection, dd, k0, k1, k2, k3, k5, nid, _, es, ep, ?_, qn, rfl, ?_, of_decide_eq_true h10, of_decide_eq_true h11⟩
      · rw [q]
        obtain ⟨n1, n2, n3, n4, n5, n6, n7, n8, n9, n10, n11⟩ := cd
        have e1 : n3 = [.ref (ga K C), .type "object"] := of_decide_eq_true h6
        have e2 : n11 = false := by
          have z : (!n11) = true := h7
          simpa using z
        have e3 : t = "type" := of_decide_eq_true h5
        subst e1 e2 e3
        rfl
      · intro e he
        have z := List.all_eq_true.mp h9 e (Array.mem_toList_iff.mpr he)
        split at z
        · rename_i n tk qk
          exact ⟨n, tk, qk⟩
        · cases z
    · cases h8
  · cases h3
section
variable {X : Cx} {N L S G B : List Str} {σ : L2.St} {H : Hp} {Q : VK} {a b C dx dy : Addr} {fs gs : List (Str × V)} {k j : Nat} {sp : Sp} {E : XK} {x : Str} {e f o : Expr} {p pos apos spos : Pos}
theorem PlC.inst {pins : List (Addr × Obj)} {s : Shared} (c : PlC X.K C) (I : Inv X pins σ H s) (ha : H a = some (.ins C dx fs)) : s.heap.CmpInst a C [.type "object"] := by
  obtain ⟨mA, O, _⟩ := ins_get I.hok ha
  obtain ⟨nm, qn, N, bs, hdct, sn, sub, ab, col, dd, k0, k1, k2, k3, k5, newId, oN, es, ep, lC, lN, dN, hk, he, hne⟩ := c.ex
  have X1 := I.kIn
  exact ⟨_, nm, qn, N, bs, hdct, sn, sub, ab, col, dd, k0, k1, k2, k3, k5, newId, fun z => nsFind es z, O.obj, rfl, X1 _ _ lC, ⟨oN, es, ep, X1 _ _ lN, dN, hk, fun _ => rfl⟩, he, hne⟩
theorem b_neObj (c : PlC X.K C) (hu : X.A.units + 1 < cLine) (ha : H a = some (.ins C dx fs)) (hb : H b = some (.ins C dy gs)) (q : Q (.bl (decide (a ≠ b))) H) : WB X (compareOp .NotEq) (.ref a) (.ref b) σ H Q := by
  refine ⟨fun pins s v u I rx ry => ?_⟩
  cases rx
  cases ry
  have ia := c.inst I ha
  have ib := c.inst I hb
  by_cases hab : a = b
  · subst hab
    rw [decide_eq_false (by simp)] at q
    exact compareOp_ne_same PySem.F.cmp_object ia hu ⟨.bl false, H, I, rfl, q⟩
  · rw [decide_eq_true hab] at q
    exact compareOp_ne_other PySem.F.cmp_object PySem.F.cmp_object ia ib hab hu ⟨.bl true, H, I, rfl, q⟩
/-! ### == of a list with the empty list -/
theorem b_eqNil {xs : List V} (hu : X.A.units + 64 < cLine) (ha : H a = some (.lst xs)) (hb : H b = some (.lst [])) (q : Q (.bl (decide (xs = []))) H) : WB X (compareOp .Eq) (.ref a) (.ref b) σ H Q := by
  by_cases hx : xs = []
  · subst hx
    rw [decide_eq_true rfl] at q
    exact (op_eqD hu).w ⟨.list [], .list [], .lst (.inl (.inl ha)) .nil, .lst (.inl (.inl hb)) .nil, by decide +kernel, by decide +kernel, by rw [show PyData.eqv (.list []) (.list []) = true by decide +kernel]; exact q⟩
  · rw [decide_eq_false hx] at q
    refine ⟨fun pins s v u I rx ry => ?_⟩
    cases rx
    cases ry
    obtain ⟨_, its, n, rv, ea⟩ := (show ObjOk X.prog X.w H s.heap a (.lst xs) from I.hok a _ ha)
    obtain ⟨_, its2, n2, rv2, eb⟩ := (show ObjOk X.prog X.w H s.heap b (.lst []) from I.hok b _ hb)
    cases rv2
    have hl := rv.length
    have hne : xs.length ≠ 0 := fun z => hx (List.length_eq_zero_iff.mp z)
    exact P.eq_list_lengths ea eb (by simp; intro z; rw [z] at hl; exact hne hl) (by omega) ⟨.bl false, H, I, rfl, q⟩
/-! ### C( *e) -/
theorem w_makeS (c : Nm X N L S G B) (mm : Mb x G) (hm : X.mg x = some (.ref C)) (F : Mkr X.prog X.w X.K X.mg X.base C k sp) (hr : Room j X.A) (hj : k + 1 ≤ j) (hx : Passes (L2.CX X.prog X.w) X E)
    (h : WE X e σ H fun y H1 => ∃ a xs, y = .ref a ∧ (SqT X.K H1 a xs ∨ SqL X.K H1 a xs) ∧ Made C sp xs H1 Q E)
    (hst : starEach [.Starred e spos] X.env = [(true, eval e X.env)] := by with_unfolding_all rfl) : WE X (.Call (.Name x p) [.Starred e spos] [] pos) σ H Q := by
  have kp := F.ex
  obtain ⟨f, M, _⟩ := kp
  obtain ⟨ga, gb, gd⟩ := c.glo x mm.mem
  refine ⟨fun pins s I => wpAny_Call_Name_kw (ld_glob I ga hm ?_ gb)⟩
  refine PySem.W.callWith_S (first := []) (h₀ := X.base) I.ok.mod.kin M.kp (thn (h.run pins s I) fun v s1 ⟨y, H1, I1, ry, a, xs, ey, hxs, q⟩ => ?_) hst
  subst ey
  obtain rfl : v = Value.ref a := ry
  exact StX.star_any I1 hxs fun us s2 I2 rv => ⟨I2.kIn, run_mkr F hr hj hx I2 rv q⟩
/-! ### len(o) by an own __len__ -/
structure LenM (P : Program) (w : World) (K : PySem.W.Frag) (mg : Str → Option Value) (base : Heap) (C : Addr) (k : Nat) (sp : Sp) : Prop where
  ex : ∃ f, PySem.W.findIn K (.ref C) "__len__" = some (some (.ref f)) ∧ PySem.W.typeIn K (.ref f) = some (.type "function") ∧ FnR P w K mg base (L2.CX P w) k f sp
def lenB (C : Str) (K : PySem.W.Frag) : Bool := He.eqO (PySem.W.findIn K (.ref (He.ga K C)) "__len__") (some (some (.ref (He.ma K (He.ga K C) "__len__")))) && decide (PySem.W.typeIn K (.ref (He.ma K (He.ga K C) "__len__")) = some (.type "function"))
theorem lenB_ok {C : Str} {K : PySem.W.Frag} (h : lenB C K = true) : PySem.W.findIn K (.ref (He.ga K C)) "__len__" = some (some (.ref (He.ma K (He.ga K C) "__len__"))) ∧ PySem.W.typeIn K (.ref (He.ma K (He.ga K C) "__len__")) = some (.type "function") := by
  unfold lenB at h
  rw [Bool.and_eq_true] at h
  exact ⟨He.eqO_ok h.1, of_decide_eq_true h.2⟩
theorem c_lenO (F : LenM X.prog X.w X.K X.mg X.base C k sp) (hr : Room j X.A) (hj : k + 1 ≤ j) (ha : H a = some (.ins C dx fs)) (q : sp [.ref a] H (fun v H' => ∃ n : Nat, v = .int (n : Nat) ∧ n < 16777216 ∧ Q (.int (n : Nat)) H') E0) : WC X (.builtin "len") [.ref a] σ H Q := by
  obtain ⟨f, h1, h2, F⟩ := F.ex
  refine ⟨fun pins s us I r => ?_⟩
  obtain ⟨u, rfl, hu1⟩ := vals1 r
  obtain rfl : u = Value.ref a := hu1
  obtain ⟨mA, O, _⟩ := ins_get I.hok ha
  obtain ⟨od, J, _⟩ := O.look
  refine Calls.call_function_entry kind_len plain_len entry_len (args_len1 _) ?_
  unfold Builtin.«len»
  refine wpAny_bind (m := oneArg "len" _) (wpAny_pure ?_)
  refine wpAny_bind (m := callSpecial? (.ref a) (PySem.Str.ofString "__len__")) (PySem.W.special_fn I.kIn J h1 h2 ?_)
  have hr1 : Room k X.A.in1 := (hr.mono hj).in1
  refine wpAny_mono (wpAny_call (codeAny_mono (F X.A.in1 X.stack s H [.ref a] [.ref a] _ E0 hr1 I.env0.in1 (.cons rfl .nil) q) fun r s' hq => ?_)) (fun v s' z => z) fun _ _ x => x
  cases r with
  | error er => exact False.elim (passL (X := X.nox) pins σ H s er s' (I.wish _) hq)
  | ok fl =>
    cases fl with
    | ret u =>
      obtain ⟨v, H', I3, rv, n, ev, hn, q3⟩ := I.after hq
      subst ev
      obtain ⟨t, rfl⟩ := rv
      refine wpAny_bind (wpAny_holding (wpAny_of_eq (a := ((n : Nat) : Int)) rfl ?_))
      refine wpAny_bind (wpAny_letGo ?_)
      show wpAny _ _ (if ((n : Nat) : Int) < 0 then _ else _) _ _ _
      rw [if_neg (by omega)]
      show wpAny _ _ (if ((n : Nat) : Int) ≥ 2 ^ 63 then _ else _) _ _ _
      rw [if_neg (by omega)]
      exact wpAny_bind (wpAny_mkInt (wpAny_pure ⟨_, rfl, .int _, H', I3.tok _, ⟨_, rfl⟩, q3⟩))
    | next => exact False.elim hq
    | brk => exact False.elim hq
    | cont => exact False.elim hq
theorem x_lenO (c : Nm X N L S G B) (m : Mb "len" B) (F : LenM X.prog X.w X.K X.mg X.base C k sp) (hr : Room j X.A) (hj : k + 1 ≤ j) (h : WE X e σ H fun y H1 => ∃ a dx fs, y = .ref a ∧ H1 a = some (.ins C dx fs) ∧ sp [.ref a] H1 (fun v H' => ∃ n : Nat, v = .int (n : Nat) ∧ n < 16777216 ∧ Q (.int (n : Nat)) H') E0)
    (hs : starEach [e] X.env = (false, eval e X.env) :: starEach [] X.env := by with_unfolding_all rfl) (hpl : (backTo pos (starEach [] X.env)).any (·.1) = false := by with_unfolding_all rfl) : WE X (.Call (.Name "len" p) [e] [] pos) σ H Q :=
  w_callB c m bt_len (wa_cons (WE.imp h fun y H1 ⟨a, dx, fs, ey, ha, q⟩ => wa_nil (by rw [ey]; exact c_lenO F hr hj ha q)) hs) hs hpl
/-! ### d.get(k, x), d[k] = v of an attribute, l.index(x) -/
theorem w_dget2 (hu : X.A.units + 1 < cLine) (h : WE X o σ H fun x H1 => ∃ a, x = .ref a ∧ IsD H1 a ∧ WE X e σ H1 fun y H2 => WE X f σ H2 fun z H3 => ∃ r, DGet H3 a y r ∧ Q (r.getD z) H3)
    (hbase : attributeBase o "get" X.env (eval o X.env) = eval o X.env := by with_unfolding_all rfl)
    (hfew : ((backTo pos (starEach [e, f] X.env)).all (fun x => !x.1) && (backToKw pos (keywordEach [] X.env)).all (fun x => x.1.isSome)
      && decide (([e, f] : List Expr).length + ([] : List Keyword).length + (if ([] : List Keyword).isEmpty then 0 else 1) < 30)) = true := by with_unfolding_all rfl)
    (hline : (apos.endLine == pos.line) = true := by with_unfolding_all rfl) (hs : backTo pos (starEach [e, f] X.env) = [(false, eval e X.env), (false, eval f X.env)] := by with_unfolding_all rfl) : WE X (.Call (.Attribute o "get" apos) [e, f] [] pos) σ H Q :=
  (pe_dget2 hu pe_w pe_w pe_w ⟨hbase, hfew, hline, hs⟩).w h
end
end Sv

namespace Sv
open PySem PySem.Spec PyProof.Rows L2
/-! the text: each def by its place -/
def topS (i : Nat) : Stmt := PySem.Challenge.pw_sieverows_k33_whole_simple_rows_and_rows.main.body.getD i (.Pass ⟨0, 0, 0, 0⟩)
abbrev s_InvalidPattern___init__ : Stmt := inClass (topS 3) 0
abbrev s_InvalidNumber___init__ : Stmt := inClass (topS 4) 0
abbrev s_InvalidRound___init__ : Stmt := inClass (topS 5) 0
abbrev s_NothingKept___init__ : Stmt := inClass (topS 6) 0
abbrev s_LimitExceeded___init__ : Stmt := inClass (topS 7) 0
abbrev s_is_integer : Stmt := topS 9
abbrev s_check_number : Stmt := topS 10
abbrev s_least_pattern : Stmt := topS 11
abbrev s_pattern_of : Stmt := topS 12
abbrev s_Sieve___init__ : Stmt := inClass (topS 13) 1
abbrev s_Sieve_is_pattern : Stmt := inClass (topS 13) 2
abbrev s_Sieve_everything : Stmt := inClass (topS 13) 3
abbrev s_Sieve_of : Stmt := inClass (topS 13) 4
abbrev s_Sieve_pattern : Stmt := inClass (topS 13) 5
abbrev s_Sieve_period : Stmt := inClass (topS 13) 6
abbrev s_Sieve_size : Stmt := inClass (topS 13) 7
abbrev s_Sieve_is_kept : Stmt := inClass (topS 13) 8
abbrev s_Sieve_nth : Stmt := inClass (topS 13) 9
abbrev s_Sieve_rank : Stmt := inClass (topS 13) 10
abbrev s_Sieve_survivors : Stmt := inClass (topS 13) 11
abbrev s_Sieve___eq__ : Stmt := inClass (topS 13) 12
abbrev s_common_divisor : Stmt := topS 14
abbrev s_common_multiple : Stmt := topS 15
abbrev s_check_limit : Stmt := topS 16
abbrev s_sieve_from : Stmt := topS 17
abbrev s_Round___init__ : Stmt := inClass (topS 19) 0
abbrev s_Round_sieve : Stmt := inClass (topS 19) 1
abbrev s_Every___init__ : Stmt := inClass (topS 20) 1
abbrev s_Every_number : Stmt := inClass (topS 20) 2
abbrev s_beginnings : Stmt := topS 24
abbrev s_last_number : Stmt := topS 25
abbrev s_nth_of : Stmt := topS 26
abbrev s_leaves : Stmt := topS 27
abbrev s_rows_of : Stmt := topS 28
abbrev s_simple_rows : Stmt := topS 29
abbrev s_density : Stmt := topS 31
abbrev s_compose : Stmt := topS 33
abbrev s_check_rounds : Stmt := topS 35
abbrev s_Row___init__ : Stmt := inClass (topS 36) 0
abbrev s_Row_rounds : Stmt := inClass (topS 36) 1
abbrev s_Row_sieve : Stmt := inClass (topS 36) 2
abbrev s_Row_then : Stmt := inClass (topS 36) 5
abbrev s_Row___len__ : Stmt := inClass (topS 36) 6
abbrev s__law_pool : Stmt := topS 38
abbrev s__law_take : Stmt := topS 39
abbrev s__law_row : Stmt := topS 40
abbrev s__law_check_one : Stmt := topS 41
abbrev s_law : Stmt := topS 42
abbrev N_InvalidPattern___init__ : List Str := ["self", "value"]
abbrev L_InvalidPattern___init__ : List Str := ["self", "value"]
abbrev G_InvalidPattern___init__ : List Str := ["SieveError"]
abbrev B_InvalidPattern___init__ : List Str := []
theorem sc_InvalidPattern___init__ : scB N_InvalidPattern___init__ ["self", "value"] L_InvalidPattern___init__ G_InvalidPattern___init__ B_InvalidPattern___init__ (defScope s_InvalidPattern___init__) = true := by decide +kernel
abbrev N_InvalidNumber___init__ : List Str := ["self", "value"]
abbrev L_InvalidNumber___init__ : List Str := ["self", "value"]
abbrev G_InvalidNumber___init__ : List Str := ["SieveError"]
abbrev B_InvalidNumber___init__ : List Str := []
theorem sc_InvalidNumber___init__ : scB N_InvalidNumber___init__ ["self", "value"] L_InvalidNumber___init__ G_InvalidNumber___init__ B_InvalidNumber___init__ (defScope s_InvalidNumber___init__) = true := by decide +kernel
abbrev N_InvalidRound___init__ : List Str := ["self", "value"]
abbrev L_InvalidRound___init__ : List Str := ["self", "value"]
abbrev G_InvalidRound___init__ : List Str := ["SieveError"]
abbrev B_InvalidRound___init__ : List Str := []
theorem sc_InvalidRound___init__ : scB N_InvalidRound___init__ ["self", "value"] L_InvalidRound___init__ G_InvalidRound___init__ B_InvalidRound___init__ (defScope s_InvalidRound___init__) = true := by decide +kernel
abbrev N_NothingKept___init__ : List Str := ["self", "value"]
abbrev L_NothingKept___init__ : List Str := ["self", "value"]
abbrev G_NothingKept___init__ : List Str := ["SieveError"]
abbrev B_NothingKept___init__ : List Str := []
theorem sc_NothingKept___init__ : scB N_NothingKept___init__ ["self", "value"] L_NothingKept___init__ G_NothingKept___init__ B_NothingKept___init__ (defScope s_NothingKept___init__) = true := by decide +kernel
abbrev N_LimitExceeded___init__ : List Str := ["self", "limit"]
abbrev L_LimitExceeded___init__ : List Str := ["self", "limit"]
abbrev G_LimitExceeded___init__ : List Str := []
abbrev B_LimitExceeded___init__ : List Str := ["OverflowError"]
theorem sc_LimitExceeded___init__ : scB N_LimitExceeded___init__ ["self", "limit"] L_LimitExceeded___init__ G_LimitExceeded___init__ B_LimitExceeded___init__ (defScope s_LimitExceeded___init__) = true := by decide +kernel
abbrev N_is_integer : List Str := ["value", "minimum"]
abbrev L_is_integer : List Str := ["value", "minimum"]
abbrev G_is_integer : List Str := []
abbrev B_is_integer : List Str := ["isinstance", "int", "bool"]
theorem sc_is_integer : scB N_is_integer ["value", "minimum"] L_is_integer G_is_integer B_is_integer (defScope s_is_integer) = true := by decide +kernel
abbrev N_check_number : List Str := ["value"]
abbrev L_check_number : List Str := ["value"]
abbrev G_check_number : List Str := ["is_integer", "InvalidNumber"]
abbrev B_check_number : List Str := []
theorem sc_check_number : scB N_check_number ["value"] L_check_number G_check_number B_check_number (defScope s_check_number) = true := by decide +kernel
abbrev N_least_pattern : List Str := ["pattern", "length", "period"]
abbrev L_least_pattern : List Str := ["pattern", "length", "period"]
abbrev G_least_pattern : List Str := []
abbrev B_least_pattern : List Str := ["len", "range"]
theorem sc_least_pattern : scB N_least_pattern ["pattern"] L_least_pattern G_least_pattern B_least_pattern (defScope s_least_pattern) = true := by decide +kernel
abbrev N_pattern_of : List Str := ["kept", "period", "marks", "number"]
abbrev L_pattern_of : List Str := ["kept", "period", "marks"]
abbrev G_pattern_of : List Str := []
abbrev B_pattern_of : List Str := ["set", "range"]
theorem sc_pattern_of : scB N_pattern_of ["kept", "period"] L_pattern_of G_pattern_of B_pattern_of (defScope s_pattern_of) = true := by decide +kernel
abbrev bL_pattern_of_0 : List Str := ["number", "marks"]
abbrev bS_pattern_of_0 : List Str := ["number"]
abbrev bG_pattern_of_0 : List Str := []
abbrev bB_pattern_of_0 : List Str := []
abbrev bO_pattern_of_0 : List (Str × Nat) := [("number", 3)]
abbrev N_Sieve___init__ : List Str := ["self", "pattern", "number", "sign"]
abbrev L_Sieve___init__ : List Str := ["self", "pattern"]
abbrev G_Sieve___init__ : List Str := ["least_pattern", "InvalidPattern", "Sieve"]
abbrev B_Sieve___init__ : List Str := ["enumerate"]
theorem sc_Sieve___init__ : scB N_Sieve___init__ ["self", "pattern"] L_Sieve___init__ G_Sieve___init__ B_Sieve___init__ (defScope s_Sieve___init__) = true := by decide +kernel
abbrev bL_Sieve___init___0 : List Str := ["number", "sign"]
abbrev bS_Sieve___init___0 : List Str := ["number", "sign"]
abbrev bG_Sieve___init___0 : List Str := []
abbrev bB_Sieve___init___0 : List Str := []
abbrev bO_Sieve___init___0 : List (Str × Nat) := [("number", 2), ("sign", 3)]
abbrev N_Sieve_is_pattern : List Str := ["value", "sign"]
abbrev L_Sieve_is_pattern : List Str := ["value"]
abbrev G_Sieve_is_pattern : List Str := ["Sieve"]
abbrev B_Sieve_is_pattern : List Str := ["all", "isinstance", "str", "len"]
theorem sc_Sieve_is_pattern : scB N_Sieve_is_pattern ["value"] L_Sieve_is_pattern G_Sieve_is_pattern B_Sieve_is_pattern (defScope s_Sieve_is_pattern) = true := by decide +kernel
abbrev bL_Sieve_is_pattern_0 : List Str := ["sign"]
abbrev bS_Sieve_is_pattern_0 : List Str := ["sign"]
abbrev bG_Sieve_is_pattern_0 : List Str := []
abbrev bB_Sieve_is_pattern_0 : List Str := []
abbrev bO_Sieve_is_pattern_0 : List (Str × Nat) := [("sign", 1)]
abbrev N_Sieve_everything : List Str := ["cls"]
abbrev L_Sieve_everything : List Str := ["cls"]
abbrev G_Sieve_everything : List Str := []
abbrev B_Sieve_everything : List Str := []
theorem sc_Sieve_everything : scB N_Sieve_everything ["cls"] L_Sieve_everything G_Sieve_everything B_Sieve_everything (defScope s_Sieve_everything) = true := by decide +kernel
abbrev N_Sieve_of : List Str := ["cls", "period", "numbers", "number"]
abbrev L_Sieve_of : List Str := ["cls", "period", "numbers", "number"]
abbrev G_Sieve_of : List Str := ["InvalidNumber", "check_number", "NothingKept", "pattern_of", "is_integer"]
abbrev B_Sieve_of : List Str := ["len"]
theorem sc_Sieve_of : scB N_Sieve_of ["cls", "period", "numbers"] L_Sieve_of G_Sieve_of B_Sieve_of (defScope s_Sieve_of) = true := by decide +kernel
abbrev bL_Sieve_of_0 : List Str := ["number", "period"]
abbrev bS_Sieve_of_0 : List Str := ["number"]
abbrev bG_Sieve_of_0 : List Str := []
abbrev bB_Sieve_of_0 : List Str := []
abbrev bO_Sieve_of_0 : List (Str × Nat) := [("number", 3)]
abbrev N_Sieve_pattern : List Str := ["self"]
abbrev L_Sieve_pattern : List Str := ["self"]
abbrev G_Sieve_pattern : List Str := []
abbrev B_Sieve_pattern : List Str := []
theorem sc_Sieve_pattern : scB N_Sieve_pattern ["self"] L_Sieve_pattern G_Sieve_pattern B_Sieve_pattern (defScope s_Sieve_pattern) = true := by decide +kernel
abbrev N_Sieve_period : List Str := ["self"]
abbrev L_Sieve_period : List Str := ["self"]
abbrev G_Sieve_period : List Str := []
abbrev B_Sieve_period : List Str := ["len"]
theorem sc_Sieve_period : scB N_Sieve_period ["self"] L_Sieve_period G_Sieve_period B_Sieve_period (defScope s_Sieve_period) = true := by decide +kernel
abbrev N_Sieve_size : List Str := ["self"]
abbrev L_Sieve_size : List Str := ["self"]
abbrev G_Sieve_size : List Str := []
abbrev B_Sieve_size : List Str := ["len"]
theorem sc_Sieve_size : scB N_Sieve_size ["self"] L_Sieve_size G_Sieve_size B_Sieve_size (defScope s_Sieve_size) = true := by decide +kernel
abbrev N_Sieve_is_kept : List Str := ["self", "value"]
abbrev L_Sieve_is_kept : List Str := ["self", "value"]
abbrev G_Sieve_is_kept : List Str := ["is_integer"]
abbrev B_Sieve_is_kept : List Str := ["len"]
theorem sc_Sieve_is_kept : scB N_Sieve_is_kept ["self", "value"] L_Sieve_is_kept G_Sieve_is_kept B_Sieve_is_kept (defScope s_Sieve_is_kept) = true := by decide +kernel
abbrev N_Sieve_nth : List Str := ["self", "index", "rounds", "place"]
abbrev L_Sieve_nth : List Str := ["self", "index", "rounds", "place"]
abbrev G_Sieve_nth : List Str := ["check_number"]
abbrev B_Sieve_nth : List Str := ["divmod", "len"]
theorem sc_Sieve_nth : scB N_Sieve_nth ["self", "index"] L_Sieve_nth G_Sieve_nth B_Sieve_nth (defScope s_Sieve_nth) = true := by decide +kernel
abbrev N_Sieve_rank : List Str := ["self", "number", "rounds", "place"]
abbrev L_Sieve_rank : List Str := ["self", "number", "rounds", "place"]
abbrev G_Sieve_rank : List Str := ["check_number"]
abbrev B_Sieve_rank : List Str := ["divmod", "len"]
theorem sc_Sieve_rank : scB N_Sieve_rank ["self", "number"] L_Sieve_rank G_Sieve_rank B_Sieve_rank (defScope s_Sieve_rank) = true := by decide +kernel
abbrev N_Sieve_survivors : List Str := ["self", "start", "stop", "index"]
abbrev L_Sieve_survivors : List Str := ["self", "start", "stop", "index"]
abbrev G_Sieve_survivors : List Str := ["check_number"]
abbrev B_Sieve_survivors : List Str := ["range", "max"]
theorem sc_Sieve_survivors : gscB N_Sieve_survivors ["self", "start", "stop"] L_Sieve_survivors G_Sieve_survivors B_Sieve_survivors (defScope s_Sieve_survivors) = true := by decide +kernel
abbrev N_Sieve___eq__ : List Str := ["self", "other"]
abbrev L_Sieve___eq__ : List Str := ["self", "other"]
abbrev G_Sieve___eq__ : List Str := ["Sieve"]
abbrev B_Sieve___eq__ : List Str := ["isinstance"]
theorem sc_Sieve___eq__ : scB N_Sieve___eq__ ["self", "other"] L_Sieve___eq__ G_Sieve___eq__ B_Sieve___eq__ (defScope s_Sieve___eq__) = true := by decide +kernel
abbrev N_common_divisor : List Str := ["first", "second"]
abbrev L_common_divisor : List Str := ["first", "second"]
abbrev G_common_divisor : List Str := []
abbrev B_common_divisor : List Str := []
theorem sc_common_divisor : scB N_common_divisor ["first", "second"] L_common_divisor G_common_divisor B_common_divisor (defScope s_common_divisor) = true := by decide +kernel
abbrev N_common_multiple : List Str := ["first", "second"]
abbrev L_common_multiple : List Str := ["first", "second"]
abbrev G_common_multiple : List Str := ["common_divisor"]
abbrev B_common_multiple : List Str := []
theorem sc_common_multiple : scB N_common_multiple ["first", "second"] L_common_multiple G_common_multiple B_common_multiple (defScope s_common_multiple) = true := by decide +kernel
abbrev N_check_limit : List Str := ["period"]
abbrev L_check_limit : List Str := ["period"]
abbrev G_check_limit : List Str := ["Sieve", "LimitExceeded"]
abbrev B_check_limit : List Str := []
theorem sc_check_limit : scB N_check_limit ["period"] L_check_limit G_check_limit B_check_limit (defScope s_check_limit) = true := by decide +kernel
abbrev N_sieve_from : List Str := ["kept", "period"]
abbrev L_sieve_from : List Str := ["kept", "period"]
abbrev G_sieve_from : List Str := ["Sieve", "pattern_of"]
abbrev B_sieve_from : List Str := ["len"]
theorem sc_sieve_from : scB N_sieve_from ["kept", "period"] L_sieve_from G_sieve_from B_sieve_from (defScope s_sieve_from) = true := by decide +kernel
abbrev N_Round___init__ : List Str := ["self", "pattern"]
abbrev L_Round___init__ : List Str := ["self", "pattern"]
abbrev G_Round___init__ : List Str := ["Sieve"]
abbrev B_Round___init__ : List Str := []
theorem sc_Round___init__ : scB N_Round___init__ ["self", "pattern"] L_Round___init__ G_Round___init__ B_Round___init__ (defScope s_Round___init__) = true := by decide +kernel
abbrev N_Round_sieve : List Str := ["self"]
abbrev L_Round_sieve : List Str := ["self"]
abbrev G_Round_sieve : List Str := []
abbrev B_Round_sieve : List Str := []
theorem sc_Round_sieve : scB N_Round_sieve ["self"] L_Round_sieve G_Round_sieve B_Round_sieve (defScope s_Round_sieve) = true := by decide +kernel
abbrev N_Every___init__ : List Str := ["self", "number", "__class__"]
abbrev L_Every___init__ : List Str := ["self", "number"]
abbrev G_Every___init__ : List Str := ["InvalidNumber", "is_integer", "Every"]
abbrev B_Every___init__ : List Str := ["super"]
theorem sc_Every___init__ : xscB N_Every___init__ ["self", "number"] L_Every___init__ G_Every___init__ B_Every___init__ (defScope s_Every___init__) = true := by decide +kernel
abbrev N_Every_number : List Str := ["self"]
abbrev L_Every_number : List Str := ["self"]
abbrev G_Every_number : List Str := []
abbrev B_Every_number : List Str := []
theorem sc_Every_number : scB N_Every_number ["self"] L_Every_number G_Every_number B_Every_number (defScope s_Every_number) = true := by decide +kernel
abbrev N_beginnings : List Str := ["count", "first", "rest"]
abbrev L_beginnings : List Str := ["count", "first", "rest"]
abbrev G_beginnings : List Str := ["Every", "beginnings"]
abbrev B_beginnings : List Str := ["range", "list"]
theorem sc_beginnings : gscB N_beginnings ["count"] L_beginnings G_beginnings B_beginnings (defScope s_beginnings) = true := by decide +kernel
abbrev N_last_number : List Str := ["sieve", "numbers", "number", "divisor", "last", "kept", "period"]
abbrev L_last_number : List Str := ["sieve", "numbers", "number", "divisor", "last", "kept", "period"]
abbrev G_last_number : List Str := ["common_divisor", "Every"]
abbrev B_last_number : List Str := []
theorem sc_last_number : scB N_last_number ["sieve", "numbers"] L_last_number G_last_number B_last_number (defScope s_last_number) = true := by decide +kernel
abbrev N_nth_of : List Str := ["numbers", "index", "result", "number"]
abbrev L_nth_of : List Str := ["numbers", "index", "result", "number"]
abbrev G_nth_of : List Str := []
abbrev B_nth_of : List Str := []
theorem sc_nth_of : scB N_nth_of ["numbers", "index"] L_nth_of G_nth_of B_nth_of (defScope s_nth_of) = true := by decide +kernel
abbrev N_leaves : List Str := ["numbers", "sieve", "product", "number", "survivor", "stop", "index"]
abbrev L_leaves : List Str := ["numbers", "sieve", "product", "number", "survivor", "stop", "index"]
abbrev G_leaves : List Str := ["nth_of"]
abbrev B_leaves : List Str := []
theorem sc_leaves : scB N_leaves ["numbers", "sieve"] L_leaves G_leaves B_leaves (defScope s_leaves) = true := by decide +kernel
abbrev N_rows_of : List Str := ["sieve", "count", "found", "numbers", "last"]
abbrev L_rows_of : List Str := ["sieve", "count", "found", "numbers", "last"]
abbrev G_rows_of : List Str := ["beginnings", "last_number", "leaves", "Sieve"]
abbrev B_rows_of : List Str := ["list"]
theorem sc_rows_of : scB N_rows_of ["sieve", "count"] L_rows_of G_rows_of B_rows_of (defScope s_rows_of) = true := by decide +kernel
abbrev N_simple_rows : List Str := ["sieve", "most", "found", "count"]
abbrev L_simple_rows : List Str := ["sieve", "most", "found", "count"]
abbrev G_simple_rows : List Str := ["MOST_PERIOD", "MOST_ELEMENTS", "InvalidNumber", "LimitExceeded", "is_integer", "rows_of"]
abbrev B_simple_rows : List Str := ["range"]
theorem sc_simple_rows : scB N_simple_rows ["sieve", "most"] L_simple_rows G_simple_rows B_simple_rows (defScope s_simple_rows) = true := by decide +kernel
abbrev N_density : List Str := ["sieve", "divisor"]
abbrev L_density : List Str := ["sieve", "divisor"]
abbrev G_density : List Str := ["common_divisor"]
abbrev B_density : List Str := []
theorem sc_density : scB N_density ["sieve"] L_density G_density B_density (defScope s_density) = true := by decide +kernel
abbrev N_compose : List Str := ["first", "second", "length", "period", "index"]
abbrev L_compose : List Str := ["first", "second", "length", "period"]
abbrev G_compose : List Str := ["common_multiple", "check_limit", "sieve_from"]
abbrev B_compose : List Str := ["range"]
theorem sc_compose : scB N_compose ["first", "second"] L_compose G_compose B_compose (defScope s_compose) = true := by decide +kernel
abbrev bL_compose_0 : List Str := ["index", "first", "second"]
abbrev bS_compose_0 : List Str := ["index"]
abbrev bG_compose_0 : List Str := []
abbrev bB_compose_0 : List Str := []
abbrev bO_compose_0 : List (Str × Nat) := [("index", 4)]
abbrev N_check_rounds : List Str := ["rounds", "item"]
abbrev L_check_rounds : List Str := ["rounds", "item"]
abbrev G_check_rounds : List Str := ["Round", "InvalidRound"]
abbrev B_check_rounds : List Str := ["isinstance"]
theorem sc_check_rounds : scB N_check_rounds ["rounds"] L_check_rounds G_check_rounds B_check_rounds (defScope s_check_rounds) = true := by decide +kernel
abbrev N_Row___init__ : List Str := ["self", "rounds", "item"]
abbrev L_Row___init__ : List Str := ["self", "rounds", "item"]
abbrev G_Row___init__ : List Str := ["check_rounds", "Sieve", "compose"]
abbrev B_Row___init__ : List Str := []
theorem sc_Row___init__ : scB N_Row___init__ ["self", "rounds"] L_Row___init__ G_Row___init__ B_Row___init__ (defScope s_Row___init__) = true := by decide +kernel
abbrev N_Row_rounds : List Str := ["self"]
abbrev L_Row_rounds : List Str := ["self"]
abbrev G_Row_rounds : List Str := []
abbrev B_Row_rounds : List Str := []
theorem sc_Row_rounds : scB N_Row_rounds ["self"] L_Row_rounds G_Row_rounds B_Row_rounds (defScope s_Row_rounds) = true := by decide +kernel
abbrev N_Row_sieve : List Str := ["self"]
abbrev L_Row_sieve : List Str := ["self"]
abbrev G_Row_sieve : List Str := []
abbrev B_Row_sieve : List Str := []
theorem sc_Row_sieve : scB N_Row_sieve ["self"] L_Row_sieve G_Row_sieve B_Row_sieve (defScope s_Row_sieve) = true := by decide +kernel
abbrev N_Row_then : List Str := ["self", "rounds"]
abbrev L_Row_then : List Str := ["self", "rounds"]
abbrev G_Row_then : List Str := ["Row"]
abbrev B_Row_then : List Str := []
theorem sc_Row_then : scB N_Row_then ["self", "rounds"] L_Row_then G_Row_then B_Row_then (defScope s_Row_then) = true := by decide +kernel
abbrev N_Row___len__ : List Str := ["self"]
abbrev L_Row___len__ : List Str := ["self"]
abbrev G_Row___len__ : List Str := []
abbrev B_Row___len__ : List Str := ["len"]
theorem sc_Row___len__ : scB N_Row___len__ ["self"] L_Row___len__ G_Row___len__ B_Row___len__ (defScope s_Row___len__) = true := by decide +kernel
abbrev N__law_pool : List Str := ["_law_script", "_law_k", "_law_cell", "_law_mixed"]
abbrev L__law_pool : List Str := ["_law_script", "_law_k", "_law_cell", "_law_mixed"]
abbrev G__law_pool : List Str := []
abbrev B__law_pool : List Str := ["len", "abs", "int"]
theorem sc__law_pool : scB N__law_pool ["_law_script", "_law_k"] L__law_pool G__law_pool B__law_pool (defScope s__law_pool) = true := by decide +kernel
abbrev N__law_take : List Str := ["_law_pool_here", "_law_count", "_law_result"]
abbrev L__law_take : List Str := ["_law_pool_here", "_law_count", "_law_result"]
abbrev G__law_take : List Str := []
abbrev B__law_take : List Str := []
theorem sc__law_take : scB N__law_take ["_law_pool_here", "_law_count"] L__law_take G__law_take B__law_take (defScope s__law_take) = true := by decide +kernel
abbrev N__law_row : List Str := ["_law_numbers", "_law_result", "_law_number"]
abbrev L__law_row : List Str := ["_law_numbers", "_law_result", "_law_number"]
abbrev G__law_row : List Str := ["Row", "Every"]
abbrev B__law_row : List Str := []
theorem sc__law_row : scB N__law_row ["_law_numbers"] L__law_row G__law_row B__law_row (defScope s__law_row) = true := by decide +kernel
abbrev N__law_check_one : List Str := ["_law_numbers", "_law_sieve", "_law_number", "_law_kept", "_law_period"]
abbrev L__law_check_one : List Str := ["_law_numbers", "_law_sieve", "_law_number", "_law_kept", "_law_period"]
abbrev G__law_check_one : List Str := ["density", "_law_row"]
abbrev B__law_check_one : List Str := ["max", "list"]
theorem sc__law_check_one : scB N__law_check_one ["_law_numbers", "_law_sieve"] L__law_check_one G__law_check_one B__law_check_one (defScope s__law_check_one) = true := by decide +kernel
abbrev N_law : List Str := ["_law_script", "_law_k", "_law_pool_here", "_law_numbers", "_law_sieve", "_law_found", "_law_more", "_law_turn", "_law_row_here"]
abbrev L_law : List Str := ["_law_script", "_law_k", "_law_pool_here", "_law_numbers", "_law_sieve", "_law_found", "_law_more"]
abbrev G_law : List Str := ["_law_pool", "simple_rows", "_law_row", "_law_take"]
abbrev B_law : List Str := ["range", "max", "tuple", "min", "len"]
theorem sc_law : scB N_law ["_law_script"] L_law G_law B_law (defScope s_law) = true := by decide +kernel
abbrev bL_law_0 : List Str := ["_law_pool_here", "_law_turn"]
abbrev bS_law_0 : List Str := ["_law_turn"]
abbrev bG_law_0 : List Str := ["_law_take"]
abbrev bB_law_0 : List Str := []
abbrev bO_law_0 : List (Str × Nat) := [("_law_turn", 7)]
abbrev bL_law_1 : List Str := ["_law_row_here", "_law_found"]
abbrev bS_law_1 : List Str := ["_law_row_here"]
abbrev bG_law_1 : List Str := []
abbrev bB_law_1 : List Str := []
abbrev bO_law_1 : List (Str × Nat) := [("_law_row_here", 8)]
abbrev bL_law_2 : List Str := ["_law_row_here", "_law_numbers", "_law_sieve"]
abbrev bS_law_2 : List Str := ["_law_row_here"]
abbrev bG_law_2 : List Str := ["_law_check_one"]
abbrev bB_law_2 : List Str := ["len"]
abbrev bO_law_2 : List (Str × Nat) := [("_law_row_here", 8)]
abbrev bL_law_3 : List Str := ["_law_row_here", "_law_numbers"]
abbrev bS_law_3 : List Str := ["_law_row_here"]
abbrev bG_law_3 : List Str := []
abbrev bB_law_3 : List Str := ["len"]
abbrev bO_law_3 : List (Str × Nat) := [("_law_row_here", 8)]
abbrev BB : List Str := ["isinstance", "int", "bool", "str", "list", "tuple", "set", "len", "range", "enumerate", "zip", "all", "any", "sum", "min", "max", "abs", "divmod", "sorted", "type", "ValueError", "OverflowError", "RuntimeError", "super", "next", "ord", "chr", "repr", "dict"]
def fnL : List DefY := [
  ⟨fun K => He.ga K "is_integer", "is_integer", "is_integer", defArgs s_is_integer, defBody s_is_integer, defScope s_is_integer, [.int 0], []⟩,
  ⟨fun K => He.ga K "check_number", "check_number", "check_number", defArgs s_check_number, defBody s_check_number, defScope s_check_number, [], []⟩,
  ⟨fun K => He.ga K "least_pattern", "least_pattern", "least_pattern", defArgs s_least_pattern, defBody s_least_pattern, defScope s_least_pattern, [], []⟩,
  ⟨fun K => He.ga K "pattern_of", "pattern_of", "pattern_of", defArgs s_pattern_of, defBody s_pattern_of, defScope s_pattern_of, [], []⟩,
  ⟨fun K => He.ma K (He.ga K "Sieve") "__init__", "__init__", "Sieve.__init__", defArgs s_Sieve___init__, defBody s_Sieve___init__, defScope s_Sieve___init__, [], []⟩,
  ⟨rcA "staticmethod" "Sieve" "is_pattern", "is_pattern", "Sieve.is_pattern", defArgs s_Sieve_is_pattern, defBody s_Sieve_is_pattern, defScope s_Sieve_is_pattern, [], []⟩,
  ⟨rcA "classmethod" "Sieve" "everything", "everything", "Sieve.everything", defArgs s_Sieve_everything, defBody s_Sieve_everything, defScope s_Sieve_everything, [], []⟩,
  ⟨rcA "classmethod" "Sieve" "of", "of", "Sieve.of", defArgs s_Sieve_of, defBody s_Sieve_of, defScope s_Sieve_of, [], []⟩,
  ⟨rcA "property" "Sieve" "pattern", "pattern", "Sieve.pattern", defArgs s_Sieve_pattern, defBody s_Sieve_pattern, defScope s_Sieve_pattern, [], []⟩,
  ⟨rcA "property" "Sieve" "period", "period", "Sieve.period", defArgs s_Sieve_period, defBody s_Sieve_period, defScope s_Sieve_period, [], []⟩,
  ⟨rcA "property" "Sieve" "size", "size", "Sieve.size", defArgs s_Sieve_size, defBody s_Sieve_size, defScope s_Sieve_size, [], []⟩,
  ⟨fun K => He.ma K (He.ga K "Sieve") "is_kept", "is_kept", "Sieve.is_kept", defArgs s_Sieve_is_kept, defBody s_Sieve_is_kept, defScope s_Sieve_is_kept, [], []⟩,
  ⟨fun K => He.ma K (He.ga K "Sieve") "nth", "nth", "Sieve.nth", defArgs s_Sieve_nth, defBody s_Sieve_nth, defScope s_Sieve_nth, [], []⟩,
  ⟨fun K => He.ma K (He.ga K "Sieve") "rank", "rank", "Sieve.rank", defArgs s_Sieve_rank, defBody s_Sieve_rank, defScope s_Sieve_rank, [], []⟩,
  ⟨fun K => He.ma K (He.ga K "Sieve") "survivors", "survivors", "Sieve.survivors", defArgs s_Sieve_survivors, defBody s_Sieve_survivors, defScope s_Sieve_survivors, [], []⟩,
  ⟨fun K => He.ma K (He.ga K "Sieve") "__eq__", "__eq__", "Sieve.__eq__", defArgs s_Sieve___eq__, defBody s_Sieve___eq__, defScope s_Sieve___eq__, [], []⟩,
  ⟨fun K => He.ga K "common_divisor", "common_divisor", "common_divisor", defArgs s_common_divisor, defBody s_common_divisor, defScope s_common_divisor, [], []⟩,
  ⟨fun K => He.ga K "common_multiple", "common_multiple", "common_multiple", defArgs s_common_multiple, defBody s_common_multiple, defScope s_common_multiple, [], []⟩,
  ⟨fun K => He.ga K "check_limit", "check_limit", "check_limit", defArgs s_check_limit, defBody s_check_limit, defScope s_check_limit, [], []⟩,
  ⟨fun K => He.ga K "sieve_from", "sieve_from", "sieve_from", defArgs s_sieve_from, defBody s_sieve_from, defScope s_sieve_from, [], []⟩,
  ⟨fun K => He.ma K (He.ga K "Round") "__init__", "__init__", "Round.__init__", defArgs s_Round___init__, defBody s_Round___init__, defScope s_Round___init__, [], []⟩,
  ⟨rcA "property" "Round" "sieve", "sieve", "Round.sieve", defArgs s_Round_sieve, defBody s_Round_sieve, defScope s_Round_sieve, [], []⟩,
  ⟨fun K => He.ma K (He.ga K "Every") "__init__", "__init__", "Every.__init__", defArgs s_Every___init__, defBody s_Every___init__, defScope s_Every___init__, [], ["__class__"]⟩,
  ⟨rcA "property" "Every" "number", "number", "Every.number", defArgs s_Every_number, defBody s_Every_number, defScope s_Every_number, [], []⟩,
  ⟨fun K => He.ga K "beginnings", "beginnings", "beginnings", defArgs s_beginnings, defBody s_beginnings, defScope s_beginnings, [], []⟩,
  ⟨fun K => He.ga K "last_number", "last_number", "last_number", defArgs s_last_number, defBody s_last_number, defScope s_last_number, [], []⟩,
  ⟨fun K => He.ga K "nth_of", "nth_of", "nth_of", defArgs s_nth_of, defBody s_nth_of, defScope s_nth_of, [], []⟩,
  ⟨fun K => He.ga K "leaves", "leaves", "leaves", defArgs s_leaves, defBody s_leaves, defScope s_leaves, [], []⟩,
  ⟨fun K => He.ga K "rows_of", "rows_of", "rows_of", defArgs s_rows_of, defBody s_rows_of, defScope s_rows_of, [], []⟩,
  ⟨fun K => He.ga K "simple_rows", "simple_rows", "simple_rows", defArgs s_simple_rows, defBody s_simple_rows, defScope s_simple_rows, [], []⟩,
  ⟨fun K => He.ga K "density", "density", "density", defArgs s_density, defBody s_density, defScope s_density, [], []⟩,
  ⟨fun K => He.ga K "compose", "compose", "compose", defArgs s_compose, defBody s_compose, defScope s_compose, [], []⟩,
  ⟨fun K => He.ga K "check_rounds", "check_rounds", "check_rounds", defArgs s_check_rounds, defBody s_check_rounds, defScope s_check_rounds, [], []⟩,
  ⟨fun K => He.ma K (He.ga K "Row") "__init__", "__init__", "Row.__init__", defArgs s_Row___init__, defBody s_Row___init__, defScope s_Row___init__, [], []⟩,
  ⟨rcA "property" "Row" "rounds", "rounds", "Row.rounds", defArgs s_Row_rounds, defBody s_Row_rounds, defScope s_Row_rounds, [], []⟩,
  ⟨rcA "property" "Row" "sieve", "sieve", "Row.sieve", defArgs s_Row_sieve, defBody s_Row_sieve, defScope s_Row_sieve, [], []⟩,
  ⟨fun K => He.ma K (He.ga K "Row") "then", "then", "Row.then", defArgs s_Row_then, defBody s_Row_then, defScope s_Row_then, [], []⟩,
  ⟨fun K => He.ma K (He.ga K "Row") "__len__", "__len__", "Row.__len__", defArgs s_Row___len__, defBody s_Row___len__, defScope s_Row___len__, [], []⟩,
  ⟨fun K => He.ga K "_law_pool", "_law_pool", "_law_pool", defArgs s__law_pool, defBody s__law_pool, defScope s__law_pool, [], []⟩,
  ⟨fun K => He.ga K "_law_take", "_law_take", "_law_take", defArgs s__law_take, defBody s__law_take, defScope s__law_take, [], []⟩,
  ⟨fun K => He.ga K "_law_row", "_law_row", "_law_row", defArgs s__law_row, defBody s__law_row, defScope s__law_row, [], []⟩,
  ⟨fun K => He.ga K "_law_check_one", "_law_check_one", "_law_check_one", defArgs s__law_check_one, defBody s__law_check_one, defScope s__law_check_one, [], []⟩,
  ⟨fun K => He.ga K "law", "law", "law", defArgs s_law, defBody s_law, defScope s_law, [], []⟩]
def fs1 : List (PySem.W.Frag → Bool) := [
  fun K => (He.Fa.glo "SieveError").ok K,
  fun K => (He.Fa.glo "is_integer").ok K,
  fun K => (He.Fa.glo "InvalidNumber").ok K,
  fun K => (He.Fa.glo "least_pattern").ok K,
  fun K => (He.Fa.glo "InvalidPattern").ok K,
  fun K => (He.Fa.glo "Sieve").ok K,
  fun K => (He.Fa.glo "check_number").ok K,
  fun K => (He.Fa.glo "NothingKept").ok K,
  fun K => (He.Fa.glo "pattern_of").ok K,
  fun K => (He.Fa.glo "common_divisor").ok K,
  fun K => (He.Fa.glo "LimitExceeded").ok K,
  fun K => (He.Fa.glo "Every").ok K,
  fun K => (He.Fa.glo "beginnings").ok K,
  fun K => (He.Fa.glo "nth_of").ok K,
  fun K => (He.Fa.glo "last_number").ok K,
  fun K => (He.Fa.glo "leaves").ok K,
  fun K => (He.Fa.int "MOST_PERIOD" 400).ok K,
  fun K => (He.Fa.int "MOST_ELEMENTS" 3).ok K,
  fun K => (He.Fa.glo "rows_of").ok K,
  fun K => (He.Fa.glo "common_multiple").ok K,
  fun K => (He.Fa.glo "check_limit").ok K,
  fun K => (He.Fa.glo "sieve_from").ok K,
  fun K => (He.Fa.glo "Round").ok K,
  fun K => (He.Fa.glo "InvalidRound").ok K,
  fun K => (He.Fa.glo "check_rounds").ok K,
  fun K => (He.Fa.glo "compose").ok K,
  fun K => (He.Fa.glo "Row").ok K,
  fun K => (He.Fa.glo "density").ok K,
  fun K => (He.Fa.glo "_law_row").ok K,
  fun K => (He.Fa.glo "_law_pool").ok K,
  fun K => (He.Fa.glo "simple_rows").ok K,
  fun K => (He.Fa.glo "_law_take").ok K,
  fun K => (He.Fa.glo "_law_check_one").ok K,
  fun K => (He.Fa.glo "law").ok K,
  fun K => (He.Fa.cls "Sieve").ok K,
  fun K => (He.Fa.mkr "Sieve").ok K,
  creadB "Sieve",
  tyB "Sieve",
  fun K => (He.Fa.noat "Sieve" "text").ok K,
  fun K => (He.Fa.noat "Sieve" "marks").ok K,
  getB "Sieve" "is_pattern" "staticmethod" "staticmethod.__get__",
  keepB (rcA "staticmethod" "Sieve" "is_pattern"),
  getB "Sieve" "everything" "classmethod" "classmethod.__get__",
  keepB (rcA "classmethod" "Sieve" "everything"),
  fnInB (rcA "classmethod" "Sieve" "everything"),
  getB "Sieve" "of" "classmethod" "classmethod.__get__",
  keepB (rcA "classmethod" "Sieve" "of"),
  fnInB (rcA "classmethod" "Sieve" "of"),
  propB "Sieve" "pattern",
  propB "Sieve" "period",
  propB "Sieve" "size",
  fun K => (He.Fa.meth "Sieve" "is_kept").ok K,
  fun K => (He.Fa.meth "Sieve" "nth").ok K,
  fun K => (He.Fa.meth "Sieve" "rank").ok K,
  fun K => (He.Fa.meth "Sieve" "survivors").ok K,
  eqcB "Sieve",
  cvalB "Sieve" "LONGEST" (.int 10000),
  fun K => (He.Fa.cls "Round").ok K,
  fun K => (He.Fa.mkr "Round").ok K,
  creadB "Round",
  tyB "Round",
  fun K => (He.Fa.noat "Round" "own").ok K,
  propB "Round" "sieve",
  fun K => (He.Fa.cls "Every").ok K,
  fun K => (He.Fa.mkr "Every").ok K,
  creadB "Every",
  tyB "Every",
  fun K => (He.Fa.noat "Every" "step").ok K,
  fun K => (He.Fa.noat "Every" "own").ok K,
  propB "Every" "number",
  propB "Every" "sieve",
  cvalB "Every" "MOST" (.int 60),
  fun K => (He.Fa.cls "Row").ok K,
  fun K => (He.Fa.mkr "Row").ok K,
  creadB "Row",
  tyB "Row",
  fun K => (He.Fa.noat "Row" "parts").ok K,
  fun K => (He.Fa.noat "Row" "stages").ok K,
  propB "Row" "rounds",
  propB "Row" "sieve",
  fun K => (He.Fa.meth "Row" "then").ok K,
  fun K => (He.Fa.meth "Row" "__len__").ok K,
  fun K => (He.Fa.keep "LimitExceeded").ok K,
  fun K => (He.Fa.keep "InvalidPattern").ok K,
  fun K => (He.Fa.keep "InvalidNumber").ok K,
  fun K => (He.Fa.keep "InvalidRound").ok K,
  fun K => (He.Fa.keep "SieveError").ok K,
  fun K => (He.Fa.keep "NothingKept").ok K,
  kitC (fun K => .ref (He.ga K "Sieve")) "Round" false,
  kitC (fun K => .ref (He.ga K "Round")) "Round" true,
  kitC (fun K => .ref (He.ga K "Every")) "Round" true,
  kitC (fun K => .ref (He.ga K "Row")) "Round" false,
  kitC (fun _ => .type "int") "Round" false,
  kitC (fun _ => .type "bool") "Round" false,
  kitC (fun _ => .type "str") "Round" false,
  kitC (fun _ => .type "NoneType") "Round" false,
  kitC (fun _ => .type "list") "Round" false,
  kitC (fun _ => .type "tuple") "Round" false,
  kitC (fun K => .ref (He.ga K "Sieve")) "Sieve" true,
  kitC (fun K => .ref (He.ga K "Round")) "Sieve" false,
  kitC (fun K => .ref (He.ga K "Every")) "Sieve" false,
  kitC (fun K => .ref (He.ga K "Row")) "Sieve" false,
  kitC (fun _ => .type "int") "Sieve" false,
  kitC (fun _ => .type "bool") "Sieve" false,
  kitC (fun _ => .type "str") "Sieve" false,
  kitC (fun _ => .type "NoneType") "Sieve" false,
  kitC (fun _ => .type "list") "Sieve" false,
  kitC (fun _ => .type "tuple") "Sieve" false,
  supB PySem.Challenge.pw_sieverows_k33_whole_simple_rows_and_rows.main.file "Every" (fun K => He.ma K (He.ga K "Every") "__init__"),
  supF "Every" "Every" "__init__" "Round",
  inhB "Every" "Round" "sieve"]
def fsL : List (PySem.W.Frag → Bool) := fs1 ++ BB.map fun x K => (He.Fa.free x).ok K
abbrev RwL : PySem.W.OpenRow := PySem.W.OpenLaw.row PySem.Challenge.rw_sieverows_k33_whole_simple_rows_and_rows
/-! the addresses that the globals reach: level by level, the seen ones in one number -/
def newsB : List Addr → Nat → List Addr
  | [], _ => []
  | a :: as, m => match a, m with
    | 0, m => newsB as m
    | a + 1, 0 => (a + 1) :: newsB as (1 <<< (a + 1))
    | a + 1, k + 1 => if Nat.beq (((k + 1) >>> (a + 1)) % 2) 1 then newsB as (k + 1) else (a + 1) :: newsB as ((k + 1) ||| (1 <<< (a + 1)))
def maskB : List Addr → Nat → Nat
  | [], m => m
  | a :: as, m => match m with
    | 0 => maskB as (1 <<< a)
    | k + 1 => maskB as ((k + 1) ||| (1 <<< a))
def refsB (g : Addr → Option Obj) (as : List Addr) : List Addr := as.flatMap fun a => match g a with
  | some o => He.refsD o
  | none => []
def bfsB (g : Addr → Option Obj) : Nat → List Addr → Nat → List Addr
  | 0, fr, _ => fr
  | n + 1, fr, m => fr ++ bfsB g n (newsB (refsB g fr) m) (maskB (newsB (refsB g fr) m) m)
def asB (g : Addr → Option Obj) (n : Nat) : List Addr := bfsB g n [mainGlobals] (1 <<< mainGlobals)
def obsBG (n : Nat) (fs : List (PySem.W.Frag → Bool)) (fn : List DefY) (g : Addr → Option Obj) : AlY := obsY fs fn (He.frG g (PySem.sysModules :: PySem.cStatics :: asB g n))
def hookB (n : Nat) (fs : List (PySem.W.Frag → Bool)) (fn : List DefY) : PySem.W.Hook where
  α := AlY
  obs := fun s => obsBG n fs fn s.heap.get?
  val := fun _ => valY fn
  says := fun _ h => ∃ K : PySem.W.Frag, K.In h ∧ SaysY fs fn K
  of := fun _ _ e => ⟨_, He.frG_in, e⟩
  keeps := fun _ _ _ ⟨K, hK, c⟩ k => ⟨K, PySem.W.Frag.In.keeps hK k, c⟩
theorem obsBG_eq {n : Nat} {fs : List (PySem.W.Frag → Bool)} {fn : List DefY} {g : Addr → Option Obj} {s : Shared} (h : ∀ a, g a = s.heap.get? a) : obsBG n fs fn g = (hookB n fs fn).obs s := by
  have e : g = s.heap.get? := funext h
  rw [e] <;> rfl
abbrev hkL : PySem.W.Hook := hookB 6 fsL fnL
def obL (s : PySem.W.SharedT) : He.AlD := obsBG 6 fsL fnL (HandSHeadRun.getT s)
theorem obL_eq (s : PySem.W.SharedT) : obL s = hkL.obs s.abs := obsBG_eq (HandSHeadRun.getT_eq s)
--@run
open HandSHeadRun PySem.W PySem.Calls in
def RunA (r : PySem.W.OpenRow) (M : Nat) (w : World) : Prop := ∀ os : OsState, (endF (stepQ (denQ tabQ) r.prog w) M r.prog w os).map (fun s => looksF r.prog (boot_heap w.params) s.abs) = some true
open HandSHeadRun PySem.W PySem.Calls in
def RunB (r : PySem.W.OpenRow) (q : Program) (M : Nat) (loose : List PySem.Str) (w : World) : Prop := ∀ os : OsState, (endF (stepQ (denQ tabQ) r.prog w) M r.prog w os).map (fun s => seenQ q loose (importedModules r.prog.main.body) (fun s => xlAt q [] s && recOk r.toRowW.records s) s.abs) = some (openGood q loose)
open HandSHeadRun PySem.W PySem.Calls in
def RunC (r : PySem.W.OpenRow) (H : PySem.W.Hook) (ob : PySem.W.SharedT → H.α) (M : Nat) (w : World) : Prop := ∀ os : OsState, (endF (stepQ (denQ tabQ) r.prog w) M r.prog w os).map ob = some (H.val w)
open HandSHeadRun PySem.W PySem.Calls in
theorem runEq_of {r : PySem.W.OpenRow} {q : Program} {H : PySem.W.Hook} {ob : PySem.W.SharedT → H.α} {M : Nat} {loose : List PySem.Str} {w : World} (a : RunA r M w) (b : RunB r q M loose w) (c : RunC r H ob M w) : RunEq r q H ob M loose w := fun os => by
  obtain ⟨s, hs, ha⟩ := Option.map_eq_some_iff.mp (a os)
  have hb := b os
  have hc := c os
  rw [hs] at hb hc ⊢
  exact congrArg some (Prod.ext ha (Prod.ext (Option.some.inj hb) (Option.some.inj hc)))
theorem runLc (w : World) : RunC RwL hkL obL 20000 w := by
  intro os
  kernel_rfl
theorem runLa (w : World) : RunA RwL 20000 w := by
  intro os
  kernel_rfl
theorem runLb (w : World) : RunB RwL (PySem.W.view RwL.prog [42]) 20000 [("_wall" : Str), ("SieveError" : Str), ("InvalidPattern" : Str), ("InvalidNumber" : Str), ("InvalidRound" : Str), ("NothingKept" : Str), ("LimitExceeded" : Str), ("is_integer" : Str), ("check_number" : Str), ("least_pattern" : Str), ("pattern_of" : Str), ("Sieve" : Str), ("common_divisor" : Str), ("common_multiple" : Str), ("check_limit" : Str), ("sieve_from" : Str), ("Round" : Str), ("Every" : Str), ("MOST_ELEMENTS" : Str), ("MOST_PERIOD" : Str), ("beginnings" : Str), ("last_number" : Str), ("nth_of" : Str), ("leaves" : Str), ("rows_of" : Str), ("simple_rows" : Str), ("density" : Str), ("compose" : Str), ("check_rounds" : Str), ("Row" : Str), ("_law_pool" : Str), ("_law_take" : Str), ("_law_row" : Str), ("_law_check_one" : Str)] w := by
  intro os
  kernel_rfl
theorem runL (w : World) : HandSHeadRun.RunEq RwL (PySem.W.view RwL.prog [42]) hkL obL 20000 [("_wall" : Str), ("SieveError" : Str), ("InvalidPattern" : Str), ("InvalidNumber" : Str), ("InvalidRound" : Str), ("NothingKept" : Str), ("LimitExceeded" : Str), ("is_integer" : Str), ("check_number" : Str), ("least_pattern" : Str), ("pattern_of" : Str), ("Sieve" : Str), ("common_divisor" : Str), ("common_multiple" : Str), ("check_limit" : Str), ("sieve_from" : Str), ("Round" : Str), ("Every" : Str), ("MOST_ELEMENTS" : Str), ("MOST_PERIOD" : Str), ("beginnings" : Str), ("last_number" : Str), ("nth_of" : Str), ("leaves" : Str), ("rows_of" : Str), ("simple_rows" : Str), ("density" : Str), ("compose" : Str), ("check_rounds" : Str), ("Row" : Str), ("_law_pool" : Str), ("_law_take" : Str), ("_law_row" : Str), ("_law_check_one" : Str)] w := runEq_of (runLa w) (runLb w) (runLc w)
--@endrun
end Sv
/-! x not in l, where the items are data of any depth -/
namespace Sv
open PySem PySem.Spec PyProof.Rows L2
theorem b_notinD {X : Cx} {σ : L2.St} {H : Hp} {Q : VK} {x y : V} {d : PyData} {ds : List PyData} (hu : X.A.units + 65 < cLine) (h1 : Dp X.K H x d) (h2 : Dp X.K H y (.list ds)) (s1 : SeqAt.shaped d = true) (s2 : SeqAt.shaped (.list ds) = true) (q : Q (.bl (!ds.any fun z => PyData.eqv z d)) H) : WB X (compareOp .NotIn) x y σ H Q := (op_notInD hu).w ⟨d, ds, h1, h2, s1, s2, q⟩
end Sv

/-! x in l and l.count(x), where the items are data of any depth -/
namespace Sv
open PySem PySem.Spec PyProof.Rows L2
theorem b_inD63 {X : Cx} {σ : L2.St} {H : Hp} {Q : VK} {x y : V} {d : PyData} {ds : List PyData} (hu : X.A.units + 65 < cLine) (h1 : Dp X.K H x d) (h2 : Dp X.K H y (.list ds)) (s1 : SeqAt.shaped d = true) (s2 : SeqAt.shaped (.list ds) = true) (q : Q (.bl (ds.any fun z => PyData.eqv z d)) H) : WB X (compareOp .In) x y σ H Q := (op_inD hu).w ⟨d, ds, h1, h2, s1, s2, q⟩
section
variable {X : Cx} {o e : Expr} {σ : L2.St} {H : Hp} {Q : VK} {pos : Pos}
theorem mt_countD (hu : X.A.units + 65 < cLine) : MtR X "list.count" (fun x xs H Q => ∃ (a : Addr) (y : V) (d : PyData) (ds : List PyData), x = V.ref a ∧ xs = [y] ∧ Dp X.K H (V.ref a) (.list ds) ∧ Dp X.K H y d ∧ SeqAt.shaped (.list ds) = true ∧ SeqAt.shaped d = true ∧ Q (.int ((ds.countP fun z => PyData.eqv z d : Nat) : Int)) H) := by
  intro pins s σ H x xs v us Q I rx rxs h
  obtain ⟨a, y, d, ds, rfl, rfl, hl, hy, sl, sd, q⟩ := h
  cases rx
  cases rxs with
  | cons ry rt =>
    rename_i uy ut
    cases rt
    obtain ⟨bs, r1⟩ := Dp.reads I d y uy hy ry
    have hxs : PyData.canLayAll0 ds = true := SeqAt.canLay_of_shaped sl
    have room : X.A.units + 1 + min (PyData.depthAll ds) d.depth < cLine := room_in_shaped sd hu
    cases hl with
    | lst hs ha =>
      obtain ⟨its, rv, ⟨⟨cls, dd, data, sls⟩, n, ho, hc, hdn, hdt⟩, _⟩ := I.list hs
      simp only at hc hdt
      subst hc hdt
      obtain ⟨as, h4⟩ := Dp.readsAll I ds _ its ha rv
      have hmap : its.map (SeqAt.readOf s.heap) = ds := SeqAt.readsAll_map ds its as hxs h4
      have hcnt : its.countP (fun u => PyData.eqv (SeqAt.readOf s.heap u) d) = ds.countP fun z => PyData.eqv z d := by
        rw [← hmap, List.countP_map]; rfl
      refine call_meets PySem.F.slot_list_count ⟨_, ho, rfl⟩ PySem.F.entry_list_count (PySem.F.args_list_count_2 _ _) (SeqAt.list_countAt a its.toArray n dd sls uy (fun u => PyData.eqv (SeqAt.readOf s.heap u) d)) ⟨ho, SeqAt.items_eqAt (vs := its.toArray) (show ReadsAll s.heap its.toArray.toList ds as from h4) r1 hxs (SeqAt.canLay_of_shaped sd) room, ?_⟩
      rw [show its.toArray.toList = its from rfl, hcnt]
      exact ⟨.int _, H, I.tok _, ⟨_, rfl⟩, q⟩
/-- xs.count(x) of data -/
theorem w_countD {apos : Pos} (hu : X.A.units + 65 < cLine) (h : WE X o σ H fun x H1 => ∃ (l : Addr) (xs : List V) (ds : List PyData), x = .ref l ∧ SqL X.K H1 l xs ∧ WE X e σ H1 fun y H2 => ∃ d, Dp X.K H2 (.ref l) (.list ds) ∧ Dp X.K H2 y d ∧ SeqAt.shaped (.list ds) = true ∧ SeqAt.shaped d = true ∧ Q (.int ((ds.countP fun z => PyData.eqv z d : Nat) : Int)) H2)
    (hbase : attributeBase o "count" X.env (eval o X.env) = eval o X.env := by with_unfolding_all rfl)
    (hfew : ((backTo pos (starEach [e] X.env)).all (fun x => !x.1) && (backToKw pos (keywordEach [] X.env)).all (fun x => x.1.isSome)
      && decide ([e].length + ([] : List Keyword).length + (if ([] : List Keyword).isEmpty then 0 else 1) < 30)) = true := by with_unfolding_all rfl)
    (hline : (apos.endLine == pos.line) = true := by with_unfolding_all rfl) (hs : starEach [e] X.env = (false, eval e X.env) :: starEach [] X.env := by with_unfolding_all rfl) : WE X (.Call (.Attribute o "count" apos) [e] [] pos) σ H Q := by
  refine (pe_bm PySem.F.plainAttrs_list PySem.F.slot_list_count PySem.F.type_list_count (mt_countD hu) pe_w (pa_cons pe_w pa_nil hs) hbase hfew hline hs rfl).w ?_
  exact WE.imp h fun x H1 ⟨l, xs, ds, e1, hx, q⟩ => ⟨by rw [e1]; exact Or.inl ⟨rfl, _, hx⟩, WE.imp q fun y H2 ⟨d, h1, h2, h3, h4, q⟩ => ⟨l, y, d, ds, e1, rfl, h1, h2, h3, h4, q⟩⟩
end
end Sv

namespace Sv
open PySem PySem.Spec PyProof.Rows L2
local macro_rules
  | `(tactic| walk_at "mb") => `(tactic| with_reducible (repeat' first | exact Mb.here | apply Mb.there))
local macro_rules
  | `(tactic| walk_at "at") => `(tactic| with_reducible (repeat' first | exact At.here | apply At.there))
local macro_rules
  | `(tactic| walk_at "put") => `(tactic| with_reducible (repeat' first | exact Put.here | apply Put.there))
local macro_rules
  | `(tactic| walk_at "hm") => `(tactic| first | rfl | exact nomark _ | with_unfolding_all rfl)
local macro_rules
  | `(tactic| walk_at "built") => `(tactic| first
    | refine x_len (by assumption) (by walk_at "mb") ?_
    | refine x_isi (by assumption) (by walk_at "mb") (by walk_at "mb") bt_int ?_
    | refine x_isi (by assumption) (by walk_at "mb") (by walk_at "mb") bt_bool ?_
    | refine x_isi (by assumption) (by walk_at "mb") (by walk_at "mb") bt_str ?_
    | refine x_all (by assumption) (by walk_at "mb") ?_
    | refine x_sum (by assumption) (by walk_at "mb") ?_
    | refine x_set (by assumption) (by walk_at "mb") ?_
    | refine x_max (by assumption) (by walk_at "mb") ?_
    | refine x_min (by assumption) (by walk_at "mb") ?_
    | refine x_dm (by assumption) (by walk_at "mb") ?_
    | refine x_abs (by assumption) (by walk_at "mb") ?_
    | refine x_int (by assumption) (by walk_at "mb") ?_
    | refine x_list (by assumption) (by walk_at "mb") ?_)
local macro_rules
  | `(tactic| walk_at "we") => `(tactic| first
    | (refine gNm ?_; refine w_name (by assumption) (by walk_at "at") (by walk_at "mb") ?_)
    | (refine gCn ?_; first | refine w_int ?_ | refine w_str ?_ | refine w_bl ?_ | refine w_non ?_)
    | (refine gCall ?_; walk_at "built")
    | refine w_bin ?_ | refine w_cmp ?_ (by walk_at "hm") | refine w_attr ?_ | refine w_ix ?_ | refine w_slice ?_ | refine w_and ?_ | refine w_or ?_ | refine w_one ?_ | refine w_not ?_ | refine w_un ?_ | refine w_if ?_
    | refine w_lst ?_ | refine w_tup ?_)
local macro_rules
  | `(tactic| walk_at "ws") => `(tactic| first
    | refine ws_set (by assumption) (by walk_at "mb") ?_ | refine ws_ret ?_ | refine ws_if ?_ | refine ws_expr ?_ | refine ws_retN ?_ | refine ws_pass ?_ | refine ws_break ?_ | refine ws_continue ?_)
local macro_rules
  | `(tactic| walk_at "wt") => `(tactic| first
    | refine wt_cmp ?_ (by walk_at "hm") | refine wt_of_ww (ww_and ?_) | refine wt_of_ww (ww_or ?_) | refine wt_not ?_ | refine wt_chain ?_ | refine wt_val ?_)
local macro_rules
  | `(tactic| walk_at "ww") => `(tactic| first | refine ww_and ?_ | refine ww_or ?_ | refine ww_and1 ?_ | refine ww_or1 ?_)
local macro_rules
  | `(tactic| walk_at "wb") => `(tactic| first
    | (refine gBo ?_; first | refine b_add ?_ | refine b_sub ?_)
    | (refine gCo ?_; first | refine b_lt ?_ | refine b_le ?_ | refine b_gt ?_ | refine b_ge ?_ | refine b_eqI ?_ | refine b_neI ?_ | refine b_eqS ?_ | refine b_neS ?_ | refine b_eqB ?_ | refine b_neB ?_ | refine b_isN ?_ | refine b_notN ?_ | refine b_isB ?_ | refine b_notB ?_))
local macro_rules
  | `(tactic| walk_at "v1") => `(tactic| with_reducible first
    | (refine gWE ?_; walk_at "we")
    | (refine gWB ?_; walk_at "wb")
    | (refine gWL ?_; refine wl_nil ?_)
    | (refine gWS ?_; walk_at "ws")
    | (refine gWT ?_; walk_at "wt")
    | (refine gWA ?_; first | refine wa_cons ?_ | refine wa_nil ?_)
    | (refine gWW ?_; walk_at "ww")
    | (refine gWU ?_; refine u_neg ?_)
    | (refine gWG ?_; refine wg_name (by assumption) (by walk_at "put") (by walk_at "mb") ?_)
    | (refine gWGs ?_; first | refine wgs_cons ?_ | refine wgs_nil ?_)
    | apply ite_t | apply ite_f | apply ite_nt | apply ite_nf | apply ite_nn | apply ite_rn | apply ite_nnn | apply ite_nrn
    | (apply gEx; first
        | (refine ⟨_, (by walk_at "put"), ?_⟩)
        | refine ⟨_, _, tInt, kit_self, ?_⟩ | refine ⟨_, _, tInt, kit_int_bool, ?_⟩ | refine ⟨_, _, tBl, kit_bool_int, ?_⟩ | refine ⟨_, _, tBl, kit_self, ?_⟩ | refine ⟨_, _, tStr, kit_self, ?_⟩ | refine ⟨_, _, tStr, kit_str_int, ?_⟩ | refine ⟨_, _, tInt, kit_int_str, ?_⟩
        | refine ⟨_, tru_bl, ?_⟩
        | refine ⟨_, rfl, ?_⟩)
    | apply wp_none | apply wp_some)
local macro_rules
  | `(tactic| walk_at "s") => `(tactic| first | walk_at "v1" | with_reducible refine wl_cons ?_)
local macro_rules
  | `(tactic| walk_at "w") => `(tactic| repeat walk_at "s")
local macro_rules
  | `(tactic| walk_at "v") => `(tactic| repeat walk_at "v1")
local macro_rules
  | `(tactic| walk_at "go") => `(tactic| refine wl_cons ?_)

section
variable {P : Program} {w : World} {K : PySem.W.Frag} {mg : Str → Option Value} {base : Heap} {f : Addr} {fd : FuncData}
def NotInt (K : PySem.W.Frag) (H : Hp) (v : V) : Prop := (∃ b, v = .bl b) ∨ ∃ t, TyX K H v t ∧ PySem.W.kitOne K t (.type "int") = some false
def spInt2 (K : PySem.W.Frag) : Sp := fun vs H Q _ => ∃ v m, vs = [v, .int m] ∧ ((∃ i, v = .int i ∧ Q (.bl (decide (m ≤ i))) H) ∨ (NotInt K H v ∧ Q (.bl false) H))
def spIsInt (K : PySem.W.Frag) : Sp := fun vs H Q _ => ∃ v m, (vs = [v, .int m] ∨ (vs = [v] ∧ m = 0)) ∧ ((∃ i, v = .int i ∧ Q (.bl (decide (m ≤ i))) H) ∨ (NotInt K H v ∧ Q (.bl false) H))
theorem ok_is_integer {P : Program} {w : World} {K : PySem.W.Frag} {mg : Str → Option Value} {base : Heap} {f : Addr} {fd : FuncData} (F : FunD K "is_integer" "is_integer" (defArgs s_is_integer) (defBody s_is_integer) (defScope s_is_integer) [.int 0] [] f fd) (hb : ∀ x ∈ BB, mg x = none) : FnR P w K mg base (L2.CX P w) 2 f (spIsInt K) := by
  have G : FnOk P w K mg base (L2.CX P w) 2 f fd ["value", "minimum"] (spInt2 K) := by
    refine fnr_ofD F sc_is_integer (fun vs H Q E h => ?_) (fun x hx => hb x (by revert x; decide +kernel)) fun cd A outer s H vs Q E hr hc h => ?_
    · obtain ⟨v, m, rfl, _⟩ := h; rfl
    · obtain ⟨v, m, rfl, h⟩ := h
      refine wl_start (σ' := [some v, some (.int m)]) rfl (wl_cons ?_)
      rcases h with ⟨i, rfl, q⟩ | ⟨⟨b, rfl⟩ | ⟨t, ht, hk⟩, q⟩
      · walk_at "w"
        exact q
      · walk_at "w"
        exact q
      · walk_at "w"
        refine ⟨_, _, ht, hk, ?_⟩
        walk_at "w"
        exact q
  obtain ⟨ds, rd, hB⟩ := F.binds1 (ps := ["value", "minimum"]) 1 0 (by simp) rfl fun T kV doc pm an cdv ct us its h1 h2 => match us, its, h1, h2 with
    | [u], [d], _, _ => ⟨_, rfl, rfl⟩
  obtain ⟨ds', rd', hB'⟩ := F.binds1 (ps := ["value", "minimum"]) 2 1 (by simp) rfl fun T kV doc pm an cdv ct us its h1 h2 => match us, its, h1, h2 with
    | [u, u2], [d], _, _ => ⟨_, rfl, rfl⟩
  refine (fnr_or (G.raw hB rd) (G.raw hB' rd')).imp fun vs H Q E h => ?_
  obtain ⟨v, m, rfl | ⟨rfl, rfl⟩, h⟩ := h
  · exact .inr ⟨v, m, rfl, h⟩
  · exact .inl ⟨v, 0, rfl, h⟩
abbrev cS (K : PySem.W.Frag) : Addr := He.ga K "Sieve"
structure SvC (K : PySem.W.Frag) (mg : Str → Option Value) : Prop where
  cls : Cls K (cS K)
  nt : NoAttr K (cS K) "text"
  nm : NoAttr K (cS K) "marks"
  g : mg "Sieve" = some (.ref (cS K))
  rd : ClX.CRead K (cS K) (.type "type")
  lim : ∃ u, ClX.CVal K (cS K) (.type "type") "LONGEST" (.int 10000) u
  eqT : ∀ {H : Hp} {a dx : Addr} {fs : List (Str × V)}, H a = some (.ins (cS K) dx fs) → TyX K H (.ref a) (.ref (cS K))
def SieveAt (K : PySem.W.Frag) (H : Hp) (a : Addr) (l : List Bool) : Prop :=
  Good l ∧ ∃ dx p, H a = some (.ins (cS K) dx [("text", .str (sOf l)), ("marks", .ref p)]) ∧ H p = some (.lst ((marks l).map fun i => V.int (i : Nat)))
theorem SieveAt.same {H H' : Hp} {a : Addr} {l : List Bool} (h : SieveAt K H a l) (e : Same H H') : SieveAt K H' a l := by
  obtain ⟨g, dx, p, h1, h2⟩ := h
  exact ⟨g, dx, p, e _ _ h1, e _ _ h2⟩
def spCheckN : Sp := fun vs H Q _ => ∃ i : Int, vs = [.int i] ∧ 0 ≤ i ∧ Q .non H
theorem ok_check_number (F : FunD K "check_number" "check_number" (defArgs s_check_number) (defBody s_check_number) (defScope s_check_number) [] [] f fd) (hb : ∀ x ∈ BB, mg x = none) (h1 : Fn P w K mg base "is_integer" 2 (spIsInt K)) : FnR P w K mg base (L2.CX P w) 3 f spCheckN := by
  refine fnr_of F sc_check_number (fun vs H Q E h => ?_) (fun kV doc pm an cdv ct us hl => match us, hl with | [_], _ => rfl) (fun x hx => hb x (by revert x; decide +kernel)) fun cd A outer s H vs Q E hr hc h => ?_
  · obtain ⟨i, rfl, _⟩ := h; rfl
  · obtain ⟨i, rfl, hi, q⟩ := h
    refine wl_start (σ' := [some (.int i)]) rfl (wl_cons ?_)
    walk_at "w"
    refine w_call hc (by walk_at "mb") h1 hr (by decide) passL ?_
    walk_at "w"
    refine ⟨_, _, .inr ⟨rfl, rfl⟩, .inl ⟨_, rfl, ?_⟩⟩
    rw [decide_eq_true hi]
    walk_at "w"
    exact q
def spLeast : Sp := fun vs H Q _ => ∃ l, vs = [.str (sOf l)] ∧ Pat l ∧ ∀ m, Good m → (∀ n, kp m n = kp l n) → m.length ∣ l.length → Q (.str (sOf m)) H
theorem ok_least_pattern (F : FunD K "least_pattern" "least_pattern" (defArgs s_least_pattern) (defBody s_least_pattern) (defScope s_least_pattern) [] [] f fd) (hb : ∀ x ∈ BB, mg x = none) : FnR P w K mg base (L2.CX P w) 3 f spLeast := by
  refine fnr_of F sc_least_pattern (fun vs H Q E h => ?_) (fun kV doc pm an cdv ct us hl => match us, hl with | [_], _ => rfl) (fun x hx => hb x (by revert x; decide +kernel)) fun cd A outer s H vs Q E hr hc h => ?_
  · obtain ⟨i, rfl, _⟩ := h; rfl
  · obtain ⟨l, rfl, p, q⟩ := h
    have hz : sizeLine = 16777216 := sizeLine_eq
    have hp1 := p.one
    have hp2 := p.most
    refine wl_start (σ' := [some (.str (sOf l)), none, none]) rfl (wl_cons ?_)
    walk_at "w"
    refine ⟨l.length, ⟨by rw [sOf_len]; omega, by rw [sOf_len]⟩, ?_⟩
    walk_at "w"
    refine ws_for owns_cx hc ?_
    refine wi_range2 hc (by walk_at "mb") ?_
    walk_at "w"
    refine ⟨_, _, rfl, rfl, ⟨by omega, by omega, by omega, by omega⟩, ?_⟩
    refine ⟨_, _, wlk_range, fun i σ' H' => H' = H ∧ (∃ o, σ' = [some (.str (sOf l)), some (.int (l.length : Nat)), o]) ∧ ∀ e, 0 < e → e ≤ i → ¬ Cuts l e, ⟨rfl, ⟨_, rfl⟩, fun e h1 h2 => by omega⟩, fun i σ' H' ⟨h, _⟩ => by rw [h]; exact Same.refl _, fun i σ' H' hi ⟨hH, ⟨o, hσ⟩, hn⟩ => ?_, fun σ' H' ⟨hH, ⟨o, hσ⟩, hn⟩ => ?_⟩
    · subst hH hσ
      refine wg_name hc (by walk_at "put") (by walk_at "mb") ?_
      have ek : (1 : Int) + (i : Nat) = ((i + 1 : Nat) : Int) := by omega
      have hi' : i + 1 ≤ l.length := by omega
      rw [ek]
      walk_at "go"
      walk_at "w"
      refine b_mod (by omega) ?_
      walk_at "w"
      refine if_dec (fun h1 => ?_) (fun h1 => ?_)
      · have hm : l.length % (i + 1) = 0 := by omega
        walk_at "w"
        refine sl_s (by rw [sOf_len]; omega) ?_
        rw [cut_to l rfl hi']
        walk_at "w"
        refine b_fdiv (by omega) (by omega) ?_
        rw [← Int.natCast_ediv]
        have hd : l.length / (i + 1) * (i + 1) = l.length := Nat.div_mul_cancel (Nat.dvd_of_mod_eq_zero hm)
        have ht : (l.take (i + 1)).length = i + 1 := by rw [List.length_take]; omega
        refine b_mulS (Int.natCast_nonneg _) (by have := Nat.div_le_self l.length (i + 1); omega) (by rw [sOf_len, ht, Int.toNat_natCast, Nat.mul_comm, hd]; omega) ?_
        rw [Int.toNat_natCast, rep_sOf]
        walk_at "w"
        refine if_dec (fun h2 => ?_) (fun h2 => ?_)
        · have hc2 : Cuts l (i + 1) := ⟨Nat.dvd_of_mod_eq_zero hm, (cuts_iff (by omega) hi' hm).mp (sOf_inj h2)⟩
          walk_at "w"
          refine sl_s (by rw [sOf_len]; omega) ?_
          rw [cut_to l rfl hi']
          have hg := least_good p (by omega) hi' hc2 fun e h1 h2 => hn e h1 (by omega)
          exact q _ hg.1 hg.2.1 hg.2.2
        · walk_at "w"
          refine ⟨rfl, ⟨_, rfl⟩, fun e h3 h4 h5 => ?_⟩
          by_cases he : e = i + 1
          · subst he
            exact h2 (congrArg sOf ((cuts_iff (by omega) hi' hm).mpr h5.2))
          · exact hn e h3 (by omega) h5
      · walk_at "w"
        refine ⟨rfl, ⟨_, rfl⟩, fun e h3 h4 h5 => ?_⟩
        by_cases he : e = i + 1
        · subst he
          have := Nat.mod_eq_zero_of_dvd h5.1
          omega
        · exact hn e h3 (by omega) h5
    · exact absurd ⟨Nat.dvd_refl _, kp_per l⟩ (hn l.length hp1 (by omega))

def spPatOf (K : PySem.W.Frag) : Sp := fun vs H Q _ => ∃ (a : Addr) (ns : List Int) (p : Nat), vs = [.ref a, .int (p : Nat)] ∧ SqL K H a (ns.map V.int) ∧ ns.length < 4090 ∧ p ≤ 10000 ∧ ∀ H', Same H H' → Q (.str (sOf (lof (fun i => ns.any (· == ((i : Nat) : Int))) p))) H'
theorem ok_pattern_of (F : FunD K "pattern_of" "pattern_of" (defArgs s_pattern_of) (defBody s_pattern_of) (defScope s_pattern_of) [] [] f fd) (hb : ∀ x ∈ BB, mg x = none) : FnR P w K mg base (L2.CX P w) 3 f (spPatOf K) := by
  refine fnr_of F sc_pattern_of (fun vs H Q E h => ?_) (fun kV doc pm an cdv ct us hl => match us, hl with | [_, _], _ => rfl) (fun x hx => hb x (by revert x; decide +kernel)) fun cd A outer s H vs Q E hr hc h => ?_
  · obtain ⟨a, ns, p, rfl, _⟩ := h; rfl
  · obtain ⟨a, ns, p, rfl, hs, hn, hp, q⟩ := h
    have hz : sizeLine = 16777216 := sizeLine_eq
    have hsb : scanBound = 4096 := by decide +kernel
    refine wl_start (σ' := [some (.ref a), some (.int (p : Nat)), none, none]) rfl (wl_cons ?_)
    walk_at "w"
    refine ⟨_, ns, rfl, hs, by omega, fun ps H1 n hps e1 hset => ?_⟩
    walk_at "w"
    refine w_join ?_
    walk_at "w"
    refine w_lc hc (own := bO_pattern_of_0) (by kernel_rfl) (fun i acc => acc = (lof (fun i => ns.any (· == ((i : Nat) : Int))) i).map fun b => V.str (sOf [b])) ?_
    refine wi_range1 hc (by walk_at "mb") ?_
    walk_at "w"
    refine ⟨by omega, by omega, _, _, wlk_range, by omega, rfl, fun i acc H' hi hl hP hS => ?_, fun acc D H' hl hP hD hS hDa => ?_⟩
    · intro X1 b1
      have c1 := nm_blk (L' := bL_pattern_of_0) (S' := bS_pattern_of_0) (G' := bG_pattern_of_0) (B' := bB_pattern_of_0) b1 hc (by kernel_rfl) (fun x hx => nomatch hx)
      obtain ⟨_, _, _, _, _, rfl⟩ := b1
      simp only [wipe, List.map_cons, List.map_nil, List.set_cons_succ, List.set_cons_zero]
      refine wg_name c1 (by walk_at "put") (by walk_at "mb") ?_
      refine ⟨rfl, rfl, ?_⟩
      intro X2 b2
      refine wts_nil ?_
      refine ⟨Same.refl _, ite_t ?_⟩
      have c2 := nm_blk (L' := bL_pattern_of_0) (S' := bS_pattern_of_0) (G' := bG_pattern_of_0) (B' := bB_pattern_of_0) b2 hc (by kernel_rfl) (fun x hx => nomatch hx)
      intro X3 b3
      have c3 := nm_blk (L' := bL_pattern_of_0) (S' := bS_pattern_of_0) (G' := bG_pattern_of_0) (B' := bB_pattern_of_0) b3 hc (by kernel_rfl) (fun x hx => nomatch hx)
      obtain ⟨_, _, _, _, _, rfl⟩ := b3
      walk_at "w"
      refine b_inSetI (hS _ _ hset) ?_
      have e0 : (0 : Int) + (i : Nat) = ((i : Nat) : Int) := by omega
      rw [e0]
      have hlast : ∀ b, (ns.any fun x => x == ((i : Nat) : Int)) = b → acc ++ [V.str (sOf [b])] = List.map (fun b => V.str (sOf [b])) (lof (fun i => ns.any fun x => x == ((i : Nat) : Int)) (i + 1)) := fun b e => by
        rw [hP, ← e]
        simp [lof, List.range_succ]
      cases hb2 : (ns.any fun x => x == ((i : Nat) : Int)) with
      | true =>
        walk_at "w"
        exact ⟨Same.refl _, hlast true hb2⟩
      | false =>
        walk_at "w"
        exact ⟨Same.refl _, hlast false hb2⟩
    · have e2 : acc = (((lof (fun i => ns.any fun x => x == ((i : Nat) : Int)) p)).map fun b => sOf [b]).map V.str := by
        rw [hP, Int.toNat_natCast, List.map_map]; rfl
      refine ⟨D, _, rfl, .inl (.inl (.inl (by rw [hDa, e2]))), ?_, ?_⟩
      · have hl1 : ∀ l : List Bool, ((l.map fun b => sOf [b]).map fun x => x.length).sum = l.length := fun l => by
          induction l with
          | nil => rfl
          | cons b r ih => simp only [List.map_cons, List.sum_cons, ih, sOf_len, List.length_cons, List.length_nil]; omega
        rw [hl1, lof_len, List.length_map, lof_len]
        have : ("" : Str).length = 0 := by decide +kernel
        rw [this]
        omega
      · rw [join_sOf]
        exact q _ (e1.trans hS)

def spIsPat : Sp := fun vs H Q _ => ∃ l, vs = [.str (sOf l)] ∧ Pat l ∧ ∀ H', Same H H' → Q (.bl true) H'
theorem ok_Sieve_is_pattern (F : FunD K "is_pattern" "Sieve.is_pattern" (defArgs s_Sieve_is_pattern) (defBody s_Sieve_is_pattern) (defScope s_Sieve_is_pattern) [] [] f fd) (hb : ∀ x ∈ BB, mg x = none) (SC : SvC K mg) : FnR P w K mg base (L2.CX P w) 3 f spIsPat := by
  refine fnr_of F sc_Sieve_is_pattern (fun vs H Q E h => ?_) (fun kV doc pm an cdv ct us hl => match us, hl with | [_], _ => rfl) (fun x hx => hb x (by revert x; decide +kernel)) fun cd A outer s H vs Q E hr hc h => ?_
  · obtain ⟨l, rfl, _⟩ := h; rfl
  · obtain ⟨l, rfl, p, q⟩ := h
    have hz : sizeLine = 16777216 := sizeLine_eq
    have p1 := p.one
    have p2 := p.most
    obtain ⟨u, hu⟩ := SC.lim
    refine wl_start (σ' := [some (.str (sOf l)), none]) rfl (wl_cons ?_)
    walk_at "w"
    refine ⟨l.length, ⟨by rw [sOf_len]; omega, by rw [sOf_len]⟩, ?_⟩
    walk_at "w"
    rw [decide_eq_true (show (1 : Int) ≤ (l.length : Nat) by omega)]
    walk_at "w"
    refine w_gref hc (by walk_at "mb") SC.g ?_
    refine a_cval SC.rd hu ?_
    walk_at "w"
    rw [decide_eq_true (show ((l.length : Nat) : Int) ≤ 10000 by omega)]
    walk_at "w"
    refine b_inPlus ?_
    rw [decide_eq_true p.plus]
    walk_at "w"
    refine w_lc hc (own := bO_Sieve_is_pattern_0) (by kernel_rfl) (fun i acc => acc = (List.replicate i true).map V.bl) ?_
    refine wi_str ?_
    walk_at "w"
    refine ⟨_, _, wlk_str, ?_, rfl, fun i acc H' hi hl hP hS => ?_, fun acc D H' hl hP hD hS hDa => ?_⟩
    · have := sOf_len l
      show (sOf l).length < sizeLine
      omega
    · have hi' : i < l.length := by
        have := sOf_len l
        show i < l.length
        rw [← this]; exact hi
      intro X1 b1
      have c1 := nm_blk (L' := bL_Sieve_is_pattern_0) (S' := bS_Sieve_is_pattern_0) (G' := bG_Sieve_is_pattern_0) (B' := bB_Sieve_is_pattern_0) b1 hc (by kernel_rfl) (fun x hx => nomatch hx)
      simp only [wipe, List.map_cons, List.map_nil, List.set_cons_succ, List.set_cons_zero]
      refine wg_name c1 (by walk_at "put") (by walk_at "mb") ?_
      refine ⟨rfl, rfl, ?_⟩
      intro X2 b2
      refine wts_nil ?_
      refine ⟨Same.refl _, ite_t ?_⟩
      intro X3 b3
      have c3 := nm_blk (L' := bL_Sieve_is_pattern_0) (S' := bS_Sieve_is_pattern_0) (G' := bG_Sieve_is_pattern_0) (B' := bB_Sieve_is_pattern_0) b3 hc (by kernel_rfl) (fun x hx => nomatch hx)
      walk_at "w"
      rw [signAt_sOf hi']
      refine b_inPM ?_
      refine ⟨Same.refl _, ?_⟩
      rw [hP, List.replicate_succ', List.map_append]; rfl
    · refine ⟨D, _, rfl, .inl (.inl (by rw [hDa, hP])), ?_⟩
      have e : ((List.replicate (sOf l).cps.size true).all fun k => k) = true := by simp
      rw [e]
      walk_at "w"
      exact q _ hS
def spSvInit (K : PySem.W.Frag) : Sp := fun vs H Q _ => ∃ (a dx : Addr) (l : List Bool), vs = [.ref a, .str (sOf l)] ∧ H a = some (.ins (cS K) dx []) ∧ Pat l ∧
  ∀ m H', Good m → (∀ n, kp m n = kp l n) → m.length ∣ l.length → (∀ b o, b ≠ a → H b = some o → H' b = some o) → SieveAt K H' a m → Q .non H'
theorem ok_Sieve___init__ (F : FunD K "__init__" "Sieve.__init__" (defArgs s_Sieve___init__) (defBody s_Sieve___init__) (defScope s_Sieve___init__) [] [] f fd) (hb : ∀ x ∈ BB, mg x = none) (SC : SvC K mg) (h1 : SMt P w K mg base (cS K) "is_pattern" 3 spIsPat) (h2 : Fn P w K mg base "least_pattern" 3 spLeast) : FnR P w K mg base (L2.CX P w) 4 f (spSvInit K) := by
  refine fnr_of F sc_Sieve___init__ (fun vs H Q E h => ?_) (fun kV doc pm an cdv ct us hl => match us, hl with | [_, _], _ => rfl) (fun x hx => hb x (by revert x; decide +kernel)) fun cd A outer s H vs Q E hr hc h => ?_
  · obtain ⟨a, dx, l, rfl, _⟩ := h; rfl
  · obtain ⟨a, dx, l, rfl, ha, p, q⟩ := h
    have hz : sizeLine = 16777216 := sizeLine_eq
    refine wl_start (σ' := [some (.ref a), some (.str (sOf l)), none, none]) rfl (wl_cons ?_)
    walk_at "w"
    refine w_smeth h1 hr (by decide) passL ?_
    refine w_gref hc (by walk_at "mb") SC.g ⟨rfl, ?_⟩
    walk_at "w"
    refine ⟨l, rfl, p, fun H1 e1 => ?_⟩
    walk_at "w"
    refine ws_fld ?_
    refine w_call hc (by walk_at "mb") h2 hr (by decide) passL ?_
    walk_at "w"
    refine ⟨l, rfl, p, fun m gm km dm => ?_⟩
    walk_at "w"
    refine ⟨a, _, _, _, rfl, e1 _ _ ha, SC.cls, SC.nt, by decide, ?_⟩
    walk_at "w"
    refine ws_fld ?_
    refine w_lcT hc (own := bO_Sieve___init___0) (by kernel_rfl) (fun i acc => acc = ((List.range i).filter fun i => m.getD i false).map fun i => V.int (i : Nat)) ?_
    refine wi_enumS hc (by walk_at "mb") ?_
    walk_at "w"
    refine a_fld SC.cls SC.nt upd_same rfl ?_
    have hml : (sOf m).length = m.length := sOf_len m
    have hm1 := gm.most
    refine ⟨_, rfl, _, _, wlk_g, (by show (sOf m).length < sizeLine; omega), rfl, fun i acc H0 H' T hi hl hP hS0 hS hT => ?_, fun acc D H' hl hP hD hS hDa => ?_⟩
    · have hi' : i < m.length := by
        show i < m.length
        rw [← hml]; exact hi
      intro X1 b1
      have c1 := nm_blk (L' := bL_Sieve___init___0) (S' := bS_Sieve___init___0) (G' := bG_Sieve___init___0) (B' := bB_Sieve___init___0) b1 hc (by kernel_rfl) (fun x hx => nomatch hx)
      simp only [wipe, List.map_cons, List.map_nil, List.set_cons_succ, List.set_cons_zero]
      refine wg_tup c1 (.inl (.inl hT)) ?_
      walk_at "w"
      refine ⟨rfl, rfl, ?_⟩
      intro X2 b2
      refine wts_one ?_
      have c2 := nm_blk (L' := bL_Sieve___init___0) (S' := bS_Sieve___init___0) (G' := bG_Sieve___init___0) (B' := bB_Sieve___init___0) b2 hc (by kernel_rfl) (fun x hx => nomatch hx)
      walk_at "w"
      rw [signAt_sOf hi']
      refine b_eqPlus ?_
      have hst := marks_step hi'
      refine ⟨_, rfl, Same.refl _, ?_⟩
      cases hb2 : m[i] with
      | true =>
        refine ite_t ?_
        intro X3 b3
        have c3 := nm_blk (L' := bL_Sieve___init___0) (S' := bS_Sieve___init___0) (G' := bG_Sieve___init___0) (B' := bB_Sieve___init___0) b3 hc (by kernel_rfl) (fun x hx => nomatch hx)
        walk_at "w"
        refine ⟨Same.refl _, ?_⟩
        rw [hst, hb2, hP, if_pos rfl, List.map_append]; rfl
      | false =>
        refine ite_f ?_
        rw [hst, hb2, hP]; simp
    · walk_at "w"
      refine ⟨a, _, _, _, rfl, hS _ _ upd_same, SC.cls, SC.nm, (by show 1 < 1000; decide), ?_⟩
      walk_at "w"
      have hDa2 : D ≠ a := fun z => by
        rw [z, upd_same] at hD
        cases hD
      refine q m _ gm km dm (fun b o hb2 ho => ?_) ⟨gm, dx, D, upd_same, ?_⟩
      · rw [upd_ne hb2]
        exact hS _ _ (by rw [upd_ne hb2]; exact e1 _ _ ho)
      · rw [upd_ne hDa2, hDa, hP]
        have e : (sOf m).cps.size = m.length := hml
        rw [e]; rfl
/-- what C(pattern) promises -/
def spMkSv (K : PySem.W.Frag) (l : List Bool) (H : Hp) (Q : VK) : Prop := Pat l ∧ ∀ a m H', Same H H' → Good m → (∀ n, kp m n = kp l n) → m.length ∣ l.length → SieveAt K H' a m → Q (.ref a) H'
theorem made_sv {H : Hp} {Q : VK} {E : XK} {l : List Bool} (h : spMkSv K l H Q) : Made (cS K) (spSvInit K) [.str (sOf l)] H Q E := by
  intro x dx H2 h1 h2 h3 e h4 h5
  refine ⟨x, dx, l, rfl, h5, h.1, fun m H' gm km dm hf hs => ⟨rfl, h.2 x m H' (fun b o ho => ?_) gm km dm hs⟩⟩
  exact hf b o (fun z => by rw [z, h1] at ho; cases ho) (e _ _ ho)
def spEvery (K : PySem.W.Frag) : Sp := fun vs H Q _ => vs = [.ref (cS K)] ∧ ∀ a H', Same H H' → SieveAt K H' a [true] → Q (.ref a) H'
theorem good_one : Good [true] := ⟨⟨by decide, by decide, by decide⟩, fun d h1 h2 => by
  have : d < 1 := h2
  omega⟩
theorem ok_Sieve_everything (F : FunD K "everything" "Sieve.everything" (defArgs s_Sieve_everything) (defBody s_Sieve_everything) (defScope s_Sieve_everything) [] [] f fd) (hb : ∀ x ∈ BB, mg x = none) (SC : SvC K mg) (h1 : Mkr P w K mg base (cS K) 4 (spSvInit K)) : FnR P w K mg base (L2.CX P w) 6 f (spEvery K) := by
  refine fnr_of F sc_Sieve_everything (fun vs H Q E h => ?_) (fun kV doc pm an cdv ct us hl => match us, hl with | [_], _ => rfl) (fun x hx => hb x (by revert x; decide +kernel)) fun cd A outer s H vs Q E hr hc h => ?_
  · rw [h.1]; rfl
  · obtain ⟨rfl, q⟩ := h
    refine wl_start (σ' := [some (.ref (cS K))]) rfl (wl_cons ?_)
    walk_at "w"
    refine w_makeL hc (by walk_at "at") (by walk_at "mb") h1 hr (by decide) passL ?_
    walk_at "w"
    rw [plus_sOf]
    refine made_sv ⟨good_one.toPat, fun a m H' e gm km dm hs => ?_⟩
    have e1 : m = [true] := gm.uniq good_one km
    subst e1
    exact q a H' e hs

structure SvP (P : Program) (w : World) (K : PySem.W.Frag) (mg : Str → Option Value) (base : Heap) (m : Str) (sp : Sp) : Prop where
  ex : ∃ p g, PropOf K (cS K) m p g ∧ FnR P w K mg base (L2.CX P w) 3 g sp
/-- o.m, a property of a sieve -/
theorem a_svp {X : Cx} {m : Str} {σ : L2.St} {H : Hp} {Q : VK} {sp : Sp} {j : Nat} {a : Addr} {l : List Bool} (SC : SvC X.K X.mg) (F : SvP X.prog X.w X.K X.mg X.base m sp) (hr : Room j X.A) (hj : 4 ≤ j) (hs : SieveAt X.K H a l) (q : sp [.ref a] H Q E0) : WAt X (.ref a) m σ H Q := by
  obtain ⟨p, g, c, F⟩ := F.ex
  obtain ⟨_, dx, p2, ha, _⟩ := hs
  exact a_prop (E := E0) SC.cls c F (hr.mono hj) ha q
def spPat (K : PySem.W.Frag) : Sp := fun vs H Q _ => ∃ a l, vs = [.ref a] ∧ SieveAt K H a l ∧ Q (.str (sOf l)) H
def spPer (K : PySem.W.Frag) : Sp := fun vs H Q _ => ∃ a l, vs = [.ref a] ∧ SieveAt K H a l ∧ Q (.int (l.length : Nat)) H
def spSize (K : PySem.W.Frag) : Sp := fun vs H Q _ => ∃ a l, vs = [.ref a] ∧ SieveAt K H a l ∧ Q (.int (ct (kp l) l.length : Nat)) H
theorem ok_Sieve_pattern (F : FunD K "pattern" "Sieve.pattern" (defArgs s_Sieve_pattern) (defBody s_Sieve_pattern) (defScope s_Sieve_pattern) [] [] f fd) (hb : ∀ x ∈ BB, mg x = none) (SC : SvC K mg) : FnR P w K mg base (L2.CX P w) 3 f (spPat K) := by
  refine FnR.mono (fnr_of (k := 1) F sc_Sieve_pattern (fun vs H Q E h => ?_) (fun kV doc pm an cdv ct us hl => match us, hl with | [_], _ => rfl) (fun x hx => hb x (by revert x; decide +kernel)) fun cd A outer s H vs Q E hr hc h => ?_) (by decide)
  · obtain ⟨a, l, rfl, _⟩ := h; rfl
  · obtain ⟨a, l, rfl, ⟨g, dx, p, ha, hp⟩, q⟩ := h
    refine wl_start (σ' := [some (.ref a)]) rfl (wl_cons ?_)
    walk_at "w"
    refine a_fld SC.cls SC.nt ha rfl ?_
    exact q
theorem ok_Sieve_period (F : FunD K "period" "Sieve.period" (defArgs s_Sieve_period) (defBody s_Sieve_period) (defScope s_Sieve_period) [] [] f fd) (hb : ∀ x ∈ BB, mg x = none) (SC : SvC K mg) : FnR P w K mg base (L2.CX P w) 3 f (spPer K) := by
  refine FnR.mono (fnr_of (k := 1) F sc_Sieve_period (fun vs H Q E h => ?_) (fun kV doc pm an cdv ct us hl => match us, hl with | [_], _ => rfl) (fun x hx => hb x (by revert x; decide +kernel)) fun cd A outer s H vs Q E hr hc h => ?_) (by decide)
  · obtain ⟨a, l, rfl, _⟩ := h; rfl
  · obtain ⟨a, l, rfl, ⟨g, dx, p, ha, hp⟩, q⟩ := h
    have hz : sizeLine = 16777216 := sizeLine_eq
    have hm := g.most
    refine wl_start (σ' := [some (.ref a)]) rfl (wl_cons ?_)
    walk_at "w"
    refine a_fld SC.cls SC.nt ha rfl ?_
    exact ⟨l.length, ⟨by rw [sOf_len]; omega, by rw [sOf_len]⟩, q⟩
theorem ok_Sieve_size (F : FunD K "size" "Sieve.size" (defArgs s_Sieve_size) (defBody s_Sieve_size) (defScope s_Sieve_size) [] [] f fd) (hb : ∀ x ∈ BB, mg x = none) (SC : SvC K mg) : FnR P w K mg base (L2.CX P w) 3 f (spSize K) := by
  refine FnR.mono (fnr_of (k := 1) F sc_Sieve_size (fun vs H Q E h => ?_) (fun kV doc pm an cdv ct us hl => match us, hl with | [_], _ => rfl) (fun x hx => hb x (by revert x; decide +kernel)) fun cd A outer s H vs Q E hr hc h => ?_) (by decide)
  · obtain ⟨a, l, rfl, _⟩ := h; rfl
  · obtain ⟨a, l, rfl, ⟨g, dx, p, ha, hp⟩, q⟩ := h
    refine wl_start (σ' := [some (.ref a)]) rfl (wl_cons ?_)
    walk_at "w"
    refine a_fld SC.cls SC.nm ha rfl ?_
    refine ⟨_, .inl ⟨_, .inl (.inl hp), rfl⟩, ?_⟩
    rw [List.length_map, marks_len]
    exact q
def spKept (K : PySem.W.Frag) : Sp := fun vs H Q _ => ∃ (a : Addr) (l : List Bool) (n : Nat), vs = [.ref a, .int n] ∧ SieveAt K H a l ∧ Q (.bl (kp l n)) H
theorem ok_Sieve_is_kept (F : FunD K "is_kept" "Sieve.is_kept" (defArgs s_Sieve_is_kept) (defBody s_Sieve_is_kept) (defScope s_Sieve_is_kept) [] [] f fd) (hb : ∀ x ∈ BB, mg x = none) (SC : SvC K mg) (h1 : Fn P w K mg base "is_integer" 2 (spIsInt K)) : FnR P w K mg base (L2.CX P w) 4 f (spKept K) := by
  refine fnr_of F sc_Sieve_is_kept (fun vs H Q E h => ?_) (fun kV doc pm an cdv ct us hl => match us, hl with | [_, _], _ => rfl) (fun x hx => hb x (by revert x; decide +kernel)) fun cd A outer s H vs Q E hr hc h => ?_
  · obtain ⟨a, l, n, rfl, _⟩ := h; rfl
  · obtain ⟨a, l, n, rfl, ⟨g, dx, p, ha, hp⟩, q⟩ := h
    have hz : sizeLine = 16777216 := sizeLine_eq
    have hm := g.most
    have h0 := g.one
    refine wl_start (σ' := [some (.ref a), some (.int n)]) rfl (wl_cons ?_)
    walk_at "w"
    refine w_call hc (by walk_at "mb") h1 hr (by decide) passL ?_
    walk_at "w"
    refine ⟨_, _, .inr ⟨rfl, rfl⟩, .inl ⟨_, rfl, ?_⟩⟩
    rw [decide_eq_true (show (0 : Int) ≤ (n : Nat) by omega)]
    walk_at "w"
    refine a_fld SC.cls SC.nt ha rfl ?_
    walk_at "w"
    refine a_fld SC.cls SC.nt ha rfl ?_
    refine ⟨l.length, ⟨by rw [sOf_len]; omega, by rw [sOf_len]⟩, ?_⟩
    refine b_mod (by omega) ?_
    have hi : n % l.length < l.length := Nat.mod_lt _ h0
    refine ix_s (by rw [sOf_len]; omega) (sOf_at (i := n % l.length) (by simp) hi) ?_
    walk_at "w"
    rw [dec_plus]
    have e : l[n % l.length] = kp l n := by rw [← kp_lt hi, (kp_per l).mod]
    rw [e]
    exact q
theorem mul_small {i j : Int} (h0 : 0 ≤ j) (h : j ≤ 1000000000) : IntMulOk i j := .of_right (intBits_le_64 (by omega) (by omega))
theorem mul_small' {i j : Int} (h0 : 0 ≤ i) (h : i ≤ 1000000000) : IntMulOk i j := .of_left (intBits_le_64 (by omega) (by omega))
def spNth (K : PySem.W.Frag) : Sp := fun vs H Q _ => ∃ (a : Addr) (l : List Bool) (i : Nat), vs = [.ref a, .int i] ∧ SieveAt K H a l ∧ ∀ n H', Same H H' → kp l n = true → ct (kp l) n = i → Q (.int (n : Nat)) H'
theorem ok_Sieve_nth (F : FunD K "nth" "Sieve.nth" (defArgs s_Sieve_nth) (defBody s_Sieve_nth) (defScope s_Sieve_nth) [] [] f fd) (hb : ∀ x ∈ BB, mg x = none) (SC : SvC K mg) (h1 : Fn P w K mg base "check_number" 3 spCheckN) : FnR P w K mg base (L2.CX P w) 4 f (spNth K) := by
  refine fnr_of F sc_Sieve_nth (fun vs H Q E h => ?_) (fun kV doc pm an cdv ct us hl => match us, hl with | [_, _], _ => rfl) (fun x hx => hb x (by revert x; decide +kernel)) fun cd A outer s H vs Q E hr hc h => ?_
  · obtain ⟨a, l, n, rfl, _⟩ := h; rfl
  · obtain ⟨a, l, i, rfl, hs, q⟩ := h
    obtain ⟨g, dx, p, ha, hp⟩ := hs
    have hz : sizeLine = 16777216 := sizeLine_eq
    have hm := g.most
    have h0 := g.one
    have hsz := g.toPat.size
    have hsz2 := ct_le (kp l) l.length
    refine wl_start (σ' := [some (.ref a), some (.int i), none, none]) rfl (wl_cons ?_)
    walk_at "w"
    refine w_call hc (by walk_at "mb") h1 hr (by decide) passL ?_
    walk_at "w"
    refine ⟨_, rfl, by omega, ?_⟩
    walk_at "w"
    refine ws_asg ?_
    walk_at "w"
    refine a_fld SC.cls SC.nm ha rfl ?_
    refine ⟨_, .inl ⟨_, .inl (.inl hp), rfl⟩, ?_⟩
    rw [List.length_map, marks_len]
    refine ⟨_, _, rfl, rfl, ⟨by omega, by omega⟩, fun T H1 hT e1 hT1 => ?_⟩
    refine wg_tup hc (.inl (.inl hT1)) ?_
    walk_at "w"
    refine a_fld SC.cls SC.nt (e1 _ _ ha) rfl ?_
    refine ⟨l.length, ⟨by rw [sOf_len]; omega, by rw [sOf_len]⟩, ?_⟩
    refine b_mul (mul_small (by omega) (by omega)) ?_
    walk_at "w"
    refine a_fld SC.cls SC.nm (e1 _ _ ha) rfl ?_
    walk_at "w"
    have hr2 : i % ct (kp l) l.length < ct (kp l) l.length := Nat.mod_lt _ hsz
    obtain ⟨m, e2, m1, m2, m3⟩ := filter_range hr2
    refine ix_l (.inl (.inl (e1 _ _ hp))) (at_of (i := i % ct (kp l) l.length) (v := .int (m : Nat)) (by simp) (by rw [List.getElem?_map, marks_eq, e2]; rfl)) ?_
    walk_at "w"
    have e3 : (i : Int) / (ct (kp l) l.length : Nat) * (l.length : Nat) + (m : Nat) = ((i / ct (kp l) l.length * l.length + m : Nat) : Int) := by simp
    rw [e3]
    refine q _ _ e1 ?_ ?_
    · rw [Nat.add_comm, (kp_per l).mul]; exact m2
    · rw [ct_mul (kp_per l), m3, Nat.mul_comm, Nat.div_add_mod]

def spRank (K : PySem.W.Frag) : Sp := fun vs H Q _ => ∃ (a : Addr) (l : List Bool) (n : Nat), vs = [.ref a, .int n] ∧ SieveAt K H a l ∧ ∀ H', Same H H' → Q (.int (ct (kp l) n : Nat)) H'
theorem ok_Sieve_rank (F : FunD K "rank" "Sieve.rank" (defArgs s_Sieve_rank) (defBody s_Sieve_rank) (defScope s_Sieve_rank) [] [] f fd) (hb : ∀ x ∈ BB, mg x = none) (SC : SvC K mg) (h1 : Fn P w K mg base "check_number" 3 spCheckN) : FnR P w K mg base (L2.CX P w) 4 f (spRank K) := by
  refine fnr_of F sc_Sieve_rank (fun vs H Q E h => ?_) (fun kV doc pm an cdv ct us hl => match us, hl with | [_, _], _ => rfl) (fun x hx => hb x (by revert x; decide +kernel)) fun cd A outer s H vs Q E hr hc h => ?_
  · obtain ⟨a, l, n, rfl, _⟩ := h; rfl
  · obtain ⟨a, l, i, rfl, hs, q⟩ := h
    obtain ⟨g, dx, p, ha, hp⟩ := hs
    have hz : sizeLine = 16777216 := sizeLine_eq
    have hm := g.most
    have h0 := g.one
    have hsz := g.toPat.size
    have hsz2 := ct_le (kp l) l.length
    refine wl_start (σ' := [some (.ref a), some (.int i), none, none]) rfl (wl_cons ?_)
    walk_at "w"
    refine w_call hc (by walk_at "mb") h1 hr (by decide) passL ?_
    walk_at "w"
    refine ⟨_, rfl, by omega, ?_⟩
    walk_at "w"
    refine ws_asg ?_
    walk_at "w"
    refine a_fld SC.cls SC.nt ha rfl ?_
    refine ⟨l.length, ⟨by rw [sOf_len]; omega, by rw [sOf_len]⟩, ?_⟩
    refine ⟨_, _, rfl, rfl, ⟨by omega, by omega⟩, fun T H1 hT e1 hT1 => ?_⟩
    refine wg_tup hc (.inl (.inl hT1)) ?_
    walk_at "w"
    refine a_fld SC.cls SC.nm (e1 _ _ ha) rfl ?_
    refine ⟨_, .inl ⟨_, .inl (.inl (e1 _ _ hp)), rfl⟩, ?_⟩
    rw [List.length_map, marks_len]
    refine b_mul (mul_small (by omega) (by omega)) ?_
    refine w_count ?_
    walk_at "w"
    refine a_fld SC.cls SC.nt (e1 _ _ ha) rfl ?_
    walk_at "w"
    have hr2 : i % l.length < l.length := Nat.mod_lt _ h0
    refine sl_s (by rw [sOf_len]; omega) ?_
    rw [cut_to l (d := i % l.length) (by simp) (by omega)]
    walk_at "w"
    rw [count_sOf, countP_take (by omega)]
    walk_at "w"
    have e3 : (i : Int) / (l.length : Nat) * (ct (kp l) l.length : Nat) + (ct (kp l) (i % l.length) : Nat) = ((ct (kp l) i : Nat) : Int) := by
      rw [ct_mod (kp_per l) i]; simp
    rw [e3]
    exact q _ e1
def spSvEq (K : PySem.W.Frag) : Sp := fun vs H Q _ => ∃ (a b : Addr) (l m : List Bool), vs = [.ref a, .ref b] ∧ SieveAt K H a l ∧ SieveAt K H b m ∧ Q (.bl (decide (l = m))) H
theorem ok_Sieve___eq__ (F : FunD K "__eq__" "Sieve.__eq__" (defArgs s_Sieve___eq__) (defBody s_Sieve___eq__) (defScope s_Sieve___eq__) [] [] f fd) (hb : ∀ x ∈ BB, mg x = none) (SC : SvC K mg) : FnR P w K mg base (L2.CX P w) 4 f (spSvEq K) := by
  refine fnr_of F sc_Sieve___eq__ (fun vs H Q E h => ?_) (fun kV doc pm an cdv ct us hl => match us, hl with | [_, _], _ => rfl) (fun x hx => hb x (by revert x; decide +kernel)) fun cd A outer s H vs Q E hr hc h => ?_
  · obtain ⟨a, b, l, n, rfl, _⟩ := h; rfl
  · obtain ⟨a, b, l, m, rfl, ⟨g, dx, p, ha, hp⟩, ⟨g2, dx2, p2, hb2, hp2⟩, q⟩ := h
    refine wl_start (σ' := [some (.ref a), some (.ref b)]) rfl (wl_cons ?_)
    walk_at "w"
    refine x_isiC hc (by walk_at "mb") (by walk_at "mb") SC.g ?_
    walk_at "w"
    refine ⟨_, true, SC.eqT hb2, kit_own, ?_⟩
    walk_at "w"
    refine a_fld SC.cls SC.nt ha rfl ?_
    walk_at "w"
    refine a_fld SC.cls SC.nt hb2 rfl ?_
    walk_at "w"
    have e : decide (sOf l = sOf m) = decide (l = m) := by
      by_cases h : l = m
      · rw [decide_eq_true h, decide_eq_true (congrArg sOf h)]
      · rw [decide_eq_false h, decide_eq_false (fun z => h (sOf_inj z))]
    rw [e]
    exact q
def spGcd : Sp := fun vs H Q _ => ∃ a b : Nat, vs = [.int a, .int b] ∧ Q (.int (Nat.gcd a b : Nat)) H
theorem ok_common_divisor (F : FunD K "common_divisor" "common_divisor" (defArgs s_common_divisor) (defBody s_common_divisor) (defScope s_common_divisor) [] [] f fd) (hb : ∀ x ∈ BB, mg x = none) : FnR P w K mg base (L2.CX P w) 2 f spGcd := by
  refine fnr_of F sc_common_divisor (fun vs H Q E h => ?_) (fun kV doc pm an cdv ct us hl => match us, hl with | [_, _], _ => rfl) (fun x hx => hb x (by revert x; decide +kernel)) fun cd A outer s H vs Q E hr hc h => ?_
  · obtain ⟨a, b, rfl, _⟩ := h; rfl
  · obtain ⟨a, b, rfl, q⟩ := h
    refine wl_start (σ' := [some (.int a), some (.int b)]) rfl (wl_cons ?_)
    refine ws_while owns_cx (fun m σ' H' => ∃ x y : Nat, m = y ∧ H' = H ∧ σ' = [some (.int x), some (.int y)] ∧ Nat.gcd x y = Nat.gcd a b) b ⟨a, b, rfl, rfl, rfl, rfl⟩ fun m σ' H' ⟨x, y, hm, hH, hσ, hg⟩ => ?_
    subst hm hH hσ
    walk_at "w"
    refine if_dec (fun h1 => ?_) (fun h1 => ?_)
    · walk_at "go"
      refine ws_par hc (by kernel_rfl) (by kernel_rfl) (by decide +kernel) ?_ (by with_unfolding_all rfl) (by with_unfolding_all rfl) (by with_unfolding_all rfl) (by with_unfolding_all rfl) ⟨0, 1, rfl, rfl⟩
      walk_at "w"
      refine b_mod (by omega) ?_
      refine ⟨_, _, by walk_at "put", by walk_at "put", ?_⟩
      walk_at "w"
      refine ⟨_, Nat.mod_lt x (show 0 < m by omega), m, x % m, rfl, rfl, by simp, ?_⟩
      rw [← hg, Nat.gcd_comm x m, Nat.gcd_rec m x, Nat.gcd_comm]
    · have hy : m = 0 := by omega
      subst hy
      rw [Nat.gcd_zero_right] at hg
      walk_at "w"
      rw [hg]
      exact q
def spLcm : Sp := fun vs H Q _ => ∃ a b : Nat, vs = [.int a, .int b] ∧ 0 < a ∧ a < 1000000000 ∧ 0 < b ∧ b < 1000000000 ∧ Q (.int (Nat.lcm a b : Nat)) H
theorem ok_common_multiple (F : FunD K "common_multiple" "common_multiple" (defArgs s_common_multiple) (defBody s_common_multiple) (defScope s_common_multiple) [] [] f fd) (hb : ∀ x ∈ BB, mg x = none) (h1 : Fn P w K mg base "common_divisor" 2 spGcd) : FnR P w K mg base (L2.CX P w) 3 f spLcm := by
  refine fnr_of F sc_common_multiple (fun vs H Q E h => ?_) (fun kV doc pm an cdv ct us hl => match us, hl with | [_, _], _ => rfl) (fun x hx => hb x (by revert x; decide +kernel)) fun cd A outer s H vs Q E hr hc h => ?_
  · obtain ⟨a, b, rfl, _⟩ := h; rfl
  · obtain ⟨a, b, rfl, ha, ha2, hb1, hb2, q⟩ := h
    refine wl_start (σ' := [some (.int a), some (.int b)]) rfl (wl_cons ?_)
    walk_at "w"
    refine w_call hc (by walk_at "mb") h1 hr (by decide) passL ?_
    walk_at "w"
    refine ⟨a, b, rfl, ?_⟩
    have hg := Nat.gcd_le_left b ha
    have hg0 := Nat.gcd_pos_of_pos_left b ha
    refine b_fdiv (by omega) (by omega) ?_
    walk_at "w"
    have hd := Nat.div_le_self a (Nat.gcd a b)
    refine b_mul (mul_small (by omega) (by omega)) ?_
    have e : (a : Int) / (Nat.gcd a b : Nat) * (b : Nat) = ((Nat.lcm a b : Nat) : Int) := by
      rw [Nat.lcm, Nat.mul_comm a b, Nat.mul_div_assoc _ (Nat.gcd_dvd_left a b), Nat.mul_comm]
      simp
    rw [e]
    exact q
def spLimit : Sp := fun vs H Q _ => ∃ p : Nat, vs = [.int p] ∧ p ≤ 10000 ∧ Q .non H
theorem ok_check_limit (F : FunD K "check_limit" "check_limit" (defArgs s_check_limit) (defBody s_check_limit) (defScope s_check_limit) [] [] f fd) (hb : ∀ x ∈ BB, mg x = none) (SC : SvC K mg) : FnR P w K mg base (L2.CX P w) 2 f spLimit := by
  refine fnr_of F sc_check_limit (fun vs H Q E h => ?_) (fun kV doc pm an cdv ct us hl => match us, hl with | [_], _ => rfl) (fun x hx => hb x (by revert x; decide +kernel)) fun cd A outer s H vs Q E hr hc h => ?_
  · obtain ⟨a, rfl, _⟩ := h; rfl
  · obtain ⟨p, rfl, hp, q⟩ := h
    obtain ⟨u, hu⟩ := SC.lim
    refine wl_start (σ' := [some (.int p)]) rfl (wl_cons ?_)
    walk_at "w"
    refine w_gref hc (by walk_at "mb") SC.g ?_
    refine a_cval SC.rd hu ?_
    walk_at "w"
    rw [decide_eq_false (show ¬ (10000 : Int) < (p : Nat) by omega)]
    walk_at "w"
    exact q
def spSvFrom (K : PySem.W.Frag) : Sp := fun vs H Q _ => ∃ (a : Addr) (ns : List Int) (p : Nat), vs = [.ref a, .int (p : Nat)] ∧ SqL K H a (ns.map V.int) ∧ ns.length < 4090 ∧ 0 < p ∧ p ≤ 10000 ∧
  ((ns = [] ∧ Q .non H) ∨ ∃ f : Nat → Bool, ns ≠ [] ∧ Per f p ∧ (∃ i, f i = true) ∧ (∀ i, i < p → (ns.any (· == ((i : Nat) : Int))) = f i) ∧ ∀ b m H', Same H H' → (∀ n, kp m n = f n) → m.length ∣ p → SieveAt K H' b m → Q (.ref b) H')
theorem ok_sieve_from (F : FunD K "sieve_from" "sieve_from" (defArgs s_sieve_from) (defBody s_sieve_from) (defScope s_sieve_from) [] [] f fd) (hb : ∀ x ∈ BB, mg x = none) (SC : SvC K mg) (h1 : Fn P w K mg base "pattern_of" 3 (spPatOf K)) (h2 : Mkr P w K mg base (cS K) 4 (spSvInit K)) : FnR P w K mg base (L2.CX P w) 6 f (spSvFrom K) := by
  refine fnr_of F sc_sieve_from (fun vs H Q E h => ?_) (fun kV doc pm an cdv ct us hl => match us, hl with | [_, _], _ => rfl) (fun x hx => hb x (by revert x; decide +kernel)) fun cd A outer s H vs Q E hr hc h => ?_
  · obtain ⟨a, ns, p, rfl, _⟩ := h; rfl
  · obtain ⟨a, ns, p, rfl, hs, hn, hp0, hp, q⟩ := h
    refine wl_start (σ' := [some (.ref a), some (.int p)]) rfl (wl_cons ?_)
    walk_at "w"
    refine ⟨_, .inl ⟨_, hs, rfl⟩, ?_⟩
    rw [List.length_map]
    walk_at "w"
    rcases q with ⟨rfl, q⟩ | ⟨f, hne, hper, hex, hf, q⟩
    · refine if_dec (fun h => absurd h (by simp)) (fun _ => ?_)
      walk_at "w"
      exact q
    · have hl : 0 < ns.length := List.length_pos_iff.mpr hne
      rw [decide_eq_true (show (0 : Int) < (ns.length : Nat) by omega)]
      walk_at "w"
      refine w_make hc (by walk_at "mb") SC.g h2 hr (by decide) passL ?_
      walk_at "w"
      refine w_call hc (by walk_at "mb") h1 hr (by decide) passL ?_
      walk_at "w"
      refine ⟨a, ns, p, rfl, hs, hn, hp, fun H1 e1 => ?_⟩
      walk_at "w"
      have e : lof (fun i => ns.any (· == ((i : Nat) : Int))) p = lof f p := by
        unfold lof
        exact List.map_congr_left fun i hi => hf i (List.mem_range.mp hi)
      rw [e]
      refine made_sv ⟨⟨by rw [lof_len]; exact hp0, by rw [lof_len]; exact hp, ?_⟩, fun b m H' e2 gm km dm hs2 => ?_⟩
      · obtain ⟨i, hi⟩ := hex
        exact kp_plus (by rw [lof_len]; exact hp0) (i := i) (by rw [kp_lof hper hp0]; exact hi)
      · rw [lof_len] at dm
        exact q b m H' (e1.trans e2) (fun n => by rw [km, kp_lof hper hp0]) dm hs2

def spCompose (K : PySem.W.Frag) : Sp := fun vs H Q _ => ∃ (a b : Addr) (l m : List Bool), vs = [.ref a, .ref b] ∧ SieveAt K H a l ∧ SieveAt K H b m ∧ l.length * (Nat.lcm (ct (kp l) l.length) m.length / ct (kp l) l.length) ≤ 10000 ∧ ct (kp m) (Nat.lcm (ct (kp l) l.length) m.length) < 4090 ∧
  ∀ c r H', Same H H' → (∀ n, kp r n = cmp (kp l) (kp m) n) → r.length ∣ l.length * (Nat.lcm (ct (kp l) l.length) m.length / ct (kp l) l.length) → SieveAt K H' c r → Q (.ref c) H'
theorem ok_compose (F : FunD K "compose" "compose" (defArgs s_compose) (defBody s_compose) (defScope s_compose) [] [] f fd) (hb : ∀ x ∈ BB, mg x = none) (SC : SvC K mg) (h1 : Fn P w K mg base "common_multiple" 3 spLcm) (h2 : Fn P w K mg base "check_limit" 2 spLimit) (h3 : Fn P w K mg base "sieve_from" 6 (spSvFrom K))
    (h4 : Mth P w K mg base (cS K) "nth" 4 (spNth K)) (h5 : Mth P w K mg base (cS K) "is_kept" 4 (spKept K)) (h6 : SvP P w K mg base "size" (spSize K)) (h7 : SvP P w K mg base "period" (spPer K)) : FnR P w K mg base (L2.CX P w) 7 f (spCompose K) := by
  refine fnr_of F sc_compose (fun vs H Q E h => ?_) (fun kV doc pm an cdv ct us hl => match us, hl with | [_, _], _ => rfl) (fun x hx => hb x (by revert x; decide +kernel)) fun cd A outer s H vs Q E hr hc h => ?_
  · obtain ⟨a, b, l, m, rfl, _⟩ := h; rfl
  · obtain ⟨a, b, l, m, rfl, ha, hb2, hP, hcap, q⟩ := h
    have hz : sizeLine = 16777216 := sizeLine_eq
    have gl := ha.1
    have gm := hb2.1
    have l1 := gl.one
    have l2 := gl.most
    have m1 := gm.one
    have m2 := gm.most
    have s1 := gl.toPat.size
    have s2 := ct_le (kp l) l.length
    have hL0 : 0 < Nat.lcm (ct (kp l) l.length) m.length := Nat.lcm_pos s1 m1
    have hL2 : Nat.lcm (ct (kp l) l.length) m.length ≤ ct (kp l) l.length * m.length := Nat.le_of_dvd (Nat.mul_pos s1 m1) (Nat.lcm_dvd_mul _ _)
    have hL3 : ct (kp l) l.length * m.length ≤ 10000 * 10000 := Nat.mul_le_mul (by omega) m2
    have hd1 : ct (kp l) l.length ∣ Nat.lcm (ct (kp l) l.length) m.length := Nat.dvd_lcm_left _ _
    have hd2 : m.length ∣ Nat.lcm (ct (kp l) l.length) m.length := Nat.dvd_lcm_right _ _
    have hL4 : Nat.lcm (ct (kp l) l.length) m.length ≤ 10000 := by
      have e1 : ct (kp l) l.length * (Nat.lcm (ct (kp l) l.length) m.length / ct (kp l) l.length) = Nat.lcm (ct (kp l) l.length) m.length := Nat.mul_div_cancel' hd1
      have e2 := Nat.mul_le_mul_right (Nat.lcm (ct (kp l) l.length) m.length / ct (kp l) l.length) s2
      omega
    refine wl_start (σ' := [some (.ref a), some (.ref b), none, none, none]) rfl (wl_cons ?_)
    walk_at "w"
    refine w_call hc (by walk_at "mb") h1 hr (by decide) passL ?_
    walk_at "w"
    refine a_svp SC h6 hr (by decide) ha ⟨a, l, rfl, ha, ?_⟩
    walk_at "w"
    refine a_svp SC h7 hr (by decide) hb2 ⟨b, m, rfl, hb2, ?_⟩
    walk_at "w"
    refine ⟨_, _, rfl, s1, by omega, m1, by omega, ?_⟩
    walk_at "w"
    refine a_svp SC h7 hr (by decide) ha ⟨a, l, rfl, ha, ?_⟩
    walk_at "w"
    refine b_mul (mul_small (by omega) (by omega)) ?_
    walk_at "w"
    refine a_svp SC h6 hr (by decide) ha ⟨a, l, rfl, ha, ?_⟩
    refine b_fdiv (by omega) (by omega) ?_
    have eP : ((l.length : Nat) : Int) * (Nat.lcm (ct (kp l) l.length) m.length : Nat) / (ct (kp l) l.length : Nat) = ((l.length * (Nat.lcm (ct (kp l) l.length) m.length / ct (kp l) l.length) : Nat) : Int) := by
      rw [← Nat.mul_div_assoc _ hd1]; simp
    rw [eP]
    walk_at "w"
    refine w_call hc (by walk_at "mb") h2 hr (by decide) passL ?_
    walk_at "w"
    refine ⟨_, rfl, hP, ?_⟩
    walk_at "w"
    refine w_call hc (by walk_at "mb") h3 hr (by decide) passL ?_
    walk_at "w"
    refine w_lc hc (own := bO_compose_0) (by kernel_rfl) (fun i acc => ∃ ns : List Nat, acc = ns.map (fun n => V.int (n : Nat)) ∧ (∀ n, n ∈ ns ↔ kp l n = true ∧ ct (kp l) n < i ∧ kp m (ct (kp l) n) = true) ∧ ns.length = ct (kp m) i) ?_
    refine wi_range1 hc (by walk_at "mb") ?_
    walk_at "w"
    refine ⟨by omega, by omega, _, _, wlk_range, by omega, ⟨[], rfl, fun n => by simp, rfl⟩, fun i acc H' hi hl hP2 hS => ?_, fun acc D H' hl hP2 hD hS hDa => ?_⟩
    · obtain ⟨ns, rfl, hmem, hlen⟩ := hP2
      intro X1 b1
      have c1 := nm_blk (L' := bL_compose_0) (S' := bS_compose_0) (G' := bG_compose_0) (B' := bB_compose_0) b1 hc (by kernel_rfl) (fun x hx => nomatch hx)
      simp only [wipe, List.map_cons, List.map_nil, List.set_cons_succ, List.set_cons_zero]
      rw [show (0 : Int) + (i : Nat) = ((i : Nat) : Int) by omega]
      walk_at "w"
      refine ⟨rfl, rfl, ?_⟩
      intro X2 b2
      refine wts_one ?_
      have c2 := nm_blk (L' := bL_compose_0) (S' := bS_compose_0) (G' := bG_compose_0) (B' := bB_compose_0) b2 hc (by kernel_rfl) (fun x hx => nomatch hx)
      obtain ⟨_, _, _, _, _, rfl⟩ := b2
      walk_at "w"
      refine w_meth h5 hr (by decide) passL ?_
      walk_at "w"
      have hb3 := hb2.same hS
      have hb4 := hb3
      obtain ⟨_, dx, p, hi1, hi2⟩ := hb4
      refine ⟨_, _, _, rfl, hi1, rfl, ?_⟩
      walk_at "w"
      refine ⟨b, m, i, rfl, hb3, ?_⟩
      walk_at "w"
      refine ⟨Same.refl _, ?_⟩
      cases hk : kp m i with
      | false =>
        refine ite_f ⟨ns, rfl, fun n => ?_, by rw [ct_succ_f hk, hlen]⟩
        rw [hmem]
        constructor
        · rintro ⟨x, y, z⟩; exact ⟨x, by omega, z⟩
        · rintro ⟨x, y, z⟩
          refine ⟨x, ?_, z⟩
          by_cases e : ct (kp l) n = i
          · rw [e, hk] at z; cases z
          · omega
      | true =>
        refine ite_t ?_
        intro X3 b3
        have c3 := nm_blk (L' := bL_compose_0) (S' := bS_compose_0) (G' := bG_compose_0) (B' := bB_compose_0) b3 hc (by kernel_rfl) (fun x hx => nomatch hx)
        obtain ⟨_, _, _, _, _, rfl⟩ := b3
        refine w_meth h4 hr (by decide) passL ?_
        walk_at "w"
        have ha3 := ha.same hS
        have ha4 := ha3
        obtain ⟨_, dx, p, hi1, hi2⟩ := ha4
        refine ⟨_, _, _, rfl, hi1, rfl, ?_⟩
        walk_at "w"
        refine ⟨a, l, i, rfl, ha3, fun n H2 e2 hn1 hn2 => ⟨e2, ns ++ [n], by simp, fun k => ?_, by rw [ct_succ_t hk, ← hlen]; simp⟩⟩
        rw [List.mem_append, hmem, List.mem_singleton]
        constructor
        · rintro (⟨x, y, z⟩ | rfl)
          · exact ⟨x, by omega, z⟩
          · exact ⟨hn1, by omega, by rw [hn2]; exact hk⟩
        · rintro ⟨x, y, z⟩
          by_cases e : ct (kp l) k = i
          · right
            exact ct_inj x hn1 (by rw [e, hn2])
          · left
            exact ⟨x, by omega, z⟩
    · obtain ⟨ns, rfl, hmem, hlen⟩ := hP2
      walk_at "w"
      have hper := cmp_per (kp_per l) (kp_per m) s1 hd1 hd2
      have hex := cmp_ex (kp_per l) s1 (by obtain ⟨i, _, e⟩ := plus_kp gm.plus; exact ⟨i, e⟩)
      have hP0 : 0 < l.length * (Nat.lcm (ct (kp l) l.length) m.length / ct (kp l) l.length) := Nat.mul_pos l1 (Nat.div_pos (Nat.le_of_dvd hL0 hd1) s1)
      have htop := ct_top (kp_per l) hd1
      have hany : ∀ i, i < l.length * (Nat.lcm (ct (kp l) l.length) m.length / ct (kp l) l.length) → ((ns.map fun n => ((n : Nat) : Int)).any (· == ((i : Nat) : Int))) = cmp (kp l) (kp m) i := fun i hi => by
        have h8 : ((ns.map fun n => ((n : Nat) : Int)).any (· == ((i : Nat) : Int))) = true ↔ i ∈ ns := by
          rw [List.any_eq_true]
          constructor
          · rintro ⟨x, hx, e⟩
            obtain ⟨n, hn, rfl⟩ := List.mem_map.mp hx
            have e3 : ((n : Nat) : Int) = ((i : Nat) : Int) := eq_of_beq e
            have : n = i := by omega
            rw [← this]; exact hn
          · intro h
            exact ⟨_, List.mem_map.mpr ⟨i, h, rfl⟩, by simp⟩
        rw [Bool.eq_iff_iff, h8, hmem]
        unfold cmp
        rw [Bool.and_eq_true]
        constructor
        · rintro ⟨x, _, z⟩; exact ⟨x, z⟩
        · rintro ⟨x, z⟩
          refine ⟨x, ?_, z⟩
          have := ct_lt x hi
          rw [htop] at this
          simpa using this
      refine ⟨D, ns.map fun n => ((n : Nat) : Int), _, rfl, .inl (.inl (by rw [hDa, List.map_map]; rfl)), by rw [List.length_map, hlen]; simpa using hcap, hP0, hP, .inr ⟨cmp (kp l) (kp m), ?_, hper, hex, hany, fun c r H2 e2 hk hd hs => q c r H2 (hS.trans e2) hk hd hs⟩⟩
      intro z
      obtain ⟨n, hn⟩ := hex
      have h9 : cmp (kp l) (kp m) (n % (l.length * (Nat.lcm (ct (kp l) l.length) m.length / ct (kp l) l.length))) = true := by rw [hper.mod]; exact hn
      rw [← hany _ (Nat.mod_lt _ hP0), z] at h9
      cases h9
def spDens (K : PySem.W.Frag) : Sp := fun vs H Q _ => ∃ (a : Addr) (l : List Bool), vs = [.ref a] ∧ SieveAt K H a l ∧ ∀ T H', Same H H' → H' T = some (.tup [.int (ct (kp l) l.length / Nat.gcd (ct (kp l) l.length) l.length : Nat), .int (l.length / Nat.gcd (ct (kp l) l.length) l.length : Nat)]) → Q (.ref T) H'
theorem ok_density (F : FunD K "density" "density" (defArgs s_density) (defBody s_density) (defScope s_density) [] [] f fd) (hb : ∀ x ∈ BB, mg x = none) (SC : SvC K mg) (h1 : Fn P w K mg base "common_divisor" 2 spGcd) (h6 : SvP P w K mg base "size" (spSize K)) (h7 : SvP P w K mg base "period" (spPer K)) : FnR P w K mg base (L2.CX P w) 5 f (spDens K) := by
  refine fnr_of F sc_density (fun vs H Q E h => ?_) (fun kV doc pm an cdv ct us hl => match us, hl with | [_], _ => rfl) (fun x hx => hb x (by revert x; decide +kernel)) fun cd A outer s H vs Q E hr hc h => ?_
  · obtain ⟨a, l, rfl, _⟩ := h; rfl
  · obtain ⟨a, l, rfl, ha, q⟩ := h
    have gl := ha.1
    have l1 := gl.one
    have l2 := gl.most
    have s1 := gl.toPat.size
    have s2 := ct_le (kp l) l.length
    have hg := Nat.gcd_le_left l.length s1
    have hg0 := Nat.gcd_pos_of_pos_left l.length s1
    refine wl_start (σ' := [some (.ref a), none]) rfl (wl_cons ?_)
    walk_at "w"
    refine w_call hc (by walk_at "mb") h1 hr (by decide) passL ?_
    walk_at "w"
    refine a_svp SC h6 hr (by decide) ha ⟨a, l, rfl, ha, ?_⟩
    walk_at "w"
    refine a_svp SC h7 hr (by decide) ha ⟨a, l, rfl, ha, ?_⟩
    walk_at "w"
    refine ⟨_, _, rfl, ?_⟩
    walk_at "w"
    refine a_svp SC h6 hr (by decide) ha ⟨a, l, rfl, ha, ?_⟩
    walk_at "w"
    refine b_fdiv (by omega) (by omega) ?_
    walk_at "w"
    refine a_svp SC h7 hr (by decide) ha ⟨a, l, rfl, ha, ?_⟩
    walk_at "w"
    refine b_fdiv (by omega) (by omega) ?_
    walk_at "w"
    refine ⟨(by show 2 ≤ sizeLine; rw [sizeLine_eq]; decide), fun T H1 hT e1 hT1 => ?_⟩
    exact q T H1 e1 hT1

def spCPer (K : PySem.W.Frag) : Sp := fun vs H Q _ => ∃ (a b : Addr) (l m : List Bool), vs = [.ref a, .ref b] ∧ SieveAt K H a l ∧ SieveAt K H b m ∧ Nat.lcm l.length m.length ≤ 10000 ∧ Q (.int (Nat.lcm l.length m.length : Nat)) H
/-- a sieve of f, or None if there is nothing -/
def ResK (K : PySem.W.Frag) (H : Hp) (f : Nat → Bool) (p : Nat) (Q : VK) : Prop :=
  ((∀ n, f n = false) → ∀ H', Same H H' → Q .non H') ∧ ((∃ n, f n = true) → ∀ b m H', Same H H' → (∀ n, kp m n = f n) → m.length ∣ p → SieveAt K H' b m → Q (.ref b) H')
theorem ResK.mono {H H' : Hp} {f : Nat → Bool} {p : Nat} {Q : VK} (h : ResK K H f p Q) (e : Same H H') : ResK K H' f p Q := ⟨fun z H2 e2 => h.1 z H2 (e.trans e2), fun ex b m H2 e2 => h.2 ex b m H2 (e.trans e2)⟩
theorem svFrom_of {H : Hp} {D : Addr} {g : Nat → Bool} {p : Nat} {Q : VK} {E : XK} (hper : Per g p) (h0 : 0 < p) (hp : p ≤ 10000) (hD : SqL K H D (((sel g p).map fun n => ((n : Nat) : Int)).map V.int)) (hlen : ct g p < 4090) (q : ResK K H g p Q) : spSvFrom K [.ref D, .int (p : Nat)] H Q E := by
  refine ⟨D, _, p, rfl, hD, by rw [List.length_map, sel_len]; exact hlen, h0, hp, ?_⟩
  by_cases hx : ∃ n, g n = true
  · refine .inr ⟨g, fun z => ?_, hper, hx, fun i hi => sel_any g p hi, fun b m H' e hk hd hs => q.2 hx b m H' e hk hd hs⟩
    obtain ⟨n, hn⟩ := hx
    have h1 : n % p ∈ sel g p := sel_mem.mpr ⟨Nat.mod_lt _ h0, by rw [hper.mod]; exact hn⟩
    rw [List.map_eq_nil_iff] at z
    rw [z] at h1
    cases h1
  · have hf : ∀ n, g n = false := fun n => by
      cases e : g n with
      | false => rfl
      | true => exact absurd ⟨n, e⟩ hx
    refine .inl ⟨?_, q.1 hf H (Same.refl _)⟩
    rw [List.map_eq_nil_iff, ← List.length_eq_zero_iff, sel_len]
    have : ∀ n, ct g n = 0 := fun n => by
      induction n with
      | zero => rfl
      | succ n ih => rw [ct_succ_f (hf n), ih]
    exact this p
theorem per_or {f g : Nat → Bool} {a b : Nat} (o : Bool → Bool → Bool) (ha : Per f a) (hb : Per g b) : Per (fun n => o (f n) (g n)) (Nat.lcm a b) := fun i => by
  show o (f (i + _)) (g (i + _)) = _
  rw [ha.dvd (Nat.dvd_lcm_left a b), hb.dvd (Nat.dvd_lcm_right a b)]
def spSet2 (K : PySem.W.Frag) (o : Bool → Bool → Bool) : Sp := fun vs H Q _ => ∃ (a b : Addr) (l m : List Bool), vs = [.ref a, .ref b] ∧ SieveAt K H a l ∧ SieveAt K H b m ∧ Nat.lcm l.length m.length ≤ 10000 ∧ ct (fun n => o (kp l n) (kp m n)) (Nat.lcm l.length m.length) < 4090 ∧ ResK K H (fun n => o (kp l n) (kp m n)) (Nat.lcm l.length m.length) Q
def spCompl (K : PySem.W.Frag) : Sp := fun vs H Q _ => ∃ (a : Addr) (l : List Bool), vs = [.ref a] ∧ SieveAt K H a l ∧ l.length < 4090 ∧ ResK K H (fun n => !kp l n) l.length Q
def spShift (K : PySem.W.Frag) : Sp := fun vs H Q _ => ∃ (a : Addr) (l : List Bool) (off : Int), vs = [.ref a, .int off] ∧ SieveAt K H a l ∧ l.length < 4090 ∧ ∀ b m H', Same H H' → (∀ n : Nat, kp m n = kp l (((n : Int) + off) % (l.length : Int)).toNat) → m.length ∣ l.length → SieveAt K H' b m → Q (.ref b) H'
theorem shift_per (l : List Bool) (off : Int) : Per (fun n : Nat => kp l (((n : Int) + off) % (l.length : Int)).toNat) l.length := fun i => by
  show kp l ((((i + l.length : Nat) : Int) + off) % (l.length : Int)).toNat = _
  rw [show ((i + l.length : Nat) : Int) + off = ((i : Int) + off) + (l.length : Int) by omega, Int.add_emod_right]
theorem shift_ex {l : List Bool} (p : Pat l) (off : Int) : ∃ n : Nat, kp l (((n : Int) + off) % (l.length : Int)).toNat = true := by
  obtain ⟨i, hi, e⟩ := plus_kp p.plus
  have h0 := p.one
  refine ⟨(((i : Int) - off) % (l.length : Int)).toNat, ?_⟩
  rw [Int.toNat_of_nonneg (Int.emod_nonneg _ (by omega)), Int.emod_add_emod, show (i : Int) - off + off = (i : Int) by omega, Int.emod_eq_of_lt (by omega) (by omega)]
  simpa using e
abbrev cR (K : PySem.W.Frag) : Addr := He.ga K "Round"
abbrev cEv (K : PySem.W.Frag) : Addr := He.ga K "Every"
abbrev cBk (K : PySem.W.Frag) : Addr := He.ga K "Block"
structure ClF (K : PySem.W.Frag) (mg : Str → Option Value) (x : Str) (fl : List Str) : Prop where
  cls : Cls K (He.ga K x)
  na : ∀ f ∈ fl, NoAttr K (He.ga K x) f
  g : mg x = some (.ref (He.ga K x))
  ty : ∀ {H : Hp} {a dx : Addr} {fs : List (Str × V)}, H a = some (.ins (He.ga K x) dx fs) → TyX K H (.ref a) (.ref (He.ga K x))
/-- x kept, y struck -/
def blL (x y : Nat) : List Bool := List.replicate x true ++ List.replicate y false
theorem blL_len (x y : Nat) : (blL x y).length = x + y := by simp [blL]
theorem blL_pat {x y : Nat} (h : 1 ≤ x) (hz : x + y ≤ 10000) : Pat (blL x y) := by
  refine ⟨by rw [blL_len]; omega, by rw [blL_len]; omega, ?_⟩
  unfold blL
  exact List.mem_append_left _ (List.mem_replicate.mpr ⟨by omega, rfl⟩)
theorem flat_rep (b : Bool) (n : Nat) : (List.replicate n [b]).flatten = List.replicate n b := by
  induction n with
  | zero => rfl
  | succ n ih => rw [List.replicate_succ, List.flatten_cons, ih, List.replicate_succ]; rfl
theorem blL_txt (x y : Nat) : repS "+" x ++ repS "-" y = sOf (blL x y) := by
  have h1 : ("+" : Str) = sOf [true] := plus_sOf
  have h2 : ("-" : Str) = sOf [false] := minus_sOf
  rw [h1, h2, rep_sOf, rep_sOf, sOf_app, flat_rep, flat_rep]; rfl
theorem kp_blL {x y i : Nat} (h : i < x + y) : kp (blL x y) i = decide (i < x) := by
  rw [kp_lt (by rw [blL_len]; exact h)]
  unfold blL
  by_cases hi : i < x
  · rw [List.getElem_append_left (by simpa using hi), List.getElem_replicate, decide_eq_true hi]
  · rw [List.getElem_append_right (by simpa using Nat.le_of_not_lt hi), List.getElem_replicate, decide_eq_false hi]
theorem repS_len2 (x : Str) (n : Nat) : (repS x n).length = n * x.length := by
  show ((List.replicate n x.cps.toList).flatten.toArray).size = n * x.cps.size
  simp
theorem rep_one (x : Str) : repS x 1 = x := by
  apply str_ext
  show ((List.replicate 1 x.cps.toList).flatten.toArray).toList = _
  simp
/-- the own part of a round does not lie where the round does -/
theorem SieveAt.upd_own {H : Hp} {a p C dx : Addr} {m : List Bool} {o : HO} {v : V} (h : SieveAt K H p m) (ha : H a = some (.ins C dx [("own", v)])) : SieveAt K (upd H a o) p m := by
  obtain ⟨g, dx2, p2, h1, h2⟩ := h
  have n1 : p ≠ a := fun z => by
    rw [z, ha] at h1
    injection h1 with h1
    injection h1 with h3 h4 h5
    cases h5
  have n2 : p2 ≠ a := fun z => by
    rw [z, ha] at h2
    injection h2 with h2
    cases h2
  exact ⟨g, dx2, p2, by rw [upd_ne n1]; exact h1, by rw [upd_ne n2]; exact h2⟩
/-- with struck ones at its end it is the shortest -/
theorem blL_good {x y : Nat} (h : 1 ≤ x) (hy : 1 ≤ y) (hz : x + y ≤ 10000) : Good (blL x y) := by
  refine ⟨blL_pat h hz, fun d h0 h1 h2 h3 => ?_⟩
  rw [blL_len] at h1 h2
  have p : Per (kp (blL x y)) d := h3
  obtain ⟨q, hq⟩ := h2
  have q0 : 2 ≤ q := by
    rcases q with _ | _ | q
    · omega
    · omega
    · omega
  have e1 : kp (blL x y) (d - 1) = kp (blL x y) (x + y - 1) := by
    have : x + y - 1 = (d - 1) + (q - 1) * d := by
      have : d * q = (q - 1) * d + d := by
        rw [Nat.mul_comm d q]
        rcases q with _ | q
        · omega
        · rw [Nat.succ_mul]; rfl
      omega
    rw [this, p.mul]
  rw [kp_blL (by omega), kp_blL (by omega), decide_eq_false (show ¬ x + y - 1 < x by omega)] at e1
  have hd : ¬ d - 1 < x := of_decide_eq_false e1
  have e2 : kp (blL x y) (0 + d) = kp (blL x y) 0 := p 0
  rw [kp_blL (by omega), kp_blL (by omega), decide_eq_true (show 0 < x by omega)] at e2
  have := of_decide_eq_true e2
  omega
theorem blL_one {x : Nat} (h : 1 ≤ x) (n : Nat) : kp (blL x 0) n = kp [true] n := by
  have e : kp (blL x 0) n = kp (blL x 0) (n % x) := by
    have : Per (kp (blL x 0)) x := by
      have := kp_per (blL x 0)
      rwa [blL_len] at this
    exact (this.mod n).symm
  have hm : n % x < x := Nat.mod_lt _ h
  rw [e, kp_blL (by omega), decide_eq_true hm, kp_one]
def FrO (a : Addr) (H H' : Hp) : Prop := ∀ b o, b ≠ a → H b = some o → H' b = some o
def spRdInit (K : PySem.W.Frag) : Sp := fun vs H Q _ => ∃ (a C dx : Addr) (l : List Bool), vs = [.ref a, .str (sOf l)] ∧ Cls K C ∧ NoAttr K C "own" ∧ H a = some (.ins C dx []) ∧ Pat l ∧
  ∀ p m H', Good m → (∀ n, kp m n = kp l n) → m.length ∣ l.length → FrO a H H' → H' a = some (.ins C dx [("own", .ref p)]) → SieveAt K H' p m → Q .non H'
theorem ok_Round___init__ (F : FunD K "__init__" "Round.__init__" (defArgs s_Round___init__) (defBody s_Round___init__) (defScope s_Round___init__) [] [] f fd) (hb : ∀ x ∈ BB, mg x = none) (SC : SvC K mg) (h2 : Mkr P w K mg base (cS K) 4 (spSvInit K)) : FnR P w K mg base (L2.CX P w) 6 f (spRdInit K) := by
  refine fnr_of F sc_Round___init__ (fun vs H Q E h => ?_) (fun kV doc pm an cdv ct us hl => match us, hl with | [_, _], _ => rfl) (fun x hx => hb x (by revert x; decide +kernel)) fun cd A outer s H vs Q E hr hc h => ?_
  · obtain ⟨a, C, dx, l, rfl, _⟩ := h; rfl
  · obtain ⟨a, C, dx, l, rfl, hC, hn, ha, p, q⟩ := h
    refine wl_start (σ' := [some (.ref a), some (.str (sOf l))]) rfl (wl_cons ?_)
    refine ws_fld ?_
    refine w_make hc (by walk_at "mb") SC.g h2 hr (by decide) passL ?_
    walk_at "w"
    refine made_sv ⟨p, fun b m H' e gm km dm hs => ?_⟩
    walk_at "w"
    have hab : b ≠ a := fun z => by
      obtain ⟨_, dx2, p2, h1, _⟩ := hs
      rw [z, e _ _ ha] at h1
      injection h1 with h1
      injection h1 with h3 h4 h5
      cases h5
    refine ⟨a, _, _, _, rfl, e _ _ ha, hC, hn, by decide, ?_⟩
    walk_at "w"
    refine q b m _ gm km dm (fun c o hc ho => by rw [upd_ne hc]; exact e _ _ ho) upd_same ?_
    obtain ⟨g, dx2, p2, h1, h2⟩ := hs
    have hp2 : p2 ≠ a := fun z => by
      rw [z, e _ _ ha] at h2
      injection h2 with h2
      cases h2
    exact ⟨g, dx2, p2, by rw [upd_ne hab]; exact h1, by rw [upd_ne hp2]; exact h2⟩
/-- what a class of rounds brings -/
structure RCl (P : Program) (w : World) (K : PySem.W.Frag) (mg : Str → Option Value) (base : Heap) (C : Addr) : Prop where
  cls : Cls K C
  na : NoAttr K C "own"
  isR : ∀ {H : Hp} {a dx : Addr} {fs : List (Str × V)}, H a = some (.ins C dx fs) → ∃ t, TyX K H (.ref a) t ∧ PySem.W.kitOne K t (.ref (cR K)) = some true
  sv : ∃ p g, PropOf K C "sieve" p g ∧ FnR P w K mg base (L2.CX P w) 3 g fun vs H Q _ => ∃ (a C dx : Addr) (fs : List (Str × V)) (v : V), vs = [.ref a] ∧ Cls K C ∧ NoAttr K C "own" ∧ H a = some (.ins C dx fs) ∧ fs.lookup ("own" : Str) = some v ∧ Q v H
def spRdSv (K : PySem.W.Frag) : Sp := fun vs H Q _ => ∃ (a C dx : Addr) (fs : List (Str × V)) (v : V), vs = [.ref a] ∧ Cls K C ∧ NoAttr K C "own" ∧ H a = some (.ins C dx fs) ∧ fs.lookup ("own" : Str) = some v ∧ Q v H
theorem ok_Round_sieve (F : FunD K "sieve" "Round.sieve" (defArgs s_Round_sieve) (defBody s_Round_sieve) (defScope s_Round_sieve) [] [] f fd) (hb : ∀ x ∈ BB, mg x = none) : FnR P w K mg base (L2.CX P w) 3 f (spRdSv K) := by
  refine FnR.mono (fnr_of (k := 1) F sc_Round_sieve (fun vs H Q E h => ?_) (fun kV doc pm an cdv ct us hl => match us, hl with | [_], _ => rfl) (fun x hx => hb x (by revert x; decide +kernel)) fun cd A outer s H vs Q E hr hc h => ?_) (by decide)
  · obtain ⟨a, C, dx, fs, v, rfl, _⟩ := h; rfl
  · obtain ⟨a, C, dx, fs, v, rfl, hC, hn, ha, hl, q⟩ := h
    refine wl_start (σ' := [some (.ref a)]) rfl (wl_cons ?_)
    walk_at "w"
    refine a_fld hC hn ha hl ?_
    exact q
def RdAt (P : Program) (w : World) (K : PySem.W.Frag) (mg : Str → Option Value) (base : Heap) (H : Hp) (a : Addr) (l : List Bool) : Prop :=
  ∃ C dx fs p, H a = some (.ins C dx fs) ∧ RCl P w K mg base C ∧ fs.lookup ("own" : Str) = some (.ref p) ∧ SieveAt K H p l
theorem RdAt.same {H H' : Hp} {a : Addr} {l : List Bool} (h : RdAt P w K mg base H a l) (e : Same H H') : RdAt P w K mg base H' a l := by
  obtain ⟨C, dx, fs, p, h1, h2, h3, h4⟩ := h
  exact ⟨C, dx, fs, p, e _ _ h1, h2, h3, h4.same e⟩
/-- o.sieve of a round -/
theorem a_rsv {X : Cx} {σ : L2.St} {H : Hp} {Q : VK} {j : Nat} {a : Addr} {l : List Bool} (hr : Room j X.A) (hj : 4 ≤ j) (h : RdAt X.prog X.w X.K X.mg X.base H a l) (q : ∀ p, SieveAt X.K H p l → Q (.ref p) H) : WAt X (.ref a) "sieve" σ H Q := by
  obtain ⟨C, dx, fs, p, h1, h2, h3, h4⟩ := h
  obtain ⟨p2, g, hp, F⟩ := h2.sv
  exact a_prop (E := E0) h2.cls hp F (hr.mono hj) h1 ⟨a, C, dx, fs, _, rfl, h2.cls, h2.na, h1, h3, q p h4⟩
def spRdDesc (K : PySem.W.Frag) : Sp := fun vs H Q _ => ∃ (a C dx : Addr) (fs : List (Str × V)) (p : Addr) (m : List Bool), vs = [.ref a] ∧ Cls K C ∧ NoAttr K C "own" ∧ H a = some (.ins C dx fs) ∧ fs.lookup ("own" : Str) = some (.ref p) ∧ SieveAt K H p m ∧
  ∀ t H', Same H H' → H' t = some (.tup [.str (sOf m)]) → Q (.ref t) H'
def spEvInit (K : PySem.W.Frag) : Sp := fun vs H Q _ => ∃ (a dx : Addr) (k : Nat), vs = [.ref a, .int (k : Nat)] ∧ H a = some (.ins (cEv K) dx []) ∧ 2 ≤ k ∧ k ≤ 60 ∧
  ∀ p H', FrO a H H' → H' a = some (.ins (cEv K) dx [("own", .ref p), ("step", .int (k : Nat))]) → SieveAt K H' p (blL (k - 1) 1) → Q .non H'
theorem ok_Every___init__ (F : FunX P K "__init__" "Every.__init__" (defArgs s_Every___init__) (defBody s_Every___init__) (defScope s_Every___init__) (He.ga K "Every") f) (hb : ∀ x ∈ BB, mg x = none) (htop : (P.main.scope.names.lookup ("super" : Str)).isSome = false) (EC : ClF K mg "Every" ["step", "own"])
    (er : ClX.CRead K (He.ga K "Every") (.type "type")) (ev : ∃ u, ClX.CVal K (He.ga K "Every") (.type "type") "MOST" (.int 60) u) (h1 : Fn P w K mg base "is_integer" 2 (spIsInt K)) (SU : SupF K (He.ga K "Every") (He.ga K "Every") "__init__" (He.ma K (He.ga K "Round") "__init__")) (h2 : FnR P w K mg base (L2.CX P w) 6 (He.ma K (He.ga K "Round") "__init__") (spRdInit K)) : FnR P w K mg base (L2.CX P w) 7 f (spEvInit K) := by
  refine fnr_x (self := "self") F sc_Every___init__ htop (by decide +kernel) (fun vs H Q E h => ?_) (fun kV doc pm an cdv ct cc us hl => match us, hl with | [_, _], _ => rfl) (fun x hx => hb x (by revert x; decide +kernel)) fun cda cc A outer s H vs Q E hr hc U h => ?_
  · obtain ⟨a, dx, k, rfl, _⟩ := h; rfl
  · obtain ⟨a, dx, k, rfl, ha, k1, k2, q⟩ := h
    have hz : sizeLine = 16777216 := sizeLine_eq
    obtain ⟨u, hu⟩ := ev
    refine wla_start (σ' := [some (.ref a), some (.int (k : Nat)), none]) rfl (wla_cons (wsa_of ?_))
    walk_at "w"
    refine w_call hc (by walk_at "mb") h1 hr (by decide) passL ?_
    walk_at "w"
    refine ⟨_, 2, .inl rfl, .inl ⟨_, rfl, ?_⟩⟩
    rw [decide_eq_true (show (2 : Int) ≤ (k : Nat) by omega)]
    walk_at "w"
    refine w_gref hc (by walk_at "mb") EC.g ?_
    refine a_cval er hu ?_
    walk_at "w"
    rw [decide_eq_false (show ¬ (60 : Int) < (k : Nat) by omega)]
    walk_at "w"
    refine wla_cons (wsa_expr ?_)
    refine wea_super hc U SU EC.cls h2 hr (by decide) passL (by walk_at "mb") (by walk_at "mb") (by walk_at "at") ha ?_
    walk_at "w"
    refine b_mulS (by omega) (by omega) (by rw [show ((k : Nat) - 1 : Int).toNat = k - 1 by omega, show ("+" : Str).length = 1 by decide]; omega) ?_
    walk_at "w"
    rw [show ((k : Nat) - 1 : Int).toNat = k - 1 by omega]
    refine b_addS (by rw [repS_len2, show ("+" : Str).length = 1 by decide, show ("-" : Str).length = 1 by decide]; omega) ?_
    have et : repS "+" (k - 1) ++ "-" = sOf (blL (k - 1) 1) := by rw [← blL_txt, rep_one]
    rw [et]
    walk_at "w"
    have hg := blL_good (x := k - 1) (y := 1) (by omega) (by omega) (by omega)
    refine ⟨a, _, dx, _, rfl, EC.cls, EC.na _ (by simp), ha, hg.toPat, fun p m H' gm km dm hf hi hs => ?_⟩
    obtain rfl : m = blL (k - 1) 1 := gm.uniq hg km
    refine wla_of (wl_cons ?_)
    refine ws_fld ?_
    walk_at "w"
    refine ⟨a, _, _, _, rfl, hi, EC.cls, EC.na _ (by simp), (by show 1 < 1000; decide), ?_⟩
    walk_at "w"
    refine q p _ (fun b o hb2 ho => by rw [upd_ne hb2]; exact hf b o hb2 ho) upd_same ?_
    exact hs.upd_own hi
def spEvNum (K : PySem.W.Frag) : Sp := fun vs H Q _ => ∃ (a dx p : Addr) (k : Nat), vs = [.ref a] ∧ H a = some (.ins (cEv K) dx [("own", .ref p), ("step", .int (k : Nat))]) ∧ Q (.int (k : Nat)) H
theorem ok_Every_number (F : FunD K "number" "Every.number" (defArgs s_Every_number) (defBody s_Every_number) (defScope s_Every_number) [] [] f fd) (hb : ∀ x ∈ BB, mg x = none) (EC : ClF K mg "Every" ["step", "own"]) : FnR P w K mg base (L2.CX P w) 3 f (spEvNum K) := by
  refine FnR.mono (fnr_of (k := 1) F sc_Every_number (fun vs H Q E h => ?_) (fun kV doc pm an cdv ct us hl => match us, hl with | [_], _ => rfl) (fun x hx => hb x (by revert x; decide +kernel)) fun cd A outer s H vs Q E hr hc h => ?_) (by decide)
  · obtain ⟨a, dx, p, k, rfl, _⟩ := h; rfl
  · obtain ⟨a, dx, p, k, rfl, ha, q⟩ := h
    refine wl_start (σ' := [some (.ref a)]) rfl (wl_cons ?_)
    walk_at "w"
    refine a_fld EC.cls (EC.na _ (by simp)) ha rfl ?_
    exact q
def spEvDesc (K : PySem.W.Frag) : Sp := fun vs H Q _ => ∃ (a dx p : Addr) (k : Nat) (m : List Bool), vs = [.ref a] ∧ H a = some (.ins (cEv K) dx [("own", .ref p), ("step", .int (k : Nat))]) ∧ SieveAt K H p m ∧
  ∀ t H', Same H H' → H' t = some (.tup [.str "every", .int (k : Nat), .str (sOf m)]) → Q (.ref t) H'
def spBkInit (K : PySem.W.Frag) : Sp := fun vs H Q _ => ∃ (a dx : Addr) (x y : Nat), vs = [.ref a, .int (x : Nat), .int (y : Nat)] ∧ H a = some (.ins (cBk K) dx []) ∧ 1 ≤ x ∧ x ≤ 60 ∧ y ≤ 60 ∧
  ∀ p t m H', FrO a H H' → H' a = some (.ins (cBk K) dx [("own", .ref p), ("sizes", .ref t)]) → H' t = some (.tup [.int (x : Nat), .int (y : Nat)]) → Good m → (∀ n, kp m n = kp (blL x y) n) → SieveAt K H' p m → Q .non H'
def spBkDesc (K : PySem.W.Frag) : Sp := fun vs H Q _ => ∃ (a dx p t : Addr) (x y : Nat) (m : List Bool), vs = [.ref a] ∧ H a = some (.ins (cBk K) dx [("own", .ref p), ("sizes", .ref t)]) ∧ H t = some (.tup [.int (x : Nat), .int (y : Nat)]) ∧ SieveAt K H p m ∧
  ∀ t H', Same H H' → H' t = some (.tup [.str "block", .int (x : Nat), .int (y : Nat), .str (sOf m)]) → Q (.ref t) H'
def spChkR (P : Program) (w : World) (K : PySem.W.Frag) (mg : Str → Option Value) (base : Heap) : Sp := fun vs H Q _ => ∃ (t : Addr) (rs : List Addr), vs = [.ref t] ∧ SqT K H t (rs.map V.ref) ∧ (∀ a ∈ rs, ∃ l, RdAt P w K mg base H a l) ∧ Q .non H
theorem ok_check_rounds (F : FunD K "check_rounds" "check_rounds" (defArgs s_check_rounds) (defBody s_check_rounds) (defScope s_check_rounds) [] [] f fd) (hb : ∀ x ∈ BB, mg x = none) (gR : mg "Round" = some (.ref (cR K))) : FnR P w K mg base (L2.CX P w) 2 f (spChkR P w K mg base) := by
  refine fnr_of F sc_check_rounds (fun vs H Q E h => ?_) (fun kV doc pm an cdv ct us hl => match us, hl with | [_], _ => rfl) (fun x hx => hb x (by revert x; decide +kernel)) fun cd A outer s H vs Q E hr hc h => ?_
  · obtain ⟨t, rs, rfl, _⟩ := h; rfl
  · obtain ⟨t, rs, rfl, ht, hrs, q⟩ := h
    refine wl_start (σ' := [some (.ref t), none]) rfl (wl_cons ?_)
    refine ws_for owns_cx hc ?_
    refine wi_tup ?_
    walk_at "w"
    refine ⟨t, _, rfl, ht, _, _, wlk_tup ht, fun i σ' H' => H' = H ∧ ∃ o, σ' = [some (.ref t), o], ⟨rfl, _, rfl⟩, fun i σ' H' ⟨h, _⟩ => by rw [h]; exact Same.refl _, fun i σ' H' hi ⟨hH, o, hσ⟩ => ?_, fun σ' H' ⟨hH, o, hσ⟩ => ?_⟩
    · subst hH hσ
      rw [List.length_map] at hi
      have e : (rs.map V.ref).getD i .non = .ref (rs[i]'hi) := by rw [List.getD_eq_getElem?_getD, List.getElem?_map, List.getElem?_eq_getElem hi]; rfl
      rw [e]
      refine wg_name hc (by walk_at "put") (by walk_at "mb") ?_
      walk_at "go"
      walk_at "w"
      obtain ⟨l, C, dx, fs, p, h1, h2, h3, h4⟩ := hrs _ (List.getElem_mem hi)
      obtain ⟨ty, ht1, ht2⟩ := h2.isR h1
      refine x_isiC hc (by walk_at "mb") (by walk_at "mb") gR ?_
      walk_at "w"
      refine ⟨ty, true, ht1, ht2, ?_⟩
      walk_at "w"
      exact ⟨rfl, _, rfl⟩
    · subst hH hσ
      walk_at "w"
      exact q
abbrev cRow (K : PySem.W.Frag) : Addr := He.ga K "Row"
/-- what stands at a is no part of a sieve or of a round -/
structure Oth (H : Hp) (a : Addr) : Prop where
  ins : ∀ C dx fs, H a = some (.ins C dx fs) → fs.lookup ("text" : Str) = none ∧ fs.lookup ("own" : Str) = none
  lst : ∀ xs, H a = some (.lst xs) → ∀ x ∈ xs, ∃ r, x = V.ref r
def Fr (a : Addr) (H H' : Hp) : Prop := ∀ b o, b ≠ a → H b = some o → H' b = some o
theorem Fr.of {a : Addr} {H H' : Hp} (h : Same H H') : Fr a H H' := fun b o _ e => h b o e
theorem Fr.trans {a : Addr} {H H1 H2 : Hp} (h : Fr a H H1) (k : Fr a H1 H2) : Fr a H H2 := fun b o n e => k b o n (h b o n e)
theorem Fr.upd {a : Addr} {H : Hp} {o : HO} : Fr a H (upd H a o) := fun b u n e => by rw [upd_ne n]; exact e
theorem SieveAt.frame {a b : Addr} {H H' : Hp} {l : List Bool} (h : SieveAt K H b l) (f : Fr a H H') (o : Oth H a) : SieveAt K H' b l := by
  obtain ⟨g, dx, p, h1, h2⟩ := h
  refine ⟨g, dx, p, f _ _ (fun z => ?_) h1, f _ _ (fun z => ?_) h2⟩
  · rw [z] at h1
    have := (o.ins _ _ _ h1).1
    have e : some (V.str (sOf l)) = none := this
    cases e
  · rw [z] at h2
    have hm : 0 < (marks l).length := by rw [marks_len]; exact g.toPat.size
    cases e : marks l with
    | nil => rw [e] at hm; exact absurd hm (by decide)
    | cons x r =>
      obtain ⟨r2, hr⟩ := o.lst _ h2 (V.int (x : Nat)) (by rw [e]; simp)
      cases hr
theorem RdAt.frame {a b : Addr} {H H' : Hp} {l : List Bool} (h : RdAt P w K mg base H b l) (f : Fr a H H') (o : Oth H a) : RdAt P w K mg base H' b l := by
  obtain ⟨C, dx, fs, p, h1, h2, h3, h4⟩ := h
  refine ⟨C, dx, fs, p, f _ _ (fun z => ?_) h1, h2, h3, h4.frame f o⟩
  rw [z] at h1
  rw [(o.ins _ _ _ h1).2] at h3
  cases h3
def CompOk (l m : List Bool) : Prop := l.length * (Nat.lcm (ct (kp l) l.length) m.length / ct (kp l) l.length) ≤ 10000 ∧ ct (kp m) (Nat.lcm (ct (kp l) l.length) m.length) < 4090
def stg (ls : List (List Bool)) : Nat → Nat → Bool
  | 0 => fun _ => true
  | i + 1 => cmp (stg ls i) (kp (ls.getD i []))
structure Stages (K : PySem.W.Frag) (H : Hp) (ls : List (List Bool)) (n : Nat) (qs : List Addr) (ms : List (List Bool)) : Prop where
  l1 : qs.length = n + 1
  l2 : ms.length = n + 1
  at_ : ∀ i, i ≤ n → SieveAt K H (qs.getD i 0) (ms.getD i [])
  kp_ : ∀ i, i ≤ n → ∀ k, kp (ms.getD i []) k = stg ls i k
theorem Stages.mono {H H' : Hp} {ls : List (List Bool)} {n : Nat} {qs : List Addr} {ms : List (List Bool)} (h : Stages K H ls n qs ms) (k : ∀ b l, SieveAt K H b l → SieveAt K H' b l) : Stages K H' ls n qs ms := ⟨h.l1, h.l2, fun i hi => k _ _ (h.at_ i hi), h.kp_⟩
def RowAt (K : PySem.W.Frag) (H : Hp) (a : Addr) (rs : List Addr) (ls : List (List Bool)) : Prop := ∃ dx t p qs ms, H a = some (.ins (cRow K) dx [("parts", .ref t), ("stages", .ref p)]) ∧ H t = some (.tup (rs.map V.ref)) ∧ H p = some (.lst (qs.map V.ref)) ∧ Stages K H ls rs.length qs ms
theorem RowAt.same {H H' : Hp} {a : Addr} {rs : List Addr} {ls : List (List Bool)} (h : RowAt K H a rs ls) (e : Same H H') : RowAt K H' a rs ls := by
  obtain ⟨dx, t, p, qs, ms, h1, h2, h3, h4⟩ := h
  exact ⟨dx, t, p, qs, ms, e _ _ h1, e _ _ h2, e _ _ h3, h4.mono fun b l h => h.same e⟩
def spRowI (P : Program) (w : World) (K : PySem.W.Frag) (mg : Str → Option Value) (base : Heap) : Sp := fun vs H Q _ => ∃ (a dx t : Addr) (rs : List Addr) (ls : List (List Bool)), vs = [.ref a, .ref t] ∧ H a = some (.ins (cRow K) dx []) ∧ H t = some (.tup (rs.map V.ref)) ∧ rs.length < 10000 ∧ (∀ i, i < rs.length → RdAt P w K mg base H (rs.getD i 0) (ls.getD i [])) ∧
  (∀ i, i < rs.length → ∀ m, Good m → (∀ k, kp m k = stg ls i k) → CompOk m (ls.getD i [])) ∧ ∀ H', Fr a H H' → RowAt K H' a rs ls → Q .non H'
theorem ok_Row___init__ (F : FunD K "__init__" "Row.__init__" (defArgs s_Row___init__) (defBody s_Row___init__) (defScope s_Row___init__) [] [] f fd) (hb : ∀ x ∈ BB, mg x = none) (SC : SvC K mg) (RC : ClF K mg "Row" ["parts", "stages"]) (h1 : Fn P w K mg base "check_rounds" 2 (spChkR P w K mg base)) (h2 : CMt P w K mg base (cS K) "everything" 6 (spEvery K)) (h3 : Fn P w K mg base "compose" 7 (spCompose K)) :
    FnR P w K mg base (L2.CX P w) 8 f (fun vs H Q E => ∃ ws rest, vs = ws ++ rest ∧ ws.length = 1 ∧ rest.length ≤ sizeLine ∧ ∀ p, H p = Option.none → spRowI P w K mg base (ws ++ [V.ref p]) (upd H p (.tup rest)) Q E) := by
  refine fnr_star (ps := ["self"]) (pv := "rounds") F sc_Row___init__ (fun kV doc pm an cdv ct us rest hl => match us, rest, hl with | [_], [], _ => rfl | [_], _ :: _, _ => rfl) (fun x hx => hb x (by revert x; decide +kernel)) fun cd A outer s H vs Q E hr hc h => ?_
  obtain ⟨a, dx, t, rs, ls, rfl, ha, ht, hrl, hrs, hlim, q⟩ := h
  have hz : sizeLine = 16777216 := sizeLine_eq
  refine wl_start (σ' := [some (.ref a), some (.ref t), none]) rfl (wl_cons ?_)
  walk_at "w"
  refine w_call hc (by walk_at "mb") h1 hr (by decide) passL ?_
  walk_at "w"
  refine ⟨t, rs, rfl, .inl (.inl ht), fun b hb2 => ?_, ?_⟩
  · obtain ⟨i, hi, e⟩ := List.getElem_of_mem hb2
    have := hrs i hi
    rw [List.getD_eq_getElem?_getD, List.getElem?_eq_getElem hi] at this
    rw [← e]
    exact ⟨_, this⟩
  walk_at "w"
  refine ws_fld ?_
  walk_at "w"
  refine ⟨a, _, _, _, rfl, ha, RC.cls, RC.na _ (by simp), by decide, ?_⟩
  walk_at "w"
  refine ws_fld ?_
  walk_at "w"
  refine w_cmeth0 h2 hr (by decide) passL ?_
  refine w_gref hc (by walk_at "mb") SC.g ⟨rfl, rfl, fun e H2 e2 hs2 => ?_⟩
  walk_at "w"
  refine ⟨(by show 1 ≤ sizeLine; omega), fun p H3 hp e3 hp3 => ?_⟩
  walk_at "w"
  refine ⟨a, _, _, _, rfl, e3 _ _ (e2 _ _ upd_same), RC.cls, RC.na _ (by simp), (by show 1 < 1000; decide), ?_⟩
  have oa : Oth H a := ⟨fun C d fs e => by rw [ha] at e; injection e with e; injection e with e4 e5 e6; rw [← e6]; exact ⟨rfl, rfl⟩, fun xs e => by rw [ha] at e; injection e with e; cases e⟩
  have oa3 : Oth H3 a := ⟨fun C d fs e => by rw [e3 _ _ (e2 _ _ upd_same)] at e; injection e with e; injection e with e4 e5 e6; rw [← e6]; exact ⟨rfl, rfl⟩, fun xs e => by rw [e3 _ _ (e2 _ _ upd_same)] at e; injection e with e; cases e⟩
  have fr3 : Fr a H (upd H3 a (.ins (cRow K) dx [("parts", .ref t), ("stages", .ref p)])) := (Fr.upd.trans ((Fr.of e2).trans (Fr.of e3))).trans Fr.upd
  have hpa : p ≠ a := fun z => by rw [z, e2 _ _ upd_same] at hp; cases hp
  have hta : t ≠ a := fun z => by rw [z, ha] at ht; cases ht
  have hHt : H p = none := by
    cases e : H p with
    | none => rfl
    | some o =>
      have := e2 _ _ (Fr.upd (o := .ins (cRow K) dx (putF ("parts" : Str) (.ref t) [])) p o hpa e)
      rw [hp] at this; cases this
  have htp : t ≠ p := fun z => by rw [z, hHt] at ht; cases ht
  walk_at "w"
  refine ws_forM owns_cx hc ?_
  refine wi_tup ?_
  walk_at "w"
  refine ⟨t, _, rfl, .inl (.inl (fr3 _ _ hta ht)), _, _, one H t, wlk_tup (.inl (.inl (one_at ht))), fun i σ' H' => (∃ o, σ' = [some (.ref a), some (.ref t), o]) ∧ (∀ b o, b ≠ a → b ≠ p → H b = some o → H' b = some o) ∧ H' a = some (.ins (cRow K) dx [("parts", .ref t), ("stages", .ref p)]) ∧ ∃ qs ms, H' p = some (.lst (qs.map V.ref)) ∧ Stages K H' ls i qs ms,
    ⟨⟨_, rfl⟩, fun b o n1 n2 e => fr3 b o n1 e, upd_same, [e], [[true]], by rw [upd_ne hpa]; exact hp3, rfl, rfl, fun i hi => ?_, fun i hi k => ?_⟩, fun i σ' H' h => one_same fun o ho => h.2.1 t o hta htp ho, fun i σ' H' hi ⟨⟨o, hσ⟩, hfr, haa, qs, ms, hqs, hst⟩ => ?_, fun σ' H' ⟨⟨o, hσ⟩, hfr, haa, qs, ms, hqs, hst⟩ => ?_⟩
  · have e0 : i = 0 := by omega
    subst e0
    exact (hs2.same e3).frame Fr.upd oa3
  · have e0 : i = 0 := by omega
    subst e0
    show kp [true] k = true
    unfold kp
    rw [show k % [true].length = 0 from Nat.mod_one k]; rfl
  · subst hσ
    rw [List.length_map] at hi
    have e9 : (rs.map V.ref).getD i .non = .ref (rs.getD i 0) := by
      rw [List.getD_eq_getElem?_getD, List.getElem?_map, List.getElem?_eq_getElem hi, List.getD_eq_getElem?_getD, List.getElem?_eq_getElem hi]; rfl
    rw [e9]
    refine wg_name hc (by walk_at "put") (by walk_at "mb") ?_
    walk_at "go"
    refine ws_expr ?_
    refine w_append ?_
    walk_at "w"
    refine a_fld RC.cls (RC.na _ (by simp)) haa rfl ?_
    refine ⟨p, rfl, ⟨_, .inl (.inl hqs)⟩, ?_⟩
    refine w_call hc (by walk_at "mb") h3 hr (by decide) passL ?_
    walk_at "w"
    refine a_fld RC.cls (RC.na _ (by simp)) haa rfl ?_
    walk_at "w"
    have e10 : atI (qs.map V.ref) (-1) = some (.ref (qs.getD i 0)) := by
      unfold atI ixN
      rw [List.length_map, hst.l1, if_neg (by omega), if_pos (by omega)]
      show (qs.map V.ref)[((-1 : Int) + ((i + 1 : Nat) : Int)).toNat]? = _
      rw [show ((-1 : Int) + ((i + 1 : Nat) : Int)).toNat = i by omega, List.getElem?_map, List.getD_eq_getElem?_getD, List.getElem?_eq_getElem (by have := hst.l1; omega)]; rfl
    refine ix_l (.inl (.inl hqs)) e10 ?_
    walk_at "w"
    have hrd : RdAt P w K mg base H' (rs.getD i 0) (ls.getD i []) := by
      have oH : Oth H a := oa
      have f1 : Fr a H (upd (fun b => if b = p then none else H' b) p (.lst [])) := fun b o n e => by
        by_cases z : b = p
        · rw [z, hHt] at e; cases e
        · rw [upd_ne z, if_neg z]; exact hfr b o n z e
      have h9 := (hrs i hi).frame f1 oa
      have f2 : Fr p (upd (fun b => if b = p then none else H' b) p (.lst [])) H' := fun b o n e => by
        rw [upd_ne n] at e
        simpa [n] using e
      refine h9.frame f2 ⟨fun C d fs e => ?_, fun xs e => ?_⟩
      · rw [upd_same] at e; cases e
      · rw [upd_same] at e; injection e with e; injection e with e; rw [← e]; intro x hx; cases hx
    refine a_rsv hr (by decide) hrd fun p2 hs4 => ?_
    have hsi := hst.at_ i (Nat.le_refl _)
    have hok := hlim i hi _ hsi.1 (hst.kp_ i (Nat.le_refl _))
    refine wa_nil ?_
    refine ⟨_, p2, _, _, rfl, hsi, hs4, hok.1, hok.2, fun c r H5 e5 hk hd hs5 => ?_⟩
    refine ⟨_, e5 _ _ hqs, by rw [List.length_map, hst.l1]; omega, ?_⟩
    walk_at "w"
    have op : Oth H5 p := by
      refine ⟨fun C d fs e => ?_, fun xs e => ?_⟩
      · rw [e5 _ _ hqs] at e
        cases e
      · rw [e5 _ _ hqs] at e
        injection e with e
        injection e with e
        rw [← e]
        intro x hx
        obtain ⟨r2, _, e⟩ := List.mem_map.mp hx
        exact ⟨r2, e.symm⟩
    refine ⟨⟨_, rfl⟩, fun b o n1 n2 e => by rw [upd_ne n2]; exact e5 _ _ (hfr b o n1 n2 e), by rw [upd_ne (Ne.symm hpa)]; exact e5 _ _ haa, qs ++ [c], ms ++ [r], by rw [upd_same, List.map_append]; rfl, by simp [hst.l1], by simp [hst.l2], fun j hj => ?_, fun j hj k => ?_⟩
    · by_cases hj2 : j ≤ i
      · have e1 : (qs ++ [c]).getD j 0 = qs.getD j 0 := by rw [List.getD_eq_getElem?_getD, List.getElem?_append_left (by rw [hst.l1]; omega), ← List.getD_eq_getElem?_getD]
        have e2 : (ms ++ [r]).getD j [] = ms.getD j [] := by rw [List.getD_eq_getElem?_getD, List.getElem?_append_left (by rw [hst.l2]; omega), ← List.getD_eq_getElem?_getD]
        rw [e1, e2]
        exact ((hst.at_ j hj2).same e5).frame Fr.upd op
      · have ej : j = i + 1 := by omega
        subst ej
        have e1 : (qs ++ [c]).getD (i + 1) 0 = c := by rw [List.getD_eq_getElem?_getD, List.getElem?_append_right (by rw [hst.l1]; omega), hst.l1]; simp
        have e2 : (ms ++ [r]).getD (i + 1) [] = r := by rw [List.getD_eq_getElem?_getD, List.getElem?_append_right (by rw [hst.l2]; omega), hst.l2]; simp
        rw [e1, e2]
        exact hs5.frame Fr.upd op
    · by_cases hj2 : j ≤ i
      · have e2 : (ms ++ [r]).getD j [] = ms.getD j [] := by rw [List.getD_eq_getElem?_getD, List.getElem?_append_left (by rw [hst.l2]; omega), ← List.getD_eq_getElem?_getD]
        rw [e2]
        exact hst.kp_ j hj2 k
      · have ej : j = i + 1 := by omega
        subst ej
        have e2 : (ms ++ [r]).getD (i + 1) [] = r := by rw [List.getD_eq_getElem?_getD, List.getElem?_append_right (by rw [hst.l2]; omega), hst.l2]; simp
        rw [e2, hk]
        have e3 : kp (ms.getD i []) = stg ls i := funext (hst.kp_ i (Nat.le_refl _))
        rw [e3]; rfl
  · subst hσ
    rw [List.length_map] at hst
    walk_at "w"
    have fa : Fr a H H' := fun b o n e => by
      by_cases z : b = p
      · rw [z, hHt] at e; cases e
      · exact hfr b o n z e
    exact q H' fa ⟨dx, t, p, qs, ms, haa, fa _ _ hta ht, hqs, hst⟩
/-- a stage is periodic -/
theorem stg_small {ls : List (List Bool)} {b : Nat} : ∀ i, (∀ j, j < i → Pat (ls.getD j []) ∧ (ls.getD j []).length ≤ b) → ∃ q, 0 < q ∧ q ≤ b ^ i ∧ Per (stg ls i) q ∧ 0 < ct (stg ls i) q
  | 0, _ => ⟨1, by decide, by simp, fun _ => rfl, by simp [ct, stg]⟩
  | i + 1, h => by
    obtain ⟨q, h0, h1, h2, h3⟩ := stg_small (ls := ls) (b := b) i fun j hj => h j (by omega)
    obtain ⟨p, hb⟩ := h i (by omega)
    obtain ⟨r, r0, r1, r2⟩ := cmp_small h2 (kp_per (ls.getD i [])) h3 p.one h1 hb
    refine ⟨r, r0, by rw [Nat.pow_succ]; exact r1, r2, ?_⟩
    obtain ⟨n, hn⟩ := cmp_ex h2 h3 (by obtain ⟨k, _, e⟩ := plus_kp p.plus; exact ⟨k, e⟩)
    have hm : cmp (stg ls i) (kp (ls.getD i [])) (n % r) = true := by rw [r2.mod]; exact hn
    exact ct_pos ⟨n % r, Nat.mod_lt _ r0, hm⟩
theorem made_rd {H : Hp} {Q : VK} {E : XK} {l : List Bool} (R : RCl P w K mg base (cR K)) (p : Pat l) (h : ∀ a m H', Same H H' → Good m → (∀ n, kp m n = kp l n) → RdAt P w K mg base H' a m → Q (.ref a) H') : Made (cR K) (spRdInit K) [.str (sOf l)] H Q E := by
  intro x dx H2 h1 h2 h3 e h4 h5
  refine ⟨x, _, dx, l, rfl, R.cls, R.na, h5, p, fun q m H' gm km dm hf ha hs => ⟨rfl, h x m H' (fun b o ho => ?_) gm km ⟨_, dx, _, q, ha, R, rfl, hs⟩⟩⟩
  exact hf b o (fun z => by rw [z, h1] at ho; cases ho) (e _ _ ho)
/-- an Every of k -/
def EvAt (K : PySem.W.Frag) (H : Hp) (a : Addr) (k : Nat) : Prop := ∃ dx p, H a = some (.ins (cEv K) dx [("own", .ref p), ("step", .int (k : Nat))])
theorem EvAt.same {H H' : Hp} {a : Addr} {k : Nat} (h : EvAt K H a k) (e : Same H H') : EvAt K H' a k := by
  obtain ⟨dx, p, h⟩ := h
  exact ⟨dx, p, e _ _ h⟩
theorem made_ev {H : Hp} {Q : VK} {E : XK} {k : Nat} (R : RCl P w K mg base (cEv K)) (h1 : 2 ≤ k) (h2 : k ≤ 60) (h : ∀ a H', Same H H' → EvAt K H' a k → RdAt P w K mg base H' a (blL (k - 1) 1) → Q (.ref a) H') : Made (cEv K) (spEvInit K) [.int (k : Nat)] H Q E := by
  intro x dx H2 g1 g2 g3 e g4 g5
  refine ⟨x, dx, k, rfl, g5, h1, h2, fun q H' hf ha hs => ⟨rfl, h x H' (fun b o ho => ?_) ⟨dx, q, ha⟩ ⟨_, dx, _, q, ha, R, rfl, hs⟩⟩⟩
  exact hf b o (fun z => by rw [z, g1] at ho; cases ho) (e _ _ ho)
structure RwP (P : Program) (w : World) (K : PySem.W.Frag) (mg : Str → Option Value) (base : Heap) (m : Str) (sp : Sp) : Prop where
  ex : ∃ p g, PropOf K (cRow K) m p g ∧ FnR P w K mg base (L2.CX P w) 3 g sp
def spRowSv (K : PySem.W.Frag) : Sp := fun vs H Q _ => ∃ (a : Addr) (rs : List Addr) (ls : List (List Bool)), vs = [.ref a] ∧ RowAt K H a rs ls ∧ ∀ p m, SieveAt K H p m → (∀ k, kp m k = stg ls rs.length k) → Q (.ref p) H
theorem ok_Row_sieve (F : FunD K "sieve" "Row.sieve" (defArgs s_Row_sieve) (defBody s_Row_sieve) (defScope s_Row_sieve) [] [] f fd) (hb : ∀ x ∈ BB, mg x = none) (RC : ClF K mg "Row" ["parts", "stages"]) : FnR P w K mg base (L2.CX P w) 3 f (spRowSv K) := by
  refine FnR.mono (fnr_of (k := 1) F sc_Row_sieve (fun vs H Q E h => ?_) (fun kV doc pm an cdv ct us hl => match us, hl with | [_], _ => rfl) (fun x hx => hb x (by revert x; decide +kernel)) fun cd A outer s H vs Q E hr hc h => ?_) (by decide)
  · obtain ⟨a, rs, ls, rfl, _⟩ := h; rfl
  · obtain ⟨a, rs, ls, rfl, ⟨dx, t, p, qs, ms, h1, h2, h3, h4⟩, q⟩ := h
    refine wl_start (σ' := [some (.ref a)]) rfl (wl_cons ?_)
    walk_at "w"
    refine a_fld RC.cls (RC.na _ (by simp)) h1 rfl ?_
    walk_at "w"
    have e10 : atI (qs.map V.ref) (-1) = some (.ref (qs.getD rs.length 0)) := by
      unfold atI ixN
      rw [List.length_map, h4.l1, if_neg (by omega), if_pos (by omega)]
      show (qs.map V.ref)[((-1 : Int) + ((rs.length + 1 : Nat) : Int)).toNat]? = _
      rw [show ((-1 : Int) + ((rs.length + 1 : Nat) : Int)).toNat = rs.length by omega, List.getElem?_map, List.getD_eq_getElem?_getD, List.getElem?_eq_getElem (by have := h4.l1; omega)]; rfl
    refine ix_l (.inl (.inl h3)) e10 ?_
    exact q _ _ (h4.at_ _ (Nat.le_refl _)) (h4.kp_ _ (Nat.le_refl _))

def spRowMk (P : Program) (w : World) (K : PySem.W.Frag) (mg : Str → Option Value) (base : Heap) : Sp := fun vs H Q E => ∃ ws rest, vs = ws ++ rest ∧ ws.length = 1 ∧ rest.length ≤ sizeLine ∧ ∀ p, H p = Option.none → spRowI P w K mg base (ws ++ [V.ref p]) (upd H p (.tup rest)) Q E
/-- a new row -/
theorem made_rw {H : Hp} {Q : VK} {E : XK} {rs : List Addr} {ls : List (List Bool)} (hl : rs.length < 10000) (hrd : ∀ i, i < rs.length → RdAt P w K mg base H (rs.getD i 0) (ls.getD i []))
    (hlim : ∀ i, i < rs.length → ∀ m, Good m → (∀ k, kp m k = stg ls i k) → CompOk m (ls.getD i [])) (h : ∀ a H', Same H H' → RowAt K H' a rs ls → Q (.ref a) H') : Made (cRow K) (spRowMk P w K mg base) (rs.map V.ref) H Q E := by
  have hz : sizeLine = 16777216 := sizeLine_eq
  intro x dx H2 hx hdx hne e2 hdx2 hx2
  refine ⟨[.ref x], rs.map V.ref, rfl, rfl, (by rw [List.length_map]; omega), fun t ht => ?_⟩
  have htx : x ≠ t := fun z => by rw [← z, hx2] at ht; cases ht
  have st := same_new (o := .tup (rs.map V.ref)) ht
  refine ⟨x, dx, t, rs, ls, rfl, by rw [upd_ne htx]; exact hx2, upd_same, hl, fun j hj => (hrd j hj).same (e2.trans st), hlim, fun H3 f3 row => ⟨rfl, h x H3 (fun b o hbo => f3 b o (fun z => by rw [z, hx] at hbo; cases hbo) (st _ _ (e2 _ _ hbo))) row⟩⟩
/-- the index of n in the list before each round -/
def fidx (ls : List (List Bool)) (n : Nat) : Nat → Nat
  | 0 => n
  | i + 1 => ct (kp (ls.getD i [])) (fidx ls n i)
theorem fidx_stg (ls : List (List Bool)) (n : Nat) : ∀ i, ct (stg ls i) n = fidx ls n i
  | 0 => ct_true n
  | i + 1 => by
    show ct (cmp (stg ls i) (kp (ls.getD i []))) n = _
    rw [ct_cmp, fidx_stg ls n i]; rfl
theorem stg_step (ls : List (List Bool)) (n i : Nat) : stg ls (i + 1) n = (stg ls i n && kp (ls.getD i []) (fidx ls n i)) := by
  show cmp (stg ls i) (kp (ls.getD i [])) n = _
  unfold cmp
  rw [fidx_stg]
theorem stg_all (ls : List (List Bool)) (n : Nat) : ∀ i, stg ls i n = true ↔ ∀ j, j < i → kp (ls.getD j []) (fidx ls n j) = true
  | 0 => ⟨fun _ j hj => absurd hj (Nat.not_lt_zero _), fun _ => rfl⟩
  | i + 1 => by
    rw [stg_step, Bool.and_eq_true, stg_all ls n i]
    refine ⟨fun ⟨h1, h2⟩ j hj => ?_, fun h => ⟨fun j hj => h j (by omega), h i (by omega)⟩⟩
    by_cases e : j = i
    · rw [e]; exact h2
    · exact h1 j (by omega)
def RdAll (P : Program) (w : World) (K : PySem.W.Frag) (mg : Str → Option Value) (base : Heap) (H : Hp) (rs : List Addr) (ls : List (List Bool)) : Prop := ∀ i, i < rs.length → RdAt P w K mg base H (rs.getD i 0) (ls.getD i [])
theorem RdAll.same {H H' : Hp} {rs : List Addr} {ls : List (List Bool)} (h : RdAll P w K mg base H rs ls) (e : Same H H') : RdAll P w K mg base H' rs ls := fun i hi => (h i hi).same e
def LimAll (n : Nat) (ls : List (List Bool)) : Prop := ∀ i, i < n → ∀ m, Good m → (∀ k, kp m k = stg ls i k) → CompOk m (ls.getD i [])
def spThenT (P : Program) (w : World) (K : PySem.W.Frag) (mg : Str → Option Value) (base : Heap) : Sp := fun vs H Q _ => ∃ (a t : Addr) (rs ns : List Addr) (ls ms : List (List Bool)), vs = [.ref a, .ref t] ∧ H t = some (.tup (ns.map V.ref)) ∧ RowAt K H a rs ls ∧ RdAll P w K mg base H (rs ++ ns) (ls ++ ms) ∧ (rs ++ ns).length < 10000 ∧ LimAll (rs ++ ns).length (ls ++ ms) ∧ ∀ b H', Same H H' → RowAt K H' b (rs ++ ns) (ls ++ ms) → Q (.ref b) H'
def spThen (P : Program) (w : World) (K : PySem.W.Frag) (mg : Str → Option Value) (base : Heap) : Sp := fun vs H Q _ => ∃ (a : Addr) (rs ns : List Addr) (ls ms : List (List Bool)), vs = .ref a :: ns.map V.ref ∧ RowAt K H a rs ls ∧ RdAll P w K mg base H (rs ++ ns) (ls ++ ms) ∧ (rs ++ ns).length < 10000 ∧ LimAll (rs ++ ns).length (ls ++ ms) ∧ ∀ b H', Same H H' → RowAt K H' b (rs ++ ns) (ls ++ ms) → Q (.ref b) H'
theorem ok_Row_then (F : FunD K "then" "Row.then" (defArgs s_Row_then) (defBody s_Row_then) (defScope s_Row_then) [] [] f fd) (hb : ∀ x ∈ BB, mg x = none) (RW : ClF K mg "Row" ["parts", "stages"]) (h8 : Mkr P w K mg base (cRow K) 8 (fun vs H Q E => ∃ ws rest, vs = ws ++ rest ∧ ws.length = 1 ∧ rest.length ≤ sizeLine ∧ ∀ p, H p = Option.none → spRowI P w K mg base (ws ++ [V.ref p]) (upd H p (.tup rest)) Q E)) : FnR P w K mg base (L2.CX P w) 10 f (spThen P w K mg base) := by
  refine FnR.imp (sp := fun vs H Q E => ∃ ws rest, vs = ws ++ rest ∧ ws.length = 1 ∧ rest.length ≤ sizeLine ∧ ∀ p, H p = Option.none → spThenT P w K mg base (ws ++ [V.ref p]) (upd H p (.tup rest)) Q E) ?_ fun vs H Q E ⟨a, rs, ns, ls, ms, e, h1, h2, h3, h4, q⟩ => ⟨[.ref a], ns.map V.ref, by rw [e]; rfl, rfl, by rw [sizeLine_eq, List.length_map]; rw [List.length_append] at h3; omega, fun p hp => ⟨a, p, rs, ns, ls, ms, rfl, upd_same, h1.same (same_new hp), h2.same (same_new hp), h3, h4, fun b H' e2 => q b H' ((same_new hp).trans e2)⟩⟩
  refine fnr_star (ps := ["self"]) (pv := "rounds") F sc_Row_then (fun kV doc pm an cdv ct us rest hl => match us, rest, hl with | [_], [], _ => rfl | [_], _ :: _, _ => rfl) (fun x hx => hb x (by revert x; decide +kernel)) fun cd A outer s H vs Q E hr hc h => ?_
  obtain ⟨a, t, rs, ns, ls, ms, rfl, ht, hrow, hrd, hl, hlim, q⟩ := h
  obtain ⟨dx, tp, pp, qs, mm, h1, h2, h3, h4⟩ := id hrow
  refine wl_start (σ' := [some (.ref a), some (.ref t)]) rfl (wl_cons ?_)
  refine ws_ret ?_
  refine w_makeSS hc (by walk_at "mb") RW.g h8 hr (by decide) passL ?_
  refine wa_star ?_
  walk_at "w"
  refine a_fld RW.cls (RW.na _ (by simp)) h1 rfl ?_
  refine ⟨tp, _, rfl, .inl (.inl (.inl h2)), ?_⟩
  refine wa_star ?_
  walk_at "w"
  refine ⟨t, _, rfl, .inl (.inl (.inl ht)), ?_⟩
  refine wa_nil ?_
  rw [List.append_nil, ← List.map_append]
  exact made_rw hl hrd hlim q
def spFate (P : Program) (w : World) (K : PySem.W.Frag) (mg : Str → Option Value) (base : Heap) : Sp := fun vs H Q _ => ∃ (a : Addr) (rs : List Addr) (ls : List (List Bool)) (n : Nat), vs = [.ref a, .int (n : Nat)] ∧ RowAt K H a rs ls ∧ RdAll P w K mg base H rs ls ∧
  (∀ i, i < rs.length → stg ls i n = true → kp (ls.getD i []) (fidx ls n i) = false → ∀ T H', H T = none → Same H H' → H' T = some (.tup [.int (i : Nat), .int (fidx ls n i : Nat)]) → Q (.ref T) H') ∧
  (stg ls rs.length n = true → ∀ T H', H T = none → Same H H' → H' T = some (.tup [.non, .int (fidx ls n rs.length : Nat)]) → Q (.ref T) H')
def spStruck (P : Program) (w : World) (K : PySem.W.Frag) (mg : Str → Option Value) (base : Heap) : Sp := fun vs H Q _ => ∃ (a : Addr) (rs : List Addr) (ls : List (List Bool)) (i : Nat), vs = [.ref a, .int (i : Nat)] ∧ RowAt K H a rs ls ∧ RdAll P w K mg base H rs ls ∧ i < rs.length ∧ (ls.getD i []).length < 4090 ∧
  (∀ m r, Good m → (∀ k, kp m k = stg ls i k) → Good r → (∀ k, kp r k = !kp (ls.getD i []) k) → r.length ∣ (ls.getD i []).length → CompOk m r) ∧ ((∀ n, kp (ls.getD i []) n = true) → ∀ H', Same H H' → Q .non H') ∧
  ((∃ n, kp (ls.getD i []) n = false) → ∀ c r H', Same H H' → SieveAt K H' c r → (∀ k, kp r k = cmp (stg ls i) (fun n => !kp (ls.getD i []) n) k) → Q (.ref c) H')
def spPool (K : PySem.W.Frag) : Sp := fun vs H Q _ => ∃ (sc : Addr) (ns : List Int) (k : Nat), vs = [.ref sc, .int k] ∧ SqL K H sc (ns.map V.int) ∧ ns.length ≤ 63 ∧ k ≤ 1000 ∧ ∀ p H', H p = none → Same H H' → H' p = some (pool p) → Q (.ref p) H'
theorem ok__law_pool (F : FunD K "_law_pool" "_law_pool" (defArgs s__law_pool) (defBody s__law_pool) (defScope s__law_pool) [] [] f fd) (hb : ∀ x ∈ BB, mg x = none) : FnR P w K mg base (L2.CX P w) 2 f (spPool K) := by
  refine fnr_of F sc__law_pool (fun vs H Q E h => ?_) (fun kV doc pm an cdv ct us hl => match us, hl with | [_, _], _ => rfl) (fun x hx => hb x (by revert x; decide +kernel)) fun cd A outer s H vs Q E hr hc h => ?_
  · obtain ⟨sc, ns, k, rfl, _⟩ := h; rfl
  · obtain ⟨sc, ns, k, rfl, hs, hn, hk, q⟩ := h
    have hz : sizeLine = 16777216 := sizeLine_eq
    refine wl_start (σ' := [some (.ref sc), some (.int k), none, none]) rfl (wl_cons ?_)
    walk_at "w"
    refine ⟨_, .inl ⟨_, hs, rfl⟩, ?_⟩
    walk_at "w"
    have key : ∀ c : Int, 0 ≤ c → WL (cx P w K mg base N__law_pool "_law_pool" (defScope s__law_pool) f cd A outer s H E) ((defBody s__law_pool).drop 2) { nx := fun _ H' => Q .non H', rt := Q } [some (.ref sc), some (.int k), some (.int c), none] H := by
      intro c h0
      refine wl_cons ?_
      walk_at "w"
      refine b_mod (by omega) ?_
      walk_at "w"
      refine b_mul (mul_small (by omega) (by omega)) ?_
      walk_at "w"
      refine b_mul (mul_small (by omega) (by omega)) ?_
      walk_at "w"
      refine b_mul (mul_small (by omega) (by omega)) ?_
      walk_at "w"
      refine b_mul (mul_small (by omega) (by omega)) ?_
      walk_at "w"
      refine b_mod (by omega) ?_
      refine ⟨_, by walk_at "put", ?_⟩
      refine wl_cons ?_
      refine ws_ret ?_
      refine we_abs ?_
      walk_at "w"
      generalize hm : (c % 2147483629 + 7919 * (k : Int) * (k : Int) + 31 * (k : Int) + 17) * 48271 % 2147483647 = m
      have m0 : 0 ≤ m := by rw [← hm]; exact Int.emod_nonneg _ (by decide)
      have m1 : m < 2147483647 := by rw [← hm]; exact Int.emod_lt_of_pos _ (by decide)
      refine b_pow ⟨by omega, by omega, by decide⟩ ?_
      walk_at "w"
      have hb1 : ∀ b : Bool, (0 : Int) ≤ (if b = true then 1 else 0) ∧ (if b = true then (1 : Int) else 0) ≤ 1 := fun b => by cases b <;> decide
      refine b_mul (mul_small (hb1 _).1 (by have := (hb1 (decide ((10 : Int) ^ Int.toNat 18 ≤ c))).2; omega)) ?_
      walk_at "w"
      refine b_mul (.of_right (intBits_le_64 (by omega) (by omega))) ?_
      walk_at "w"
      refine b_mod (by omega) ?_
      walk_at "w"
      refine ⟨(by show 2 ≤ sizeLine; omega), fun p H1 hp e1 hp1 => ?_⟩
      have h5 := hb1 (decide ((10 : Int) ^ Int.toNat 18 ≤ c))
      refine ⟨_, pool_abs hp1 (Int.mul_nonneg h0 h5.1) (Int.emod_nonneg _ (by decide)), ?_⟩
      exact q p _ hp (same_mut e1 hp) upd_same
    refine if_dec (fun h1 => ?_) (fun h1 => ?_)
    · walk_at "w"
      have hk2 : k < ns.length := by rw [List.length_map] at h1; omega
      refine ix_l hs (at_of (i := k) rfl (v := .int ns[k]) (by rw [List.getElem?_map, List.getElem?_eq_getElem hk2]; rfl)) ?_
      refine ⟨_, rfl, ?_⟩
      refine ⟨_, by walk_at "put", ?_⟩
      refine wl_nil ?_
      refine key _ ?_
      split <;> omega
    · refine wl_nil ?_
      exact key 0 (by decide)
def spTakeW : Sp := fun vs H Q _ => ∃ (p : Addr) (many : Nat), vs = [.ref p, .int many] ∧ H p = some (pool p) ∧ 0 < many ∧ many < 2 ^ 400 ∧ ∀ r : Nat, r < many → Q (.int (r : Nat)) H
theorem ok__law_take (F : FunD K "_law_take" "_law_take" (defArgs s__law_take) (defBody s__law_take) (defScope s__law_take) [] [] f fd) (hb : ∀ x ∈ BB, mg x = none) : FnR P w K mg base (L2.CX P w) 2 f spTakeW := by
  refine fnr_of F sc__law_take (fun vs H Q E h => ?_) (fun kV doc pm an cdv ct us hl => match us, hl with | [_, _], _ => rfl) (fun x hx => hb x (by revert x; decide +kernel)) fun cd A outer s H vs Q E hr hc h => ?_
  · obtain ⟨p, many, rfl, _⟩ := h; rfl
  · obtain ⟨p, many, rfl, hp, hm0, hm1, q⟩ := h
    have hlg : ((many : Nat) : Int).natAbs.log2 < 9000 := by
      rw [Int.natAbs_natCast]
      have := (Nat.log2_lt (by omega)).mpr hm1
      omega
    refine wl_start (σ' := [some (.ref p), some (.int many), none]) rfl (wl_pool hp fun i j hi hj => ?_)
    walk_at "go"
    walk_at "w"
    refine ix_l (.inl (.inl upd_same)) rfl ?_
    walk_at "w"
    refine if_dec (fun h1 => ?_) (fun h1 => ?_)
    · walk_at "w"
      refine ix_l (.inl (.inl upd_same)) rfl ?_
      walk_at "w"
      refine b_mod (by omega) ?_
      walk_at "w"
      refine ws_asg ?_
      walk_at "w"
      refine ix_l (.inl (.inl upd_same)) rfl ?_
      walk_at "w"
      refine b_fdivW ⟨by omega, hlg⟩ ?_
      refine wg_subL ?_
      walk_at "w"
      refine ⟨p, _, 0, 0, rfl, rfl, upd_same, rfl, ?_⟩
      walk_at "go"
      refine ws_ret (we_abs ?_)
      walk_at "w"
      refine ⟨_, pool_abs (i := i / (many : Int)) (j := j) upd_same (Int.ediv_nonneg hi (by omega)) hj, ?_⟩
      rw [upd_upd, pool_back hp]
      have e1 : i % (many : Int) = ((i % (many : Int)).toNat : Int) := by
        have := Int.emod_nonneg i (show (many : Int) ≠ 0 by omega)
        omega
      rw [e1]
      refine q _ ?_
      have := Int.emod_lt_of_pos i (show (0 : Int) < (many : Int) by omega)
      omega
    · walk_at "w"
      refine ws_asg ?_
      walk_at "w"
      refine ix_l (.inl (.inl upd_same)) rfl ?_
      walk_at "w"
      refine b_mul (mul_small (by omega) (by omega)) ?_
      walk_at "w"
      refine b_mod (by omega) ?_
      generalize hm : (j * 48271 + 12345) % 2147483647 = m
      have m0 : 0 ≤ m := by rw [← hm]; exact Int.emod_nonneg _ (by decide)
      have m1 : m < 2147483647 := by rw [← hm]; exact Int.emod_lt_of_pos _ (by decide)
      refine wg_subL ?_
      walk_at "w"
      refine ⟨p, _, 1, 1, rfl, rfl, upd_same, rfl, ?_⟩
      walk_at "go"
      refine ws_ret (we_abs ?_)
      walk_at "w"
      refine ix_l (.inl (.inl upd_same)) rfl ?_
      walk_at "w"
      refine ix_l (.inl (.inl upd_same)) rfl ?_
      refine b_mul (.of_right (intBits_le_64 (by omega) (by omega))) ?_
      walk_at "w"
      refine b_mod (by omega) ?_
      walk_at "w"
      refine b_fdiv (by omega) (by omega) ?_
      walk_at "w"
      refine b_mod (by omega) ?_
      refine ⟨_, pool_abs (i := i) (j := m) upd_same hi m0, ?_⟩
      rw [upd_upd, pool_back hp]
      generalize m * m % 2147483629 / 64 = z
      have e1 : z % (many : Int) = ((z % (many : Int)).toNat : Int) := by
        have := Int.emod_nonneg z (show (many : Int) ≠ 0 by omega)
        omega
      rw [e1]
      refine q _ ?_
      have := Int.emod_lt_of_pos z (show (0 : Int) < (many : Int) by omega)
      omega

/-! simple rows of at most three elements, told exactly -/
theorem i_mulN {X : Cx} {σ : L2.St} {H : Hp} {Q : VK} {i j : Int} (h : CMul i j) (q : Q (.int (i * j)) H) : WB X (inplaceOp .Mult) (.int i) (.int j) σ H Q := iop_mul.w ⟨_, _, rfl, rfl, h, q⟩
theorem none_of37 {H H1 : Hp} {D : Addr} (e : Same H H1) (h : H1 D = none) : H D = none := by
  cases z : H D with
  | none => rfl
  | some o => rw [e _ _ z] at h; cases h
def Nums (ns : List Nat) : Prop := ∀ n ∈ ns, 2 ≤ n ∧ n ≤ 60
abbrev iV (ns : List Nat) : List V := ns.map fun n => V.int ((n : Nat) : Int)
theorem iV_getD {ns : List Nat} {i : Nat} (h : i < ns.length) : (iV ns).getD i .non = V.int ((ns[i] : Nat) : Int) := by
  rw [List.getD_eq_getElem?_getD, List.getElem?_map, List.getElem?_eq_getElem h]; rfl
def RwsX (H : Hp) (xs : List V) (rs : List (List Nat)) : Prop := xs.length = rs.length ∧ ∀ i, i < rs.length → ∃ t, xs.getD i .non = .ref t ∧ H t = some (.tup (iV (rs.getD i [])))
theorem RwsX.same {H H' : Hp} {xs : List V} {rs : List (List Nat)} (h : RwsX H xs rs) (e : Same H H') : RwsX H' xs rs := ⟨h.1, fun i hi => by
  obtain ⟨t, h1, h2⟩ := h.2 i hi
  exact ⟨t, h1, e _ _ h2⟩⟩
theorem RwsX.updL {H : Hp} {D : Addr} {xs ys : List V} {rs : List (List Nat)} {o : HO} (h : RwsX H xs rs) (hD : H D = some (.lst ys)) : RwsX (upd H D o) xs rs := ⟨h.1, fun i hi => by
  obtain ⟨t, h1, h2⟩ := h.2 i hi
  exact ⟨t, h1, by rw [upd_ne (fun z => by rw [z, hD] at h2; cases h2)]; exact h2⟩⟩
theorem RwsX.app {H : Hp} {xs ys : List V} {r r' : List (List Nat)} (h : RwsX H xs r) (k : RwsX H ys r') : RwsX H (xs ++ ys) (r ++ r') := ⟨by rw [List.length_append, List.length_append, h.1, k.1], fun i hi => by
  rw [List.length_append] at hi
  by_cases c : i < r.length
  · obtain ⟨t, h1, h2⟩ := h.2 i c
    refine ⟨t, ?_, ?_⟩
    · rw [List.getD_eq_getElem?_getD, List.getElem?_append_left (by rw [h.1]; exact c), ← List.getD_eq_getElem?_getD]; exact h1
    · rw [List.getD_eq_getElem?_getD, List.getElem?_append_left c, ← List.getD_eq_getElem?_getD]; exact h2
  · obtain ⟨t, h1, h2⟩ := k.2 (i - r.length) (by omega)
    refine ⟨t, ?_, ?_⟩
    · rw [List.getD_eq_getElem?_getD, List.getElem?_append_right (by rw [h.1]; omega), h.1, ← List.getD_eq_getElem?_getD]; exact h1
    · rw [List.getD_eq_getElem?_getD, List.getElem?_append_right (by omega), ← List.getD_eq_getElem?_getD]; exact h2⟩
theorem rwsX_nil {H : Hp} : RwsX H [] [] := ⟨rfl, fun i hi => absurd hi (Nat.not_lt_zero _)⟩
theorem rwsX_one {H : Hp} {t : Addr} {ns : List Nat} (h : H t = some (.tup (iV ns))) : RwsX H [.ref t] [ns] := ⟨rfl, fun i hi => by
  have hi : i < 1 := hi
  obtain rfl : i = 0 := by omega
  exact ⟨t, rfl, h⟩⟩
theorem RwsX.snoc {H : Hp} {xs : List V} {rs : List (List Nat)} {t : Addr} {ns : List Nat} (h : RwsX H xs rs) (ht : H t = some (.tup (iV ns))) : RwsX H (xs ++ [.ref t]) (rs ++ [ns]) := h.app (rwsX_one ht)
/-- the beginnings of c numbers, in order -/
def begD : Nat → List (List Nat)
  | 0 => [[]]
  | c + 1 => (List.range 59).flatMap fun t => (begD c).map fun r => (2 + t) :: r
theorem begD_nums : ∀ {c : Nat} {ns : List Nat}, ns ∈ begD c → Nums ns ∧ ns.length = c
  | 0, ns, h => by
    rw [List.mem_singleton.mp h]
    exact ⟨(fun n hn => nomatch hn), rfl⟩
  | c + 1, ns, h => by
    obtain ⟨t, ht, h⟩ := List.mem_flatMap.mp h
    obtain ⟨r, hr, rfl⟩ := List.mem_map.mp h
    have ht := List.mem_range.mp ht
    obtain ⟨h1, h2⟩ := begD_nums hr
    refine ⟨fun n hn => ?_, by rw [List.length_cons, h2]⟩
    rcases List.mem_cons.mp hn with rfl | hn
    · omega
    · exact h1 n hn
theorem begD_all : ∀ {ns : List Nat}, Nums ns → ns ∈ begD ns.length
  | [], _ => List.mem_singleton.mpr rfl
  | n :: ns, h => by
    have hn := h n List.mem_cons_self
    refine List.mem_flatMap.mpr ⟨n - 2, List.mem_range.mpr (by omega), List.mem_map.mpr ⟨ns, begD_all fun m hm => h m (List.mem_cons_of_mem _ hm), ?_⟩⟩
    rw [show 2 + (n - 2) = n by omega]
theorem flat_len_eq {α β : Type} {f : α → List β} {n : Nat} : ∀ {l : List α}, (∀ a ∈ l, (f a).length = n) → (l.flatMap f).length = l.length * n
  | [], _ => by simp
  | a :: l, h => by
    rw [List.flatMap_cons, List.length_append, List.length_cons, h a List.mem_cons_self, flat_len_eq fun b hb => h b (List.mem_cons_of_mem _ hb), Nat.succ_mul, Nat.add_comm]
theorem begD_len : ∀ c, (begD c).length = 59 ^ c
  | 0 => rfl
  | c + 1 => by
    show ((List.range 59).flatMap fun t => (begD c).map fun r => (2 + t) :: r).length = _
    rw [flat_len_eq (n := 59 ^ c) fun t _ => by rw [List.length_map, begD_len c], List.length_range, Nat.pow_succ, Nat.mul_comm]
/-- the first t numbers' share of the beginnings -/
def begT (c t : Nat) : List (List Nat) := (List.range t).flatMap fun t => (begD c).map fun r => (2 + t) :: r
theorem begT_succ (c t : Nat) : begT c (t + 1) = begT c t ++ (begD c).map fun r => (2 + t) :: r := by
  unfold begT
  rw [List.range_succ, List.flatMap_append]; simp
theorem begT_len (c t : Nat) : (begT c t).length = t * 59 ^ c := by
  unfold begT
  rw [flat_len_eq (n := 59 ^ c) fun t _ => by rw [List.length_map, begD_len c], List.length_range]
theorem rwsX_get {H : Hp} {xs : List V} {rs : List (List Nat)} (h : RwsX H xs rs) {i : Nat} (hi : i < rs.length) : ∃ t, xs.getD i .non = .ref t ∧ H t = some (.tup (iV rs[i])) := by
  obtain ⟨t, h1, h2⟩ := h.2 i hi
  refine ⟨t, h1, ?_⟩
  rw [List.getD_eq_getElem?_getD, List.getElem?_eq_getElem hi] at h2
  exact h2
def spBegN (n : Nat) : SpG := fun vs H Q _ => ∃ c : Nat, c ≤ n ∧ vs = [.int (c : Nat)] ∧ ∀ ys H', Same H H' → RwsX H' ys (begD c) → Q ys H'
theorem beg0 (F : FunD K "beginnings" "beginnings" (defArgs s_beginnings) (defBody s_beginnings) (defScope s_beginnings) [] [] f fd) (hb : ∀ x ∈ BB, mg x = none) : GFn P w K mg base 1 f fd ["count"] (spBegN 0) := by
  refine gfn_by F sc_beginnings (fun vs H Q E h => ?_) (fun x hx => hb x (by revert x; decide +kernel)) fun cd A outer s H vs Q E pn hr hc h => ?_
  · obtain ⟨c, _, rfl, _⟩ := h; rfl
  · obtain ⟨c, hc0, rfl, q⟩ := h
    obtain rfl : c = 0 := by omega
    have hz : sizeLine = 16777216 := sizeLine_eq
    refine wl_startG (σ' := [some (.int (0 : Nat)), none, none]) rfl (gwl_cons ?_)
    refine gws_if ?_
    walk_at "w"
    refine if_dec (fun _ => ?_) (fun h => absurd rfl h)
    refine gwl_cons ?_
    refine gws_yield (by show 0 < sizeLine; omega) ?_ (by kernel_rfl) (by with_unfolding_all rfl)
    walk_at "w"
    refine ⟨by show 0 ≤ sizeLine; omega, fun p H' hp e hp' => ?_⟩
    refine gwl_nil (gwl_nil ?_)
    exact q _ H' e (rwsX_one hp')
theorem begS (n : Nat) (hn1 : n ≤ 1) {k : Nat} (F : FunD K "beginnings" "beginnings" (defArgs s_beginnings) (defBody s_beginnings) (defScope s_beginnings) [] [] f fd) (hb : ∀ x ∈ BB, mg x = none) (gE : mg "Every" = some (.ref (He.ga K "Every"))) (CR : ClX.CRead K (He.ga K "Every") (.type "type")) (CV : ∃ u, ClX.CVal K (He.ga K "Every") (.type "type") "MOST" (.int 60) u) (G0 : GFt P w K mg base "beginnings" k (spBegN n)) : GFn P w K mg base (k + 4) f fd ["count"] (spBegN (n + 1)) := by
  refine gfn_by F sc_beginnings (fun vs H Q E h => ?_) (fun x hx => hb x (by revert x; decide +kernel)) fun cd A outer s H vs Q E pn hr hc h => ?_
  · obtain ⟨c, _, rfl, _⟩ := h; rfl
  · obtain ⟨c, hc1, rfl, q⟩ := h
    obtain ⟨u, hu⟩ := CV
    have hz : sizeLine = 16777216 := sizeLine_eq
    refine wl_startG (σ' := [some (.int (c : Nat)), none, none]) rfl (gwl_cons ?_)
    refine gws_if ?_
    walk_at "w"
    refine if_dec (fun h0 => ?_) (fun h0 => ?_)
    · have e0 : c = 0 := by omega
      subst e0
      refine gwl_cons ?_
      refine gws_yield (by show 0 < sizeLine; omega) ?_ (by kernel_rfl) (by with_unfolding_all rfl)
      walk_at "w"
      refine ⟨by show 0 ≤ sizeLine; omega, fun p H' hp e hp' => ?_⟩
      refine gwl_nil (gwl_nil ?_)
      exact q _ H' e (rwsX_one hp')
    · obtain ⟨c, rfl⟩ : ∃ c', c = c' + 1 := ⟨c - 1, by omega⟩
      have hcn : c ≤ n := by omega
      have hbl : (begD c).length ≤ 59 := by
        rw [begD_len]
        rcases (by omega : c = 0 ∨ c = 1) with rfl | rfl <;> decide
      refine gwl_cons ?_
      refine gws_for owns_gcx hc ?_
      refine wi_range2 hc (by walk_at "mb") ?_
      walk_at "w"
      refine w_gname (v := .ref (He.ga K "Every")) hc (by walk_at "mb") gE rfl ?_
      refine a_cval CR hu ?_
      walk_at "w"
      refine ⟨_, _, rfl, rfl, by decide, ?_⟩
      refine ⟨_, _, wlk_range, fun t ys σ' H' => Same H H' ∧ (∃ o1 o2, σ' = [some (.int ((c + 1 : Nat) : Int)), o1, o2]) ∧ RwsX H' ys (begT c t) ∧ t ≤ 59, ⟨Same.refl _, ⟨_, _, rfl⟩, rwsX_nil, Nat.zero_le _⟩, fun t ys σ' H' h => h.1, fun t ys σ' H1 ht ⟨eS, ⟨o1, o2, hσ⟩, hys, _⟩ => ?_, fun ys σ' H1 ⟨eS, _, hys, _⟩ => ?_⟩
      · subst hσ
        have ht59 : t < 59 := ht
        refine wg_name hc (by walk_at "put") (by walk_at "mb") ?_
        refine gwl_cons ?_
        refine gws_for owns_gcx hc ?_
        refine wi_list ?_
        refine x_listF hc (by walk_at "mb") (by walk_at "mb") G0 hr (by omega) ?_
        walk_at "w"
        refine ⟨c, hcn, congrArg (fun z => [V.int z]) (by omega), fun ys0 H2 e2 hys0 r hr2 => ?_⟩
        have hr3 : upd H2 r (.lst ys0) r = some (.lst ys0) := upd_same
        have e3 : Same H1 (upd H2 r (.lst ys0)) := e2.trans (same_new hr2)
        have hys3 := hys0.same (same_new (o := .lst ys0) hr2)
        generalize upd H2 r (.lst ys0) = H3 at *
        have hl0 := hys3.1
        refine ⟨r, _, rfl, .inl (.inl hr3), _, _, wlk_list (.inl (.inl hr3)), fun i ys' σ' H' => Same H3 H' ∧ (∃ o1 o2, σ' = [some (.int ((c + 1 : Nat) : Int)), o1, o2] ∧ (o1 = some (.int (2 + (t : Nat))))) ∧ RwsX H' ys' (begT c t ++ ((begD c).take i).map fun r => (2 + t) :: r), ⟨Same.refl _, ⟨_, _, rfl, rfl⟩, (by rw [List.take_zero, List.map_nil, List.append_nil]; exact hys.same e3)⟩, fun i ys' σ' H' h => h.1, fun i ys' σ' H4 hi ⟨e4, ⟨o1, o2, hσ, ho⟩, hys'⟩ => ?_, fun ys' σ' H4 ⟨e4, ⟨o1, o2, hσ, ho⟩, hys'⟩ => ?_⟩
        · subst hσ ho
          have hib : i < (begD c).length := by rw [← hl0]; exact hi
          obtain ⟨p, ep, hp⟩ := rwsX_get (hys3.same e4) hib
          rw [ep]
          have htk : (begD c).take (i + 1) = (begD c).take i ++ [(begD c)[i]] := List.take_succ_eq_append_getElem hib
          have hmm := begD_nums (List.getElem_mem hib)
          generalize (begD c)[i] = rr at hp htk hmm
          obtain ⟨_, hml⟩ := hmm
          refine wg_name hc (by walk_at "put") (by walk_at "mb") ?_
          refine gwl_cons ?_
          have hyl' := hys'.1
          rw [List.length_append, List.length_map, List.length_take, begT_len, ← begD_len] at hyl'
          have hm59 : t * (begD c).length ≤ 59 * 59 := Nat.mul_le_mul (by omega) hbl
          refine gws_yield (by omega) ?_ (by kernel_rfl) (by with_unfolding_all rfl)
          refine w_tup ?_
          walk_at "w"
          refine wa_star ?_
          walk_at "w"
          refine ⟨p, _, rfl, .inl (.inl (.inl hp)), ?_⟩
          walk_at "w"
          rw [List.append_nil]
          refine ⟨by rw [List.length_cons, List.length_map]; omega, fun p5 H5 hp5 e5 hp5' => ?_⟩
          refine gwl_nil ?_
          refine ⟨e4.trans e5, ⟨_, _, rfl, rfl⟩, ?_⟩
          rw [htk, List.map_append, ← List.append_assoc]
          refine (hys'.same e5).snoc ?_
          rw [hp5']
          show _ = some (HO.tup (V.int ((2 + t : Nat) : Int) :: iV rr))
          rw [Int.natCast_add]; rfl
        · refine gwl_nil ?_
          refine ⟨eS.trans (e3.trans e4), ⟨_, _, hσ⟩, ?_, ht59⟩
          rw [begT_succ]
          rw [hl0, List.take_length] at hys'
          exact hys'
      · refine gwl_nil ?_
        refine gwl_nil ?_
        exact q ys H1 eS hys
theorem ok_beginnings (F : FunD K "beginnings" "beginnings" (defArgs s_beginnings) (defBody s_beginnings) (defScope s_beginnings) [] [] f fd) (hb : ∀ x ∈ BB, mg x = none) (gb : mg "beginnings" = some (.ref f)) (gE : mg "Every" = some (.ref (He.ga K "Every"))) (CR : ClX.CRead K (He.ga K "Every") (.type "type")) (CV : ∃ u, ClX.CVal K (He.ga K "Every") (.type "type") "MOST" (.int 60) u) : GFn P w K mg base 9 f fd ["count"] (spBegN 2) := by
  have up : ∀ {k n}, GFn P w K mg base k f fd ["count"] (spBegN n) → GFt P w K mg base "beginnings" k (spBegN n) := fun {k n} h => ⟨⟨f, fd, _, gb, F.kp, h, F.bindsN fun _ _ _ _ _ _ us hl => match us, hl with | [_], _ => rfl⟩⟩
  exact begS 1 (by decide) F hb gE CR CV (up (begS 0 (by decide) F hb gE CR CV (up (beg0 F hb))))

def onV : Option Nat → V
  | none => .non
  | some n => .int (n : Nat)
/-- the last number of a row, if it can be -/
def lasD (k p : Nat) : Option Nat := if ((k / Nat.gcd k p : Nat) : Int) = ((p / Nat.gcd k p : Nat) : Int) - 1 ∧ (2 : Int) ≤ ((p / Nat.gcd k p : Nat) : Int) ∧ ((p / Nat.gcd k p : Nat) : Int) ≤ 60 then some (p / Nat.gcd k p) else none
theorem lasD_b {k p m : Nat} (h : lasD k p = some m) : 2 ≤ m ∧ m ≤ 60 := by
  unfold lasD at h
  split at h
  · rename_i c
    have := Option.some.inj h
    omega
  · cases h
def kF (ns : List Nat) (k : Nat) : Nat := ns.foldl (fun a n => a * n) k
def pF (ns : List Nat) (p : Nat) : Nat := ns.foldl (fun a n => a * (n - 1)) p
def lasN (l : List Bool) (ns : List Nat) : Option Nat := lasD (kF ns (ct (kp l) l.length)) (pF ns l.length)
theorem fold_take {β : Type} {g : β → Nat → β} {b : β} {ns : List Nat} {i : Nat} (h : i < ns.length) : (ns.take (i + 1)).foldl g b = g ((ns.take i).foldl g b) ns[i] := by
  rw [List.take_succ_eq_append_getElem h, List.foldl_append]; rfl
/-- the survivor of a row with an index -/
def ntF (ns : List Nat) (i : Nat) : Nat := ns.reverse.foldl (fun r n => r + r / (n - 1)) i
def prF (ns : List Nat) : Nat := ns.foldl (fun a n => a * n) 1
open Classical in
/-- a row has the sieve's first survivors -/
noncomputable def lvN (l : List Bool) (ns : List Nat) : Bool := decide (∀ i, (∀ j, j < i → nthF (kp l) j < l.length + prF ns) → ntF ns i = nthF (kp l) i)
theorem lvN_t {l : List Bool} {ns : List Nat} (h : ∀ i, (∀ j, j < i → nthF (kp l) j < l.length + prF ns) → ntF ns i = nthF (kp l) i) : lvN l ns = true := @decide_eq_true _ (_) h
theorem lvN_f {l : List Bool} {ns : List Nat} (h : ¬ ∀ i, (∀ j, j < i → nthF (kp l) j < l.length + prF ns) → ntF ns i = nthF (kp l) i) : lvN l ns = false := @decide_eq_false _ (_) h
def spLastX (K : PySem.W.Frag) : Sp := fun vs H Q _ => ∃ (a t : Addr) (l : List Bool) (ns : List Nat), vs = [.ref a, .ref t] ∧ SieveAt K H a l ∧ l.length ≤ 400 ∧ H t = some (.tup (iV ns)) ∧ ns.length ≤ 2 ∧ Nums ns ∧ ∀ H', Same H H' → Q (onV (lasN l ns)) H'
theorem ok_last_number (F : FunD K "last_number" "last_number" (defArgs s_last_number) (defBody s_last_number) (defScope s_last_number) [] [] f fd) (hb : ∀ x ∈ BB, mg x = none) (SC : SvC K mg) (h1 : Fn P w K mg base "common_divisor" 2 spGcd) (h7 : SvP P w K mg base "period" (spPer K)) (h8 : SvP P w K mg base "size" (spSize K)) (gE : mg "Every" = some (.ref (He.ga K "Every"))) (CR : ClX.CRead K (He.ga K "Every") (.type "type")) (CV : ∃ u, ClX.CVal K (He.ga K "Every") (.type "type") "MOST" (.int 60) u) : FnR P w K mg base (L2.CX P w) 6 f (spLastX K) := by
  refine fnr_of F sc_last_number (fun vs H Q E h => ?_) (fun kV doc pm an cdv ct us hl => match us, hl with | [_, _], _ => rfl) (fun x hx => hb x (by revert x; decide +kernel)) fun cd A outer s H vs Q E hr hc h => ?_
  · obtain ⟨a, t, l, ns, rfl, _⟩ := h; rfl
  · obtain ⟨a, t, l, ns, rfl, ha, hl, ht, hnl, hns, q⟩ := h
    obtain ⟨u, hu⟩ := CV
    have gl := ha.1
    have l1 := gl.one
    have s1 := gl.toPat.size
    have s2 := ct_le (kp l) l.length
    refine wl_start (σ' := [some (.ref a), some (.ref t), none, none, none, none, none]) rfl (wl_cons ?_)
    refine ws_par hc (by kernel_rfl) (by kernel_rfl) (by decide +kernel) ?_ (by with_unfolding_all rfl) (by with_unfolding_all rfl) (by with_unfolding_all rfl) (by with_unfolding_all rfl) ⟨5, 6, rfl, rfl⟩
    walk_at "w"
    refine a_svp SC h8 hr (by decide) ha ⟨a, l, rfl, ha, ?_⟩
    walk_at "w"
    refine a_svp SC h7 hr (by decide) ha ⟨a, l, rfl, ha, ?_⟩
    refine ⟨_, _, by walk_at "put", by walk_at "put", ?_⟩
    walk_at "go"
    refine ws_for owns_cx hc ?_
    refine wi_seqN hc (by walk_at "at") (by walk_at "mb") (.inr ht) fun J hJ => ?_
    refine ⟨_, _, hJ H rfl, fun i σ' H' => Same H H' ∧ ∃ (k p : Nat) (o : Option V), σ' = [some (.ref a), some (.ref t), o, none, none, some (.int (k : Nat)), some (.int (p : Nat))] ∧ (0 < k ∧ k ≤ 400 * 60 ^ i ∧ 0 < p ∧ p ≤ 400 * 60 ^ i) ∧ k = kF (ns.take i) (ct (kp l) l.length) ∧ p = pF (ns.take i) l.length, ⟨Same.refl _, _, _, _, rfl, ⟨s1, by omega, by omega, by omega⟩, rfl, rfl⟩, fun i σ' H' h => h.1, fun i σ' H1 hi ⟨e1, k, p, o, hσ, ⟨k1, k2, p1, p2⟩, hk, hpe⟩ => ?_, fun σ' H1 ⟨e1, k, p, o, hσ, ⟨k1, k2, p1, p2⟩, hk, hpe⟩ => ?_⟩
    · subst hσ
      rw [List.length_map] at hi
      have hn := hns _ (List.getElem_mem hi)
      have h60 : 60 ^ i ≤ 60 := by
        rcases (by omega : i = 0 ∨ i = 1) with rfl | rfl <;> decide
      rw [iV_getD hi]
      have hks := fold_take (g := fun a n => a * n) (b := ct (kp l) l.length) hi
      have hps := fold_take (g := fun a n => a * (n - 1)) (b := l.length) hi
      generalize ns[i] = n at hn hks hps
      refine wg_name hc (by walk_at "put") (by walk_at "mb") ?_
      walk_at "go"
      refine ws_par hc (by kernel_rfl) (by kernel_rfl) (by decide +kernel) ?_ (by with_unfolding_all rfl) (by with_unfolding_all rfl) (by with_unfolding_all rfl) (by with_unfolding_all rfl) ⟨5, 6, rfl, rfl⟩
      walk_at "w"
      refine b_mul (mul_small (by omega) (by omega)) ?_
      walk_at "w"
      refine b_mul (mul_small (by omega) (by omega)) ?_
      refine ⟨_, _, by walk_at "put", by walk_at "put", ?_⟩
      walk_at "w"
      obtain ⟨n', rfl⟩ : ∃ n', n = n' + 1 := ⟨n - 1, by omega⟩
      refine ⟨e1, k * (n' + 1), p * n', _, by rw [show ((n' + 1 : Nat) : Int) - 1 = (n' : Int) by omega]; rfl, ⟨Nat.mul_pos k1 (by omega), ?_, Nat.mul_pos p1 (by omega), ?_⟩, (by rw [hk]; exact hks.symm), (by rw [hpe]; exact hps.symm)⟩
      · exact Nat.le_trans (Nat.mul_le_mul k2 hn.2) (by rw [Nat.pow_succ, Nat.mul_assoc]; exact Nat.le_refl _)
      · exact Nat.le_trans (Nat.mul_le_mul p2 (show n' ≤ 60 by omega)) (by rw [Nat.pow_succ, Nat.mul_assoc]; exact Nat.le_refl _)
    · subst hσ
      rw [List.length_map] at k2 p2 hk hpe
      rw [List.take_length] at hk hpe
      have hlas : lasN l ns = lasD k p := by unfold lasN; rw [← hk, ← hpe]
      rw [hlas] at q
      have hb60 : 400 * 60 ^ ns.length ≤ 1440000 := by
        rcases (by omega : ns.length = 0 ∨ ns.length = 1 ∨ ns.length = 2) with e | e | e <;> rw [e] <;> decide
      have g0 : 0 < Nat.gcd k p := Nat.gcd_pos_of_pos_left _ k1
      have g1 : Nat.gcd k p ≤ k := Nat.le_of_dvd k1 (Nat.gcd_dvd_left _ _)
      walk_at "w"
      refine w_call hc (by walk_at "mb") h1 hr (by decide) passL ?_
      walk_at "w"
      refine ⟨k, p, rfl, ?_⟩
      refine ⟨_, by walk_at "put", ?_⟩
      walk_at "w"
      refine b_fdiv (by omega) (by omega) ?_
      refine ⟨_, by walk_at "put", ?_⟩
      rw [show ((p : Nat) : Int) / ((Nat.gcd k p : Nat) : Int) = ((p / Nat.gcd k p : Nat) : Int) from rfl]
      have hun : lasD k p = if ((k / Nat.gcd k p : Nat) : Int) = ((p / Nat.gcd k p : Nat) : Int) - 1 ∧ (2 : Int) ≤ ((p / Nat.gcd k p : Nat) : Int) ∧ ((p / Nat.gcd k p : Nat) : Int) ≤ 60 then some (p / Nat.gcd k p) else none := rfl
      rw [hun] at q
      generalize p / Nat.gcd k p = la at q
      walk_at "w"
      refine b_fdiv (by omega) (by omega) ?_
      walk_at "w"
      refine if_dec (fun c1 => ?_) (fun c1 => ?_)
      · walk_at "w"
        refine if_dec (fun c2 => ?_) (fun c2 => ?_)
        · walk_at "w"
          refine w_gname (v := .ref (He.ga K "Every")) hc (by walk_at "mb") gE rfl ?_
          refine a_cval CR hu ?_
          walk_at "w"
          refine if_dec (fun c3 => ?_) (fun c3 => ?_)
          · walk_at "w"
            have qq := q _ e1
            rw [if_pos ⟨c1, c2, c3⟩] at qq
            exact qq
          · walk_at "w"
            have qq := q _ e1
            rw [if_neg fun z => c3 z.2.2] at qq
            exact qq
        · walk_at "w"
          have qq := q _ e1
          rw [if_neg fun z => c2 z.2.1] at qq
          exact qq
      · walk_at "w"
        have qq := q _ e1
        rw [if_neg fun z => c1 z.1] at qq
        exact qq
def spNthX : Sp := fun vs H Q _ => ∃ (t : Addr) (ns : List Nat) (i : Nat), vs = [.ref t, .int (i : Nat)] ∧ H t = some (.tup (iV ns)) ∧ ns.length ≤ 100 ∧ Nums ns ∧ ∀ H', Same H H' → Q (.int ((ntF ns i : Nat) : Int)) H'
theorem ok_nth_of (F : FunD K "nth_of" "nth_of" (defArgs s_nth_of) (defBody s_nth_of) (defScope s_nth_of) [] [] f fd) (hb : ∀ x ∈ BB, mg x = none) : FnR P w K mg base (L2.CX P w) 2 f spNthX := by
  refine fnr_of F sc_nth_of (fun vs H Q E h => ?_) (fun kV doc pm an cdv ct us hl => match us, hl with | [_, _], _ => rfl) (fun x hx => hb x (by revert x; decide +kernel)) fun cd A outer s H vs Q E hr hc h => ?_
  · obtain ⟨t, ns, i, rfl, _⟩ := h; rfl
  · obtain ⟨t, ns, i, rfl, ht, hnl, hns, q⟩ := h
    refine wl_start (σ' := [some (.ref t), some (.int (i : Nat)), none, none]) rfl (wl_cons ?_)
    walk_at "w"
    refine ws_for owns_cx hc ?_
    refine wi_tup ?_
    refine w_revT ?_
    walk_at "w"
    refine ⟨t, _, rfl, .inl (.inl ht), fun p H1 hp e1 hp1 => ?_⟩
    have hp2 : H1 p = some (.tup (iV ns.reverse)) := by rw [hp1, iV, iV, List.map_reverse]
    have hns2 : Nums ns.reverse := fun n hn => hns n (List.mem_reverse.mp hn)
    have hnt : ntF ns i = ns.reverse.foldl (fun r n => r + r / (n - 1)) i := rfl
    generalize ns.reverse = ms at hp2 hns2 hnt
    refine ⟨p, _, rfl, .inl (.inl hp2), _, _, wlk_tup (.inl (.inl hp2)), fun k σ' H' => Same H1 H' ∧ ∃ (r : Nat) (o : Option V), σ' = [some (.ref t), some (.int (i : Nat)), some (.int (r : Nat)), o] ∧ r = (ms.take k).foldl (fun r n => r + r / (n - 1)) i, ⟨Same.refl _, _, _, rfl, rfl⟩, fun k σ' H' h => h.1, fun k σ' H2 hk ⟨e2, r, o, hσ, hr0⟩ => ?_, fun σ' H2 ⟨e2, r, o, hσ, hr0⟩ => ?_⟩
    · subst hσ
      rw [List.length_map] at hk
      have hn := hns2 _ (List.getElem_mem hk)
      rw [iV_getD hk]
      have hrs := fold_take (g := fun r n => r + r / (n - 1)) (b := i) hk
      rw [← hr0] at hrs
      generalize ms[k] = n at hn hrs
      refine wg_name hc (by walk_at "put") (by walk_at "mb") ?_
      walk_at "go"
      refine ws_aug (v := .int ((r : Nat) : Int)) hc (by walk_at "mb") (by walk_at "at") ?_
      walk_at "w"
      refine b_fdiv (by omega) (by omega) ?_
      refine i_add ?_
      refine ⟨_, by walk_at "put", ?_⟩
      walk_at "w"
      obtain ⟨n', rfl⟩ : ∃ n', n = n' + 1 := ⟨n - 1, by omega⟩
      refine ⟨e2, r + r / n', some (.int ((n' + 1 : Nat) : Int)), ?_, by rw [hrs]; rfl⟩
      rw [show ((n' + 1 : Nat) : Int) - 1 = (n' : Int) by omega]; rfl
    · subst hσ
      rw [List.length_map, List.take_length] at hr0
      walk_at "w"
      rw [hr0, ← hnt]
      exact q _ (e1.trans e2)
def spLeavesX (K : PySem.W.Frag) : Sp := fun vs H Q _ => ∃ (a t : Addr) (l : List Bool) (ns : List Nat), vs = [.ref t, .ref a] ∧ SieveAt K H a l ∧ l.length ≤ 400 ∧ H t = some (.tup (iV ns)) ∧ ns.length ≤ 3 ∧ Nums ns ∧ ∀ H', Same H H' → Q (.bl (lvN l ns)) H'
theorem ok_leaves (F : FunD K "leaves" "leaves" (defArgs s_leaves) (defBody s_leaves) (defScope s_leaves) [] [] f fd) (hb : ∀ x ∈ BB, mg x = none) (SC : SvC K mg) (h1 : Fn P w K mg base "nth_of" 2 spNthX) (h3 : Mth P w K mg base (cS K) "nth" 4 (spNth K)) (h7 : SvP P w K mg base "period" (spPer K)) : FnR P w K mg base (L2.CX P w) 6 f (spLeavesX K) := by
  refine fnr_of F sc_leaves (fun vs H Q E h => ?_) (fun kV doc pm an cdv ct us hl => match us, hl with | [_, _], _ => rfl) (fun x hx => hb x (by revert x; decide +kernel)) fun cd A outer s H vs Q E hr hc h => ?_
  · obtain ⟨a, t, l, ns, rfl, _⟩ := h; rfl
  · obtain ⟨a, t, l, ns, rfl, ha, hl, ht, hnl, hns, q⟩ := h
    refine wl_start (σ' := [some (.ref t), some (.ref a), none, none, none, none, none]) rfl (wl_cons ?_)
    refine ws_par hc (by kernel_rfl) (by kernel_rfl) (by decide +kernel) ?_ (by with_unfolding_all rfl) (by with_unfolding_all rfl) (by with_unfolding_all rfl) (by with_unfolding_all rfl) ⟨5, 6, rfl, rfl⟩
    walk_at "w"
    refine a_svp SC h7 hr (by decide) ha ⟨a, l, rfl, ha, ?_⟩
    walk_at "w"
    refine ⟨_, _, by walk_at "put", by walk_at "put", ?_⟩
    walk_at "w"
    refine ws_for owns_cx hc ?_
    refine wi_seqN hc (by walk_at "at") (by walk_at "mb") (.inr ht) fun J hJ => ?_
    refine ⟨_, _, hJ H rfl, fun i σ' H' => Same H H' ∧ ∃ (p : Nat) (o : Option V), σ' = [some (.ref t), some (.ref a), some (.int (p : Nat)), o, none, some (.int (l.length : Nat)), some (.int (0 : Nat))] ∧ p ≤ 60 ^ i ∧ p = prF (ns.take i), ⟨Same.refl _, 1, _, rfl, by decide, rfl⟩, fun i σ' H' h => h.1, fun i σ' H1 hi ⟨e1, p, o, hσ, p2, hpr⟩ => ?_, fun σ' H1 ⟨e1, p, o, hσ, p2, hpr⟩ => ?_⟩
    · subst hσ
      rw [List.length_map] at hi
      have hn := hns _ (List.getElem_mem hi)
      rw [iV_getD hi]
      have hps := fold_take (g := fun a n => a * n) (b := 1) hi
      generalize ns[i] = n at hn hps
      refine wg_name hc (by walk_at "put") (by walk_at "mb") ?_
      walk_at "go"
      refine ws_aug (v := .int ((p : Nat) : Int)) hc (by walk_at "mb") (by walk_at "at") ?_
      walk_at "w"
      refine i_mulN (.inr ⟨by omega, by omega⟩) ?_
      refine ⟨_, by walk_at "put", ?_⟩
      walk_at "w"
      exact ⟨e1, p * n, _, rfl, Nat.mul_le_mul p2 hn.2, by rw [hpr]; exact hps.symm⟩
    · subst hσ
      rw [List.length_map, List.take_length] at hpr
      have hlvt : (∀ i, (∀ j, j < i → nthF (kp l) j < l.length + p) → ntF ns i = nthF (kp l) i) → lvN l ns = true := fun h => lvN_t (by rw [← hpr]; exact h)
      have hlvf : (¬ ∀ i, (∀ j, j < i → nthF (kp l) j < l.length + p) → ntF ns i = nthF (kp l) i) → lvN l ns = false := fun h => lvN_f (by rw [← hpr]; exact h)
      walk_at "w"
      refine ws_while owns_cx (fun m σ' H' => Same H H' ∧ ∃ (ix sv : Nat), σ' = [some (.ref t), some (.ref a), some (.int (p : Nat)), o, some (.int (sv : Nat)), some (.int (l.length : Nat)), some (.int (ix : Nat))] ∧ ix ≤ sv + 1 ∧ m + ix = l.length + p + 1 ∧ ((0 < ix ∧ sv = nthF (kp l) (ix - 1)) ∨ (ix = 0 ∧ sv = 0)) ∧ (∀ i, i < ix → ntF ns i = nthF (kp l) i) ∧ ∀ j, j + 1 < ix → nthF (kp l) j < l.length + p) (l.length + p + 1) ⟨e1, 0, 0, rfl, by omega, rfl, .inr ⟨rfl, rfl⟩, fun i hi => absurd hi (Nat.not_lt_zero _), fun j hj => absurd hj (Nat.not_lt_zero _)⟩ fun m σ' H2 ⟨e2, ix, sv, hσ, hx, hm, h0, hA, hB⟩ => ?_
      subst hσ
      walk_at "w"
      refine if_dec (fun c1 => ?_) (fun c1 => ?_)
      · walk_at "w"
        have hB2 : ∀ j, j < ix → nthF (kp l) j < l.length + p := fun j hj => by
          by_cases h : j + 1 < ix
          · exact hB j h
          · rcases h0 with ⟨h1, h2⟩ | ⟨h1, h2⟩
            · obtain rfl : j = ix - 1 := by omega
              rw [← h2]; omega
            · omega
        have ha2 := ha.same e2
        refine w_meth h3 hr (by decide) passL ?_
        walk_at "w"
        obtain ⟨_, dx, pp, hi1, hi2⟩ := id ha2
        refine ⟨_, _, _, rfl, hi1, rfl, ?_⟩
        walk_at "w"
        refine ⟨a, l, ix, rfl, ha2, fun nx H3 e3 k1 k2 => ?_⟩
        have hnx : ix ≤ nx := by rw [← k2]; exact ct_le _ _
        have hnt : nthF (kp l) ix = nx := nthF_eq k1 k2
        refine ⟨_, by walk_at "put", ?_⟩
        walk_at "w"
        refine w_call hc (by walk_at "mb") h1 hr (by decide) passL ?_
        walk_at "w"
        refine ⟨t, ns, ix, rfl, (e2.trans e3) _ _ ht, by omega, hns, fun H4 e4 => ?_⟩
        walk_at "w"
        by_cases c2 : ((ntF ns ix : Nat) : Int) = ((nx : Nat) : Int)
        rotate_left
        · rw [decide_eq_false c2]
          walk_at "w"
          have qq := q _ ((e2.trans e3).trans e4)
          rw [hlvf fun z => c2 (by rw [z ix hB2, hnt])] at qq
          exact qq
        · rw [decide_eq_true c2]
          walk_at "w"
          refine ws_aug (v := .int ((ix : Nat) : Int)) hc (by walk_at "mb") (by walk_at "at") ?_
          walk_at "w"
          refine i_add ?_
          refine ⟨_, by walk_at "put", ?_⟩
          walk_at "w"
          refine ⟨m - 1, by omega, (e2.trans e3).trans e4, ix + 1, nx, rfl, by omega, by omega, .inl ⟨by omega, by rw [← hnt]; rfl⟩, fun i hi => ?_, fun j hj => hB2 j (by omega)⟩
          rcases Nat.lt_succ_iff_lt_or_eq.mp hi with h | rfl
          · exact hA i h
          · rw [hnt]; omega
      · walk_at "w"
        have qq := q _ e2
        rw [hlvt fun i hj => ?_] at qq
        · exact qq
        · by_cases h : i < ix
          · exact hA i h
          · rcases h0 with ⟨h1, h2⟩ | ⟨h1, h2⟩
            · have := hj (ix - 1) (by omega)
              rw [← h2] at this
              omega
            · have := ha.1.one
              omega

/-- what a beginning gives -/
noncomputable def rwN (l : List Bool) (ns : List Nat) : List (List Nat) := match lasN l ns with
  | some m => if lvN l (ns ++ [m]) = true then [ns ++ [m]] else []
  | none => []
/-- the rows of c numbers -/
noncomputable def rowsN (l : List Bool) (c : Nat) : List (List Nat) := if c = 0 then (if l = [true] then [[]] else []) else (begD (c - 1)).flatMap (rwN l)
theorem rwN_len (l : List Bool) (ns : List Nat) : (rwN l ns).length ≤ 1 := by
  unfold rwN
  split
  · split <;> simp
  · simp
theorem flat_len {α : Type} {f : α → List (List Nat)} (h : ∀ a, (f a).length ≤ 1) : ∀ l : List α, (l.flatMap f).length ≤ l.length
  | [] => Nat.le_refl _
  | a :: l => by
    rw [List.flatMap_cons, List.length_append, List.length_cons]
    have := h a
    have := flat_len h l
    omega
theorem flat_take {α β : Type} {f : α → List β} {l : List α} {i : Nat} (h : i < l.length) : (l.take (i + 1)).flatMap f = (l.take i).flatMap f ++ f l[i] := by
  rw [List.take_succ_eq_append_getElem h, List.flatMap_append]; simp
theorem rowsN_len {l : List Bool} {c : Nat} (hc : c ≤ 3) : (rowsN l c).length ≤ 3481 := by
  unfold rowsN
  split
  · split <;> simp
  · refine Nat.le_trans (flat_len (rwN_len l) _) ?_
    rw [begD_len]
    exact Nat.le_trans (Nat.pow_le_pow_right (by decide) (show c - 1 ≤ 2 by omega)) (by decide)
def spRowsX (K : PySem.W.Frag) : Sp := fun vs H Q _ => ∃ (a : Addr) (l : List Bool) (c : Nat), vs = [.ref a, .int (c : Nat)] ∧ SieveAt K H a l ∧ l.length ≤ 400 ∧ c ≤ 3 ∧ ∀ p xs H', H p = none → Same H H' → H' p = some (.lst xs) → RwsX H' xs (rowsN l c) → Q (.ref p) H'
theorem ok_rows_of (F : FunD K "rows_of" "rows_of" (defArgs s_rows_of) (defBody s_rows_of) (defScope s_rows_of) [] [] f fd) (hb : ∀ x ∈ BB, mg x = none) (SC : SvC K mg) (h1 : GFt P w K mg base "beginnings" 9 (spBegN 2)) (h2 : Fn P w K mg base "last_number" 6 (spLastX K)) (h3 : Fn P w K mg base "leaves" 6 (spLeavesX K)) (h4 : CMt P w K mg base (cS K) "everything" 6 (spEvery K)) (h5 : EqM P w K mg base (cS K) 4 (spSvEq K)) : FnR P w K mg base (L2.CX P w) 13 f (spRowsX K) := by
  refine fnr_of F sc_rows_of (fun vs H Q E h => ?_) (fun kV doc pm an cdv ct us hl => match us, hl with | [_, _], _ => rfl) (fun x hx => hb x (by revert x; decide +kernel)) fun cd A outer s H vs Q E hr hc h => ?_
  · obtain ⟨a, l, c, rfl, _⟩ := h; rfl
  · obtain ⟨a, l, c, rfl, ha, hl, hc2, q⟩ := h
    have hz : sizeLine = 16777216 := sizeLine_eq
    refine wl_start (σ' := [some (.ref a), some (.int (c : Nat)), none, none, none]) rfl (wl_cons ?_)
    walk_at "w"
    refine if_dec (fun h0 => ?_) (fun h0 => ?_)
    · have e0 : c = 0 := by omega
      subst e0
      walk_at "w"
      refine w_cmeth0 h4 hr (by decide) passL ?_
      refine w_gref hc (by walk_at "mb") SC.g ⟨rfl, rfl, fun ev H1 e1 sev => ?_⟩
      have ha1 := ha.same e1
      obtain ⟨_, dz1, pz1, hz1, _⟩ := id ha1
      obtain ⟨_, dz2, pz2, hz2, _⟩ := id sev
      refine b_eqO h5 hr (by decide) hz1 hz2 ?_
      refine ⟨a, ev, l, [true], rfl, ha1, sev, _, rfl, ?_⟩
      walk_at "w"
      refine if_dec (fun c1 => ?_) (fun c1 => ?_)
      · walk_at "w"
        refine ⟨by show 0 ≤ sizeLine; omega, fun t H2 ht e2 ht2 => ?_⟩
        walk_at "w"
        refine ⟨by show 1 ≤ sizeLine; omega, fun p H3 hp e3 hp3 => ?_⟩
        refine q p _ H3 (none_of37 (e1.trans e2) hp) ((e1.trans e2).trans e3) hp3 ?_
        rw [show rowsN l 0 = [[]] by unfold rowsN; rw [if_pos rfl, if_pos c1]]
        exact rwsX_one (e3 _ _ ht2)
      · walk_at "w"
        refine ⟨by show 0 ≤ sizeLine; omega, fun p H3 hp e3 hp3 => ?_⟩
        refine q p _ H3 (none_of37 e1 hp) (e1.trans e3) hp3 ?_
        rw [show rowsN l 0 = [] by unfold rowsN; rw [if_pos rfl, if_neg c1]]
        exact rwsX_nil
    · walk_at "w"
      refine ⟨by show 0 ≤ sizeLine; omega, fun R H1 hR e1 hR1 => ?_⟩
      refine ⟨_, by walk_at "put", ?_⟩
      walk_at "go"
      refine ws_forM owns_cx hc ?_
      refine wi_list ?_
      refine x_listF hc (by walk_at "mb") (by walk_at "mb") h1 hr (by decide) ?_
      walk_at "w"
      refine ⟨c - 1, by omega, congrArg (fun z => [V.int z]) (by omega), fun ys H2 e2 hys T hT => ?_⟩
      have hT3 : upd H2 T (.lst ys) T = some (.lst ys) := upd_same
      have e3 : Same H1 (upd H2 T (.lst ys)) := e2.trans (same_new hT)
      have hyl : (begD (c - 1)).length ≤ 3481 := by
        rw [begD_len]
        exact Nat.le_trans (Nat.pow_le_pow_right (by decide) (show c - 1 ≤ 2 by omega)) (by decide)
      have hyl2 := hys.1
      have hrc : rowsN l c = (begD (c - 1)).flatMap (rwN l) := if_neg (show ¬ c = 0 by omega)
      have hys3 := hys.same (same_new (o := .lst ys) hT)
      have neTR : T ≠ R := fun z => by rw [z, e2 _ _ hR1] at hT; cases hT
      generalize upd H2 T (.lst ys) = H3 at *
      refine ⟨T, _, rfl, .inl (.inl hT3), _, _, one H3 T, wlk_list (.inl (.inl (one_at hT3))), fun i σ' H' => Same H H' ∧ H' T = some (.lst ys) ∧ RwsX H' ys (begD (c - 1)) ∧ ∃ xs o3 o4, H' R = some (.lst xs) ∧ RwsX H' xs (((begD (c - 1)).take i).flatMap (rwN l)) ∧ σ' = [some (.ref a), some (.int (c : Nat)), some (.ref R), o3, o4], ⟨e1.trans e3, hT3, hys3, [], _, _, e3 _ _ hR1, rwsX_nil, rfl⟩, fun i σ' H' h => one_same fun o ho => by rw [h.2.1, ← ho, hT3], fun i σ' H0 hi ⟨eH, hTl, hY, xs, o3, o4, hRl, hxl, hσ⟩ => ?_, fun σ' H0 ⟨eH, hTl, hY, xs, o3, o4, hRl, hxl, hσ⟩ => ?_⟩
      · subst hσ
        have hib : i < (begD (c - 1)).length := by rw [← hY.1]; exact hi
        obtain ⟨p, ev, hp⟩ := hY.2 i hib
        rw [ev]
        have hft := flat_take (f := rwN l) hib
        have hmm := begD_nums (List.getElem_mem hib)
        rw [show (begD (c - 1)).getD i [] = (begD (c - 1))[i] by rw [List.getD_eq_getElem?_getD, List.getElem?_eq_getElem hib]; rfl] at hp
        generalize (begD (c - 1))[i] = ns at hp hft hmm
        obtain ⟨hns, hnl⟩ := hmm
        have hxl1 := hxl.1
        have hxl2 := flat_len (rwN_len l) ((begD (c - 1)).take i)
        rw [List.length_take] at hxl2
        refine wg_name hc (by walk_at "put") (by walk_at "mb") ?_
        walk_at "go"
        walk_at "w"
        refine w_call hc (by walk_at "mb") h2 hr (by decide) passL ?_
        walk_at "w"
        refine ⟨a, p, l, ns, rfl, ha.same eH, hl, hp, by omega, hns, fun H4 e4 => ?_⟩
        cases hla : lasN l ns with
        | none =>
          rw [show onV none = V.non from rfl]
          refine ⟨_, by walk_at "put", ?_⟩
          walk_at "w"
          exact ⟨eH.trans e4, e4 _ _ hTl, hY.same e4, xs, _, _, e4 _ _ hRl, by rw [hft, show rwN l ns = [] by unfold rwN; rw [hla], List.append_nil]; exact hxl.same e4, rfl⟩
        | some m =>
          obtain ⟨m1, m2⟩ := lasD_b hla
          rw [show onV (some m) = V.int ((m : Nat) : Int) from rfl]
          have hrw : rwN l ns = if lvN l (ns ++ [m]) = true then [ns ++ [m]] else [] := by unfold rwN; rw [hla]
          refine ⟨_, by walk_at "put", ?_⟩
          walk_at "w"
          rw [decide_eq_false (show ¬ V.int ((m : Nat) : Int) = V.non from fun z => nomatch z)]
          walk_at "w"
          refine w_call hc (by walk_at "mb") h3 hr (by decide) passL ?_
          walk_at "w"
          refine wa_star ?_
          walk_at "w"
          refine ⟨p, _, rfl, .inl (.inl (.inl (e4 _ _ hp))), ?_⟩
          walk_at "w"
          refine ⟨by rw [List.length_append, List.length_map]; show ns.length + 1 ≤ sizeLine; omega, fun t H5 ht e5 ht5 => ?_⟩
          walk_at "w"
          have e45 := e4.trans e5
          have ht6 : H5 t = some (.tup (iV (ns ++ [m]))) := by rw [ht5]; show _ = some (HO.tup ((ns ++ [m]).map fun n => V.int ((n : Nat) : Int))); rw [List.map_append]; rfl
          have hns6 : Nums (ns ++ [m]) := fun n hn => by
            rcases List.mem_append.mp hn with hn | hn
            · exact hns n hn
            · rcases List.mem_cons.mp hn with rfl | hn
              · exact ⟨m1, m2⟩
              · cases hn
          refine ⟨a, t, l, ns ++ [m], rfl, ha.same (eH.trans e45), hl, ht6, by rw [List.length_append]; show ns.length + 1 ≤ 3; omega, hns6, fun H6 e6 => ?_⟩
          have e46 := e45.trans e6
          cases hbv : lvN l (ns ++ [m]) with
          | false =>
            rw [hbv, if_neg (by decide)] at hrw
            walk_at "w"
            exact ⟨eH.trans e46, e46 _ _ hTl, hY.same e46, xs, _, _, e46 _ _ hRl, by rw [hft, hrw, List.append_nil]; exact hxl.same e46, rfl⟩
          | true =>
            rw [hbv, if_pos rfl] at hrw
            walk_at "w"
            refine w_append ?_
            walk_at "w"
            refine ⟨⟨_, .inl (.inl (e46 _ _ hRl))⟩, ?_⟩
            walk_at "w"
            refine wa_star ?_
            walk_at "w"
            refine ⟨p, _, rfl, .inl (.inl (.inl (e46 _ _ hp))), ?_⟩
            walk_at "w"
            refine ⟨by rw [List.length_append, List.length_map]; show ns.length + 1 ≤ sizeLine; omega, fun t2 H7 ht2 e7 ht7 => ?_⟩
            have e47 := e46.trans e7
            refine ⟨xs, e47 _ _ hRl, by omega, ?_⟩
            walk_at "w"
            have hY7 := hY.same e47
            have ht8 : H7 t2 = some (.tup (iV (ns ++ [m]))) := by rw [ht7]; show _ = some (HO.tup ((ns ++ [m]).map fun n => V.int ((n : Nat) : Int))); rw [List.map_append]; rfl
            refine ⟨same_mut (eH.trans e47) hR, by rw [upd_ne neTR]; exact e47 _ _ hTl, hY7.updL (e47 _ _ hRl), _, _, _, upd_same, ?_, rfl⟩
            rw [hft, hrw]
            exact ((hxl.same e47).snoc ht8).updL (e47 _ _ hRl)
      · subst hσ
        rw [hyl2, List.take_length, ← hrc] at hxl
        walk_at "w"
        exact q R xs H0 hR eH hRl hxl

/-- the rows of fewer than c numbers -/
noncomputable def rowsTo (l : List Bool) (c : Nat) : List (List Nat) := (List.range c).flatMap (rowsN l)
theorem rowsTo_succ (l : List Bool) (c : Nat) : rowsTo l (c + 1) = rowsTo l c ++ rowsN l c := by
  unfold rowsTo
  rw [List.range_succ, List.flatMap_append]; simp
def spSimpleX (K : PySem.W.Frag) : Sp := fun vs H Q _ => ∃ (a : Addr) (l : List Bool) (m : Nat), vs = [.ref a, .int (m : Nat)] ∧ m ≤ 3 ∧ SieveAt K H a l ∧ l.length ≤ 400 ∧ ∀ p xs H', H p = none → Same H H' → H' p = some (.lst xs) → RwsX H' xs (rowsTo l (m + 1)) → Q (.ref p) H'
theorem ok_simple_rows (F : FunD K "simple_rows" "simple_rows" (defArgs s_simple_rows) (defBody s_simple_rows) (defScope s_simple_rows) [] [] f fd) (hb : ∀ x ∈ BB, mg x = none) (SC : SvC K mg) (h1 : Fn P w K mg base "is_integer" 2 (spIsInt K)) (h2 : Fn P w K mg base "rows_of" 13 (spRowsX K)) (h7 : SvP P w K mg base "period" (spPer K)) (hm : ∃ t, mg ("MOST_ELEMENTS" : Str) = some (.int 3 t)) (hp : ∃ t, mg ("MOST_PERIOD" : Str) = some (.int 400 t)) : FnR P w K mg base (L2.CX P w) 14 f (spSimpleX K) := by
  refine fnr_of F sc_simple_rows (fun vs H Q E h => ?_) (fun kV doc pm an cdv ct us hl => match us, hl with | [_, _], _ => rfl) (fun x hx => hb x (by revert x; decide +kernel)) fun cd A outer s H vs Q E hr hc h => ?_
  · obtain ⟨a, l, m, rfl, _⟩ := h; rfl
  · obtain ⟨a, l, m, rfl, hm3, ha, hl, q⟩ := h
    obtain ⟨tk, hm⟩ := hm
    obtain ⟨tp, hp⟩ := hp
    have hz : sizeLine = 16777216 := sizeLine_eq
    refine wl_start (σ' := [some (.ref a), some (.int (m : Nat)), none, none]) rfl (wl_cons ?_)
    walk_at "w"
    refine w_call hc (by walk_at "mb") h1 hr (by decide) passL ?_
    walk_at "w"
    refine ⟨.int (m : Nat), 0, .inr ⟨rfl, rfl⟩, ?_⟩
    refine .inl ⟨_, rfl, ?_⟩
    rw [decide_eq_true (show (0 : Int) ≤ (m : Nat) by omega)]
    walk_at "v"
    refine w_gname (v := .int 3) hc (by walk_at "mb") hm ⟨_, rfl⟩ ?_
    walk_at "v"
    rw [decide_eq_false (show ¬ (3 : Int) < (m : Nat) by omega)]
    walk_at "w"
    refine a_svp SC h7 hr (by decide) ha ⟨a, l, rfl, ha, ?_⟩
    walk_at "w"
    refine w_gname (v := .int 400) hc (by walk_at "mb") hp ⟨_, rfl⟩ ?_
    walk_at "w"
    rw [decide_eq_false (show ¬ (400 : Int) < (l.length : Nat) by omega)]
    walk_at "w"
    refine ⟨by show 0 ≤ sizeLine; omega, fun R H1 hR e1 hR1 => ?_⟩
    refine ⟨_, by walk_at "put", ?_⟩
    walk_at "go"
    refine ws_forM owns_cx hc ?_
    refine wi_range1 hc (by walk_at "mb") ?_
    walk_at "w"
    refine ⟨by omega, by omega, ?_⟩
    refine ⟨_, _, fun _ => none, wlk_range, fun i σ' H' => Same H H' ∧ ∃ xs o, H' R = some (.lst xs) ∧ RwsX H' xs (rowsTo l i) ∧ xs.length ≤ 3481 * i ∧ σ' = [some (.ref a), some (.int (m : Nat)), some (.ref R), o], ⟨e1, [], _, hR1, rwsX_nil, by decide, rfl⟩, fun i σ' H' h => none_same, fun i σ' H0 hi ⟨eH, xs, o, hRl, hx, hxl, hσ⟩ => ?_, fun σ' H0 ⟨eH, xs, o, hRl, hx, hxl, hσ⟩ => ?_⟩
    · subst hσ
      rw [show (0 : Int) + (i : Nat) = ((i : Nat) : Int) by omega]
      have hi2 : i ≤ 3 := by omega
      refine wg_name hc (by walk_at "put") (by walk_at "mb") ?_
      walk_at "go"
      refine ws_expr ?_
      refine w_extend ?_
      walk_at "w"
      refine ⟨⟨_, .inl (.inl hRl)⟩, ?_⟩
      refine w_call hc (by walk_at "mb") h2 hr (by decide) passL ?_
      walk_at "w"
      refine ⟨a, l, i, rfl, ha.same eH, hl, hi2, fun p ys H2 hp2 e2 hpl hyr => ?_⟩
      have neP : p ≠ R := fun z => by rw [z, hRl] at hp2; cases hp2
      have hyl : ys.length ≤ 3481 := by
        rw [hyr.1]
        exact rowsN_len hi2
      refine ⟨p, xs, ys, rfl, e2 _ _ hRl, hpl, by omega, ?_⟩
      walk_at "w"
      refine ⟨same_mut (eH.trans e2) hR, _, _, upd_same, ?_, by rw [List.length_append]; omega, rfl⟩
      have hx2 := ((hx.same e2).app hyr).updL (o := .lst (xs ++ ys)) (e2 _ _ hRl)
      rw [rowsTo_succ]
      exact hx2
    · subst hσ
      walk_at "w"
      exact q R xs H0 hR eH hRl hx

/-! mathematics of rows of Every(n) -/
abbrev evP (n : Nat) : List Bool := blL (n - 1) 1
abbrev evs (ns : List Nat) : List (List Bool) := ns.map evP
theorem evs_getD {ns : List Nat} {i : Nat} (h : i < ns.length) : (evs ns).getD i [] = evP ns[i] := by
  rw [List.getD_eq_getElem?_getD, List.getElem?_map, List.getElem?_eq_getElem h]; rfl
theorem ev_len {n : Nat} (h : 2 ≤ n) : (evP n).length = n := by rw [blL_len]; omega
theorem ev_kp {n i : Nat} (h : 2 ≤ n) : kp (evP n) i = decide (i % n < n - 1) := by
  rw [← (kp_per (evP n)).mod i, ev_len h, kp_blL (by have := Nat.mod_lt i (show 0 < n by omega); omega)]
theorem ct_full {f : Nat → Bool} : ∀ {r : Nat}, (∀ i, i < r → f i = true) → ct f r = r
  | 0, _ => rfl
  | r + 1, h => by rw [ct_succ_t (h r (by omega)), ct_full fun i hi => h i (by omega)]
theorem ev_ct_r {n r : Nat} (h : 2 ≤ n) (hr : r ≤ n - 1) : ct (kp (evP n)) r = r := ct_full fun i hi => by
  rw [ev_kp h, Nat.mod_eq_of_lt (by omega)]
  exact decide_eq_true (by omega)
theorem ev_per {n : Nat} (h : 2 ≤ n) : Per (kp (evP n)) n := by
  have := kp_per (evP n)
  rw [ev_len h] at this
  exact this
theorem ev_ct_n {n : Nat} (h : 2 ≤ n) : ct (kp (evP n)) n = n - 1 := by
  obtain ⟨m, rfl⟩ : ∃ m, n = m + 1 := ⟨n - 1, by omega⟩
  rw [ct_succ_f (by rw [ev_kp h, Nat.mod_eq_of_lt (by omega)]; exact decide_eq_false (by omega)), ev_ct_r h (by omega)]
  rfl
/-- the i-th survivor of Every(n) -/
theorem ev_nth {n i : Nat} (h : 2 ≤ n) : kp (evP n) (i + i / (n - 1)) = true ∧ ct (kp (evP n)) (i + i / (n - 1)) = i := by
  have hr := Nat.mod_lt i (show 0 < n - 1 by omega)
  have hdm := Nat.div_add_mod i (n - 1)
  generalize i / (n - 1) = q at *
  generalize i % (n - 1) = r at *
  have e : i + q = q * n + r := by
    obtain ⟨m, rfl⟩ : ∃ m, n = m + 1 := ⟨n - 1, by omega⟩
    rw [← hdm, Nat.add_sub_cancel, Nat.mul_succ, Nat.mul_comm q m]
    omega
  rw [e]
  constructor
  · rw [ev_kp h, Nat.mul_comm, Nat.mul_add_mod, Nat.mod_eq_of_lt (by omega)]
    exact decide_eq_true hr
  · rw [ct_mul (ev_per h), ev_ct_n h, ev_ct_r h (by omega), Nat.mul_comm]
    exact hdm
theorem ntF_snoc (ns : List Nat) (n i : Nat) : ntF (ns ++ [n]) i = ntF ns (i + i / (n - 1)) := by
  unfold ntF
  rw [List.reverse_append]; rfl
theorem row_nth {ns : List Nat} (h : ∀ n ∈ ns, 2 ≤ n) : ∀ c, c ≤ ns.length → ∀ i, stg (evs ns) c (ntF (ns.take c) i) = true ∧ ct (stg (evs ns) c) (ntF (ns.take c) i) = i
  | 0, _, i => ⟨rfl, ct_true _⟩
  | c + 1, hc, i => by
    have hc' : c < ns.length := hc
    have hn := h _ (List.getElem_mem hc')
    rw [List.take_succ_eq_append_getElem hc', ntF_snoc]
    obtain ⟨h1, h2⟩ := row_nth h c (by omega) (i + i / (ns[c] - 1))
    obtain ⟨h3, h4⟩ := ev_nth (i := i) hn
    show cmp (stg (evs ns) c) (kp ((evs ns).getD c [])) _ = true ∧ ct (cmp (stg (evs ns) c) (kp ((evs ns).getD c []))) _ = i
    rw [ct_cmp, evs_getD hc', h2]
    refine ⟨?_, h4⟩
    unfold cmp
    rw [h1, h2, h3]; rfl
theorem row_nthF {ns : List Nat} (h : ∀ n ∈ ns, 2 ≤ n) (i : Nat) : nthF (stg (evs ns) ns.length) i = ntF ns i := by
  have := row_nth h ns.length (Nat.le_refl _) i
  rw [List.take_length] at this
  exact nthF_eq this.1 this.2
theorem fold_mul (g : Nat → Nat) : ∀ (ns : List Nat) (k : Nat), ns.foldl (fun a n => a * g n) k = k * ns.foldl (fun a n => a * g n) 1
  | [], k => (Nat.mul_one k).symm
  | n :: ns, k => by
    show ns.foldl (fun a n => a * g n) (k * g n) = k * ns.foldl (fun a n => a * g n) (1 * g n)
    rw [fold_mul g ns (k * g n), fold_mul g ns (1 * g n), Nat.one_mul, Nat.mul_assoc]
theorem kF_eq (ns : List Nat) (k : Nat) : kF ns k = k * prF ns := fold_mul (fun n => n) ns k
theorem pF_eq (ns : List Nat) (k : Nat) : pF ns k = k * pF ns 1 := fold_mul (fun n => n - 1) ns k
theorem prF_snoc (ns : List Nat) (n : Nat) : prF (ns ++ [n]) = prF ns * n := by
  unfold prF
  rw [List.foldl_append]; rfl
theorem pF_snoc (ns : List Nat) (n k : Nat) : pF (ns ++ [n]) k = pF ns k * (n - 1) := by
  unfold pF
  rw [List.foldl_append]; rfl
theorem cmp_ev {f : Nat → Bool} {P Kc n : Nat} (hn : 2 ≤ n) (h1 : Per f P) (h2 : ct f P = Kc) : Per (cmp f (kp (evP n))) (P * n) ∧ ct (cmp f (kp (evP n))) (P * n) = Kc * (n - 1) := by
  constructor
  · intro i
    have e1 : f (i + P * n) = f i := by rw [Nat.mul_comm]; exact h1.mul n i
    have e2 : ct f (i + P * n) = ct f i + Kc * n := by
      rw [show i + P * n = n * P + i by rw [Nat.mul_comm, Nat.add_comm], ct_mul h1, h2, Nat.mul_comm n Kc, Nat.add_comm]
    show (f (i + P * n) && kp (evP n) (ct f (i + P * n))) = (f i && kp (evP n) (ct f i))
    rw [e1, e2, (ev_per hn).mul]
  · rw [ct_cmp, show P * n = n * P + 0 by rw [Nat.mul_comm, Nat.add_zero], ct_mul h1, h2, show n * Kc + ct f 0 = Kc * n + 0 by rw [Nat.mul_comm]; rfl, ct_mul (ev_per hn), ev_ct_n hn]
    rfl
theorem row_per {ns : List Nat} (h : ∀ n ∈ ns, 2 ≤ n) : ∀ c, c ≤ ns.length → Per (stg (evs ns) c) (prF (ns.take c)) ∧ ct (stg (evs ns) c) (prF (ns.take c)) = pF (ns.take c) 1 ∧ 0 < prF (ns.take c) ∧ 0 < pF (ns.take c) 1
  | 0, _ => ⟨fun _ => rfl, rfl, Nat.one_pos, Nat.one_pos⟩
  | c + 1, hc => by
    have hc' : c < ns.length := hc
    have hn := h _ (List.getElem_mem hc')
    obtain ⟨h1, h2, h3, h4⟩ := row_per h c (by omega)
    obtain ⟨h5, h6⟩ := cmp_ev hn h1 h2
    rw [List.take_succ_eq_append_getElem hc', prF_snoc, pF_snoc]
    have e : stg (evs ns) (c + 1) = cmp (stg (evs ns) c) (kp (evP ns[c])) := by
      show cmp (stg (evs ns) c) (kp ((evs ns).getD c [])) = _
      rw [evs_getD hc']
    rw [e]
    exact ⟨h5, h6, Nat.mul_pos h3 (by omega), Nat.mul_pos h4 (by omega)⟩
/-- the share of a row -/
theorem row_share {ns : List Nat} {f : Nat → Bool} {L : Nat} (h : ∀ n ∈ ns, 2 ≤ n) (hf : ∀ k, f k = stg (evs ns) ns.length k) (hL : Per f L) : ct f L * prF ns = L * pF ns 1 := by
  obtain ⟨h1, h2, _⟩ := row_per h ns.length (Nat.le_refl _)
  rw [List.take_length] at h1 h2
  have e : f = stg (evs ns) ns.length := funext hf
  rw [← e] at h1 h2
  have := per_ratio hL h1
  rw [this, h2, Nat.mul_comm]
theorem gcd_last {k p m : Nat} (hm : 2 ≤ m) (hp : 0 < p) (h : k * m = p * (m - 1)) : k / Nat.gcd k p = m - 1 ∧ p / Nat.gcd k p = m := by
  have hk : 0 < k := by
    rcases Nat.eq_zero_or_pos k with z | z
    · rw [z, Nat.zero_mul] at h
      have := Nat.mul_pos hp (show 0 < m - 1 by omega)
      omega
    · exact z
  have hg : 0 < Nat.gcd k p := Nat.gcd_pos_of_pos_left _ hk
  have hc : Nat.Coprime (k / Nat.gcd k p) (p / Nat.gcd k p) := Nat.coprime_div_gcd_div_gcd hg
  have e1 : k = Nat.gcd k p * (k / Nat.gcd k p) := (Nat.mul_div_cancel' (Nat.gcd_dvd_left k p)).symm
  have e2 : p = Nat.gcd k p * (p / Nat.gcd k p) := (Nat.mul_div_cancel' (Nat.gcd_dvd_right k p)).symm
  generalize hgd : Nat.gcd k p = g at *
  generalize k / g = a at *
  generalize p / g = b at *
  have h' : a * m = b * (m - 1) := by
    rw [e1, e2, Nat.mul_assoc, Nat.mul_assoc] at h
    exact Nat.eq_of_mul_eq_mul_left hg h
  have hcm : Nat.Coprime (m - 1) m := by
    have : Nat.Coprime (m - 1) (m - 1 + 1) := by show Nat.gcd (m - 1) (m - 1 + 1) = 1; rw [Nat.gcd_self_add_right, Nat.gcd_one_right]
    rw [show m - 1 + 1 = m by omega] at this
    exact this
  have d1 : b ∣ m := hc.symm.dvd_of_dvd_mul_left (by rw [h']; exact Nat.dvd_mul_right _ _)
  have d2 : m ∣ b := hcm.symm.dvd_of_dvd_mul_right (by rw [← h']; exact Nat.dvd_mul_left _ _)
  have eb : b = m := Nat.dvd_antisymm d1 d2
  subst eb
  have : a * b = (b - 1) * b := by rw [h', Nat.mul_comm]
  exact ⟨Nat.eq_of_mul_eq_mul_right (by omega) this, rfl⟩
theorem lasD_of {k p m : Nat} (hm : 2 ≤ m) (hm2 : m ≤ 60) (hp : 0 < p) (h : k * m = p * (m - 1)) : lasD k p = some m := by
  obtain ⟨h1, h2⟩ := gcd_last hm hp h
  unfold lasD
  rw [h1, h2, if_pos ⟨by omega, by omega, by omega⟩]
theorem lasD_eq {k p m : Nat} (h : lasD k p = some m) : k * m = p * (m - 1) := by
  unfold lasD at h
  split at h
  · rename_i c
    have e := Option.some.inj h
    have e1 : k = Nat.gcd k p * (k / Nat.gcd k p) := (Nat.mul_div_cancel' (Nat.gcd_dvd_left k p)).symm
    have e2 : p = Nat.gcd k p * (p / Nat.gcd k p) := (Nat.mul_div_cancel' (Nat.gcd_dvd_right k p)).symm
    rw [e] at e2 c
    have e3 : k / Nat.gcd k p = m - 1 := by omega
    rw [e3] at e1
    generalize Nat.gcd k p = g at *
    rw [e1, e2, Nat.mul_assoc, Nat.mul_assoc, Nat.mul_comm (m - 1) m]
  · cases h
/-- a row that leaves l is found -/
theorem rows_in {ns : List Nat} {l : List Bool} (hne : ns ≠ []) (h : Nums ns) (hf : ∀ k, kp l k = stg (evs ns) ns.length k) (hl : 0 < l.length) : ns ∈ rowsN l ns.length := by
  obtain ⟨xs, m, rfl⟩ : ∃ xs m, ns = xs ++ [m] := ⟨ns.dropLast, ns.getLast hne, (List.dropLast_concat_getLast hne).symm⟩
  have hx : Nums xs := fun n hn => h n (List.mem_append_left _ hn)
  have hm := h m (List.mem_append_right _ (List.mem_singleton.mpr rfl))
  have h2 : ∀ n ∈ xs ++ [m], 2 ≤ n := fun n hn => (h n hn).1
  have sh := row_share h2 hf (kp_per l)
  rw [prF_snoc, pF_snoc] at sh
  have hpos : 0 < pF xs l.length := by
    have := (row_per (ns := xs) (fun n hn => (hx n hn).1) xs.length (Nat.le_refl _)).2.2.2
    rw [List.take_length] at this
    rw [pF_eq]
    exact Nat.mul_pos hl this
  have hlas : lasN l xs = some m := by
    unfold lasN
    refine lasD_of hm.1 hm.2 hpos ?_
    rw [kF_eq, pF_eq, Nat.mul_assoc, sh, Nat.mul_assoc]
  have hlv : lvN l (xs ++ [m]) = true := lvN_t fun i _ => by
    rw [show kp l = stg (evs (xs ++ [m])) (xs ++ [m]).length from funext hf, row_nthF h2]
  rw [List.length_append]
  show xs ++ [m] ∈ rowsN l (xs.length + 1)
  unfold rowsN
  rw [if_neg (by omega)]
  refine List.mem_flatMap.mpr ⟨xs, begD_all hx, ?_⟩
  unfold rwN
  rw [hlas]
  show _ ∈ if lvN l (xs ++ [m]) = true then [xs ++ [m]] else []
  rw [if_pos hlv]
  exact List.mem_singleton.mpr rfl
/-- two that agree as far as both periods, agree -/
theorem per_agree {f g : Nat → Bool} {p q : Nat} (hf : Per f p) (hg : Per g q) (hp : 0 < p) (hq : 0 < q) (h : ∀ n, n < p + q → f n = g n) : ∀ n, f n = g n := by
  have gp : Per g p := fun i => by
    have hi := Nat.mod_lt i hq
    have e1 : g (i + p) = g (i % q + p) := by
      have := hg.mod (i + p)
      have z := hg.mod (i % q + p)
      rw [← this, ← z, Nat.mod_add_mod]
    rw [e1, ← h _ (by omega), hf, h _ (by omega), hg.mod]
  intro n
  rw [← hf.mod, ← gp.mod]
  exact h _ (by have := Nat.mod_lt n hp; omega)
/-- what is found leaves l -/
theorem rows_out {r : List Nat} {l : List Bool} {c : Nat} (gl : Good l) (h : r ∈ rowsN l c) : r.length = c ∧ Nums r ∧ (∀ k, stg (evs r) r.length k = kp l k) ∧ ct (kp l) l.length * prF r = l.length * pF r 1 := by
  have l1 := gl.one
  unfold rowsN at h
  split at h
  · rename_i e
    subst e
    split at h
    · rename_i e
      subst e
      rw [List.mem_singleton.mp h]
      exact ⟨rfl, (fun n hn => nomatch hn), fun k => by rw [kp_one]; rfl, rfl⟩
    · cases h
  · rename_i hc
    obtain ⟨xs, hx, hr⟩ := List.mem_flatMap.mp h
    obtain ⟨hnx, hlx⟩ := begD_nums hx
    unfold rwN at hr
    cases hla : lasN l xs with
    | none => rw [hla] at hr; cases hr
    | some m =>
      rw [hla] at hr
      have hr : r ∈ if lvN l (xs ++ [m]) = true then [xs ++ [m]] else [] := hr
      split at hr
      · rename_i hlv
        have hr := List.mem_singleton.mp hr
        subst hr
        have hm := lasD_b hla
        have hN : Nums (xs ++ [m]) := fun n hn => by
          rcases List.mem_append.mp hn with hn | hn
          · exact hnx n hn
          · rw [List.mem_singleton.mp hn]; exact hm
        have h2 : ∀ n ∈ xs ++ [m], 2 ≤ n := fun n hn => (hN n hn).1
        have hlv' : ∀ i, (∀ j, j < i → nthF (kp l) j < l.length + prF (xs ++ [m])) → ntF (xs ++ [m]) i = nthF (kp l) i := by
          by_cases z : ∀ i, (∀ j, j < i → nthF (kp l) j < l.length + prF (xs ++ [m])) → ntF (xs ++ [m]) i = nthF (kp l) i
          · exact z
          · rw [lvN_f z] at hlv; cases hlv
        obtain ⟨p1, p2, p3, p4⟩ := row_per h2 (xs ++ [m]).length (Nat.le_refl _)
        rw [List.take_length] at p1 p2 p3 p4
        refine ⟨by rw [List.length_append, hlx]; show c - 1 + 1 = c; omega, hN, ?_, ?_⟩
        · have hnt := fun i => row_nthF h2 i
          generalize hP : prF (xs ++ [m]) = Pr at *
          generalize hst : stg (evs (xs ++ [m])) (xs ++ [m]).length = f at *
          have hsz : 0 < ct f Pr := by rw [p2]; exact p4
          refine fun k => (per_agree (kp_per l) p1 l1 p3 (fun n hn => ?_) k).symm
          have low : ∀ {g : Nat → Bool} {i j a b : Nat}, g a = true → ct g a = i → g b = true → ct g b = j → j < i → b < a := fun {g i j a b} h1 h2 h3 h4 h5 => by
            rcases Nat.lt_or_ge b a with z | z
            · exact z
            · have := ct_mono g z
              omega
          rw [Bool.eq_iff_iff]
          constructor
          · intro hk
            have e := hlv' (ct (kp l) n) fun j hj => by
              obtain ⟨b, b1, b2⟩ := nth_of (kp_per l) gl.toPat.size j
              rw [nthF_eq b1 b2]
              have := low hk rfl b1 b2 hj
              omega
            rw [nthF_eq hk rfl, ← hnt] at e
            obtain ⟨b, b1, b2⟩ := nth_of p1 hsz (ct (kp l) n)
            rw [nthF_eq b1 b2] at e
            rw [← e]; exact b1
          · intro hk
            have all : ∀ j, j ≤ ct f n → nthF (kp l) j = nthF f j := fun j => by
              induction j using Nat.strongRecOn with
              | ind j ih =>
                intro hj
                rw [hnt, hlv' j fun j' hj' => ?_]
                rw [ih j' hj' (by omega)]
                obtain ⟨b, b1, b2⟩ := nth_of p1 hsz j'
                rw [nthF_eq b1 b2]
                have := low hk rfl b1 b2 (by omega)
                omega
            have e := all (ct f n) (Nat.le_refl _)
            rw [nthF_eq hk rfl] at e
            obtain ⟨b, b1, b2⟩ := nth_of (kp_per l) gl.toPat.size (ct f n)
            rw [nthF_eq b1 b2] at e
            rw [← e]; exact b1
        · have e := lasD_eq hla
          rw [kF_eq, pF_eq] at e
          rw [prF_snoc, pF_snoc, ← Nat.mul_assoc, e, Nat.mul_assoc]
      · cases hr
theorem begD_nodup : ∀ c, (begD c).Nodup
  | 0 => List.nodup_cons.mpr ⟨List.not_mem_nil, List.nodup_nil⟩
  | c + 1 => by
    show ((List.range 59).flatMap fun t => (begD c).map fun r => (2 + t) :: r).Pairwise (· ≠ ·)
    rw [List.pairwise_flatMap]
    refine ⟨fun t _ => ?_, ?_⟩
    · rw [List.pairwise_map]
      exact (begD_nodup c).imp fun h z => h (List.cons.inj z).2
    · refine List.nodup_range.imp fun {a b} hab x hx y hy z => ?_
      obtain ⟨r, _, rfl⟩ := List.mem_map.mp hx
      obtain ⟨r', _, rfl⟩ := List.mem_map.mp hy
      have := (List.cons.inj z).1
      omega
theorem rwN_pre {l : List Bool} {xs r : List Nat} (h : r ∈ rwN l xs) : ∃ m, r = xs ++ [m] := by
  unfold rwN at h
  split at h
  · rename_i m _
    split at h
    · exact ⟨m, List.mem_singleton.mp h⟩
    · cases h
  · cases h
theorem rowsN_nodup (l : List Bool) (c : Nat) : (rowsN l c).Nodup := by
  unfold rowsN
  split
  · split
    · exact List.nodup_cons.mpr ⟨List.not_mem_nil, List.nodup_nil⟩
    · exact List.nodup_nil
  · show ((begD (c - 1)).flatMap (rwN l)).Pairwise (· ≠ ·)
    rw [List.pairwise_flatMap]
    refine ⟨fun xs _ => ?_, (begD_nodup _).imp fun {a b} hab x hx y hy z => ?_⟩
    · have := rwN_len l xs
      match h : rwN l xs with
      | [] => exact .nil
      | [x] => exact List.pairwise_singleton _ _
      | x :: y :: t => rw [h] at this; simp at this
    · obtain ⟨m, rfl⟩ := rwN_pre hx
      obtain ⟨m', rfl⟩ := rwN_pre hy
      exact hab (List.append_inj_left' z rfl)
theorem rowsTo_nodup {l : List Bool} (gl : Good l) : ∀ c, (rowsTo l c).Nodup
  | 0 => List.nodup_nil
  | c + 1 => by
    rw [rowsTo_succ]
    refine List.nodup_append.mpr ⟨rowsTo_nodup gl c, rowsN_nodup l c, fun a ha b hb z => ?_⟩
    subst z
    obtain ⟨k, hk, hak⟩ := List.mem_flatMap.mp (show a ∈ (List.range c).flatMap (rowsN l) from ha)
    have h1 := (rows_out gl hak).1
    have h2 := (rows_out gl hb).1
    have := List.mem_range.mp hk
    omega
theorem rowsTo_mem {l : List Bool} (gl : Good l) {c : Nat} {r : List Nat} (h : r ∈ rowsTo l c) : r.length < c ∧ Nums r ∧ (∀ k, stg (evs r) r.length k = kp l k) ∧ ct (kp l) l.length * prF r = l.length * pF r 1 := by
  obtain ⟨k, hk, hak⟩ := List.mem_flatMap.mp (show r ∈ (List.range c).flatMap (rowsN l) from h)
  obtain ⟨h1, h2⟩ := rows_out gl hak
  have := List.mem_range.mp hk
  exact ⟨by omega, h2⟩
theorem rowsTo_in {ns : List Nat} {l : List Bool} (hne : ns ≠ []) (h : Nums ns) (hf : ∀ k, kp l k = stg (evs ns) ns.length k) (hl : 0 < l.length) : ns ∈ rowsTo l (ns.length + 1) := by
  rw [rowsTo_succ]
  exact List.mem_append_right _ (rows_in hne h hf hl)
theorem rowsTo_app (l : List Bool) (a : Nat) : ∀ b, ∃ t, rowsTo l (a + b) = rowsTo l a ++ t ∧ ∀ r ∈ t, ∃ c, a ≤ c ∧ r ∈ rowsN l c
  | 0 => ⟨[], by rw [List.append_nil]; rfl, fun r h => nomatch h⟩
  | b + 1 => by
    obtain ⟨t, e, h⟩ := rowsTo_app l a b
    refine ⟨t ++ rowsN l (a + b), by rw [← Nat.add_assoc, rowsTo_succ, e, List.append_assoc], fun r hr => ?_⟩
    rcases List.mem_append.mp hr with hr | hr
    · exact h r hr
    · exact ⟨a + b, by omega, hr⟩
theorem count_one {α : Type} [BEq α] [LawfulBEq α] {a : α} : ∀ {l : List α}, l.Nodup → a ∈ l → l.countP (· == a) = 1
  | b :: l, h, m => by
    obtain ⟨h1, h2⟩ := List.nodup_cons.mp h
    rw [List.countP_cons]
    rcases List.mem_cons.mp m with rfl | m
    · rw [if_pos (beq_self_eq_true _)]
      have : l.countP (· == a) = 0 := by
        rw [List.countP_eq_zero]
        exact fun x hx e => h1 (eq_of_beq e ▸ hx)
      omega
    · rw [count_one h2 m, if_neg (fun e => h1 (by rw [eq_of_beq e]; exact m))]

theorem c_maxL {X : Cx} {σ : L2.St} {H : Hp} {Q : VK} {a : Addr} {ns : List Int} (hc : X.calm = true) (h : SqL X.K H a (ns.map V.int)) (hne : 0 < ns.length) (q : ∀ m, m ∈ ns → (∀ x ∈ ns, x ≤ m) → Q (.int m) H) : WC X (.builtin "max") [.ref a] σ H Q := by
  refine ⟨fun pins s us I rv => ?_⟩
  obtain ⟨its, rw', hl, hzl⟩ := I.list h
  rw [Vals.ref1 rv]
  have hi := rw'.ints
  obtain ⟨xs, e⟩ := hi.allInts.items
  have hns : xs.toList.map (·.1) = ns := by
    have := hi.numsOf
    rw [← this, ← nums_intItems, ← e]
  have hsz : xs.size = ns.length := by rw [← hns]; simp
  refine max_intList (I.ok.hd hc) (by rw [← e]; exact hl.isList) (by omega) fun v h' tk hv hk => ?_
  obtain ⟨t, rfl⟩ := intItems_at hv
  obtain ⟨h1, h2⟩ := argBest_gt (numAt xs) (xs.size - 1)
  refine ⟨.int _, H, I.kept (t' := tk) hk, ⟨t, rfl⟩, q _ ?_ fun a ha => ?_⟩
  · rw [numAt_eq, hns, List.getD_eq_getElem?_getD, List.getElem?_eq_getElem (by omega)]
    exact List.getElem_mem _
  · obtain ⟨j, hj, rfl⟩ := List.getElem_of_mem ha
    have := h2 j (by omega)
    rw [numAt_eq xs j, hns, List.getD_eq_getElem?_getD, List.getElem?_eq_getElem hj] at this
    exact this
theorem a_row {X : Cx} {σ : L2.St} {H : Hp} {Q : VK} {j : Nat} {a : Addr} {rs : List Addr} {ls : List (List Bool)} (RW : ClF X.K X.mg "Row" ["parts", "stages"]) (F : RwP X.prog X.w X.K X.mg X.base "sieve" (spRowSv X.K)) (hr : Room j X.A) (hj : 4 ≤ j) (row : RowAt X.K H a rs ls) (q : ∀ p m, SieveAt X.K H p m → (∀ k, kp m k = stg ls rs.length k) → Q (.ref p) H) : WAt X (.ref a) "sieve" σ H Q := by
  obtain ⟨pp, gg, hpp, FF⟩ := F.ex
  obtain ⟨dxr, tr, pr, qr, mr, hrow, _⟩ := id row
  exact a_prop (E := E0) RW.cls hpp FF (hr.mono hj) hrow ⟨a, _, _, rfl, row, q⟩
theorem RowAt.at {K : PySem.W.Frag} {H : Hp} {a : Addr} {rs : List Addr} {ls : List (List Bool)} (h : RowAt K H a rs ls) : ∃ dx u v, H a = some (.ins (cRow K) dx [("parts", u), ("stages", v)]) := by
  obtain ⟨dx, t, p, qs, ms, h1, _⟩ := h
  exact ⟨dx, _, _, h1⟩
theorem lim33 {ns : List Nat} (h3 : ns.length ≤ 3) (h : ∀ n ∈ ns, 2 ≤ n ∧ n ≤ 7) {c : Nat} (hcl : c ≤ ns.length) : LimAll c (evs ns) := fun i hi r gr kr => by
  have hpat : ∀ j, j < i → Pat ((evs ns).getD j []) ∧ ((evs ns).getD j []).length ≤ 7 := fun j hj => by
    have hjl : j < ns.length := by omega
    have hn := h _ (List.getElem_mem hjl)
    rw [evs_getD hjl, ev_len hn.1]
    exact ⟨blL_pat (by omega) (by omega), hn.2⟩
  obtain ⟨qq, h0, h1, h2, _⟩ := stg_small (ls := evs ns) (b := 7) i hpat
  have hml : r.length ≤ qq := gr.le h0 (by rw [show kp r = stg (evs ns) i from funext kr]; exact h2)
  have hb : 7 ^ i ≤ 49 := by
    rcases (by omega : i = 0 ∨ i = 1 ∨ i = 2) with rfl | rfl | rfl <;> decide
  have hil : i < ns.length := by omega
  have hn := h _ (List.getElem_mem hil)
  rw [evs_getD hil]
  exact comp_small gr.toPat (blL_pat (by omega) (by omega)) (show r.length ≤ 49 by omega) (show (evP ns[i]).length ≤ 7 by rw [ev_len hn.1]; exact hn.2) (by decide) (by decide)
def spLRow33 (P : Program) (w : World) (K : PySem.W.Frag) (mg : Str → Option Value) (base : Heap) : Sp := fun vs H Q _ => ∃ (t : Addr) (ns : List Nat), vs = [.ref t] ∧ H t = some (.tup (iV ns)) ∧ ns.length ≤ 3 ∧ (∀ n ∈ ns, 2 ≤ n ∧ n ≤ 7) ∧
  ∀ b rs H', Same H H' → rs.length = ns.length → RowAt K H' b rs (evs ns) → Q (.ref b) H'
theorem ok__law_row (F : FunD K "_law_row" "_law_row" (defArgs s__law_row) (defBody s__law_row) (defScope s__law_row) [] [] f fd) (hb : ∀ x ∈ BB, mg x = none) (RW : ClF K mg "Row" ["parts", "stages"]) (gE : mg "Every" = some (.ref (He.ga K "Every"))) (RE : RCl P w K mg base (cEv K)) (h7 : Mkr P w K mg base (cEv K) 7 (spEvInit K)) (h8 : Mkr P w K mg base (cRow K) 8 (fun vs H Q E => ∃ ws rest, vs = ws ++ rest ∧ ws.length = 1 ∧ rest.length ≤ sizeLine ∧ ∀ p, H p = Option.none → spRowI P w K mg base (ws ++ [V.ref p]) (upd H p (.tup rest)) Q E)) (h9 : Mth P w K mg base (cRow K) "then" 10 (spThen P w K mg base)) : FnR P w K mg base (L2.CX P w) 11 f (spLRow33 P w K mg base) := by
  refine fnr_of F sc__law_row (fun vs H Q E h => ?_) (fun kV doc pm an cdv ct us hl => match us, hl with | [_], _ => rfl) (fun x hx => hb x (by revert x; decide +kernel)) fun cd A outer s H vs Q E hr hc h => ?_
  · obtain ⟨t, ns, rfl, _⟩ := h; rfl
  · obtain ⟨t, ns, rfl, ht, hn3, hns, q⟩ := h
    refine wl_start (σ' := [some (.ref t), none, none]) rfl (wl_cons ?_)
    refine ws_set hc (by walk_at "mb") ?_
    refine w_make0 hc (by walk_at "mb") RW.g h8 hr (by decide) passL ?_
    refine made_rw (P := P) (w := w) (mg := mg) (base := base) (rs := []) (ls := evs ns) (by decide) (fun i hi => absurd hi (Nat.not_lt_zero _)) (fun i hi => absurd hi (Nat.not_lt_zero _)) fun a H1 e1 row => ?_
    refine ⟨_, by walk_at "put", ?_⟩
    walk_at "go"
    refine ws_for owns_cx hc ?_
    have ht1 := e1 _ _ ht
    refine wi_seqN hc (by walk_at "at") (by walk_at "mb") (.inr ht1) fun J hJ => ?_
    refine ⟨_, _, hJ H1 rfl, fun i σ' H' => Same H1 H' ∧ ∃ b rs o, σ' = [some (.ref t), some (.ref b), o] ∧ rs.length = i ∧ i ≤ ns.length ∧ RowAt K H' b rs (evs ns) ∧ RdAll P w K mg base H' rs (evs ns), ⟨Same.refl _, a, [], _, rfl, rfl, Nat.zero_le _, row, fun i hi => absurd hi (Nat.not_lt_zero _)⟩, fun i σ' H' h => h.1, fun i σ' H2 hi ⟨e2, b, rs, o, hσ, hrs, hil, hrow, hall⟩ => ?_, fun σ' H2 ⟨e2, b, rs, o, hσ, hrs, hil, hrow, hall⟩ => ?_⟩
    · subst hσ
      rw [List.length_map] at hi
      have hn := hns _ (List.getElem_mem hi)
      rw [iV_getD hi]
      have hev := evs_getD hi
      generalize ns[i] = n at hn hev
      refine wg_name hc (by walk_at "put") (by walk_at "mb") ?_
      walk_at "go"
      refine ws_set hc (by walk_at "mb") ?_
      refine w_meth h9 hr (by decide) passL ?_
      walk_at "w"
      obtain ⟨dx, u, v, hat⟩ := hrow.at
      refine ⟨b, _, _, rfl, hat, rfl, ?_⟩
      refine wa_cons ?_
      refine w_make hc (by walk_at "mb") gE h7 hr (by decide) passL ?_
      walk_at "w"
      refine made_ev RE (by omega) (by omega) fun r0 H3 e3 _ rd => ?_
      refine wa_nil ?_
      have hlen : (rs ++ [r0]).length = i + 1 := by rw [List.length_append, hrs]; rfl
      have all3 : RdAll P w K mg base H3 (rs ++ [r0]) (evs ns) := fun j hj => by
        rw [hlen] at hj
        by_cases hji : j < i
        · rw [List.getD_eq_getElem?_getD, List.getElem?_append_left (by omega), ← List.getD_eq_getElem?_getD]
          exact (hall j (by omega)).same e3
        · have ej : j = i := by omega
          subst ej
          rw [hev, List.getD_eq_getElem?_getD, List.getElem?_append_right (by omega), hrs, Nat.sub_self]
          exact rd
      have eP : (evs ns).take i ++ (evs ns).drop i = evs ns := List.take_append_drop i _
      refine ⟨b, rs, [r0], evs ns, [], rfl, hrow.same e3, by rw [List.append_nil]; exact all3, by rw [hlen]; omega, by rw [hlen, List.append_nil]; exact lim33 hn3 hns (by omega), fun b2 H4 e4 row4 => ?_⟩
      rw [List.append_nil] at row4
      refine ⟨_, by walk_at "put", ?_⟩
      refine wl_nil ?_
      exact ⟨e2.trans (e3.trans e4), b2, rs ++ [r0], _, rfl, hlen, hi, row4, all3.same e4⟩
    · subst hσ
      rw [List.length_map] at hrs
      walk_at "w"
      exact q b rs H2 (e1.trans e2) hrs hrow
def spChk33 (K : PySem.W.Frag) : Sp := fun vs H Q _ => ∃ (t a : Addr) (r : List Nat) (l : List Bool), vs = [.ref t, .ref a] ∧ H t = some (.tup (iV r)) ∧ r.length ≤ 3 ∧ Nums r ∧ SieveAt K H a l ∧ l.length ≤ 400 ∧ (∀ k, stg (evs r) r.length k = kp l k) ∧ ct (kp l) l.length * prF r = l.length * pF r 1 ∧ ∀ H', Same H H' → Q (.bl true) H'
theorem ok__law_check_one (F : FunD K "_law_check_one" "_law_check_one" (defArgs s__law_check_one) (defBody s__law_check_one) (defScope s__law_check_one) [] [] f fd) (hb : ∀ x ∈ BB, mg x = none) (SC : SvC K mg) (RW : ClF K mg "Row" ["parts", "stages"]) (h1 : Fn P w K mg base "density" 5 (spDens K)) (h2 : Fn P w K mg base "_law_row" 11 (spLRow33 P w K mg base)) (h3 : RwP P w K mg base "sieve" (spRowSv K)) (h5 : EqM P w K mg base (cS K) 4 (spSvEq K)) : FnR P w K mg base (L2.CX P w) 12 f (spChk33 K) := by
  refine fnr_of F sc__law_check_one (fun vs H Q E h => ?_) (fun kV doc pm an cdv ct us hl => match us, hl with | [_, _], _ => rfl) (fun x hx => hb x (by revert x; decide +kernel)) fun cd A outer s H vs Q E hr hc h => ?_
  · obtain ⟨t, a, r, l, rfl, _⟩ := h; rfl
  · obtain ⟨t, a, r, l, rfl, ht, hr3, hnr, ha, hl, hst, hsh, q⟩ := h
    have hz : sizeLine = 16777216 := sizeLine_eq
    have gl := ha.1
    have s1 := gl.toPat.size
    have s2 := ct_le (kp l) l.length
    have g1 := Nat.gcd_pos_of_pos_left l.length s1
    refine wl_start (σ' := [some (.ref t), some (.ref a), none, none, none]) rfl (wl_cons ?_)
    refine ws_asg ?_
    refine w_call hc (by walk_at "mb") h1 hr (by decide) passL ?_
    walk_at "w"
    refine ⟨a, l, rfl, ha, fun T H1 e1 hT => ?_⟩
    refine wg_tup hc (.inl (.inl hT)) ?_
    walk_at "w"
    have hd1 : Nat.gcd (ct (kp l) l.length) l.length ∣ ct (kp l) l.length := Nat.gcd_dvd_left _ _
    have hd2 : Nat.gcd (ct (kp l) l.length) l.length ∣ l.length := Nat.gcd_dvd_right _ _
    have x1 := Nat.div_le_self (ct (kp l) l.length) (Nat.gcd (ct (kp l) l.length) l.length)
    have x2 := Nat.div_le_self l.length (Nat.gcd (ct (kp l) l.length) l.length)
    have hsh' : ct (kp l) l.length / Nat.gcd (ct (kp l) l.length) l.length * prF r = l.length / Nat.gcd (ct (kp l) l.length) l.length * pF r 1 := by
      refine Nat.eq_of_mul_eq_mul_left g1 ?_
      rw [← Nat.mul_assoc, ← Nat.mul_assoc, Nat.mul_div_cancel' hd1, Nat.mul_div_cancel' hd2]
      exact hsh
    generalize ct (kp l) l.length / Nat.gcd (ct (kp l) l.length) l.length = x at *
    generalize l.length / Nat.gcd (ct (kp l) l.length) l.length = y at *
    refine ws_for owns_cx hc ?_
    have ht1 := e1 _ _ ht
    refine wi_seqN hc (by walk_at "at") (by walk_at "mb") (.inr ht1) fun J hJ => ?_
    refine ⟨_, _, hJ H1 rfl, fun i σ' H' => Same H1 H' ∧ ∃ (k p : Nat) (o : Option V), σ' = [some (.ref t), some (.ref a), o, some (.int (k : Nat)), some (.int (p : Nat))] ∧ k = kF (r.take i) x ∧ p = pF (r.take i) y ∧ k ≤ 400 * 60 ^ i ∧ p ≤ 400 * 60 ^ i, ⟨Same.refl _, x, y, _, rfl, rfl, rfl, by omega, by omega⟩, fun i σ' H' h => h.1, fun i σ' H2 hi ⟨e2, k, p, o, hσ, hk, hp, kb, pb⟩ => ?_, fun σ' H2 ⟨e2, k, p, o, hσ, hk, hp, kb, pb⟩ => ?_⟩
    · subst hσ
      rw [List.length_map] at hi
      have hn := hnr _ (List.getElem_mem hi)
      have h60 : 60 ^ i ≤ 3600 := by
        rcases (by omega : i = 0 ∨ i = 1 ∨ i = 2) with rfl | rfl | rfl <;> decide
      rw [iV_getD hi]
      have hks := fold_take (g := fun a n => a * n) (b := x) hi
      have hps := fold_take (g := fun a n => a * (n - 1)) (b := y) hi
      generalize r[i] = n at hn hks hps
      refine wg_name hc (by walk_at "put") (by walk_at "mb") ?_
      walk_at "go"
      refine ws_par hc (by kernel_rfl) (by kernel_rfl) (by decide +kernel) ?_ (by with_unfolding_all rfl) (by with_unfolding_all rfl) (by with_unfolding_all rfl) (by with_unfolding_all rfl) ⟨3, 4, rfl, rfl⟩
      walk_at "w"
      refine b_mul (mul_small (by omega) (by omega)) ?_
      walk_at "w"
      refine b_mul (mul_small (by omega) (by omega)) ?_
      refine ⟨_, _, by walk_at "put", by walk_at "put", ?_⟩
      walk_at "w"
      obtain ⟨n', rfl⟩ : ∃ n', n = n' + 1 := ⟨n - 1, by omega⟩
      refine ⟨e2, k * (n' + 1), p * n', _, by rw [show ((n' + 1 : Nat) : Int) - 1 = (n' : Int) by omega]; rfl, (by rw [hk]; exact hks.symm), (by rw [hp]; exact hps.symm), ?_, ?_⟩
      · exact Nat.le_trans (Nat.mul_le_mul kb hn.2) (by rw [Nat.pow_succ, Nat.mul_assoc]; exact Nat.le_refl _)
      · exact Nat.le_trans (Nat.mul_le_mul pb (show n' ≤ 60 by omega)) (by rw [Nat.pow_succ, Nat.mul_assoc]; exact Nat.le_refl _)
    · subst hσ
      rw [List.length_map, List.take_length] at hk hp
      have hkp : k = p := by rw [hk, hp, kF_eq, pF_eq]; exact hsh'
      subst hkp
      refine wl_cons ?_
      refine ws_ret ?_
      refine w_and ?_
      walk_at "w"
      rw [decide_eq_true (Eq.refl ((k : Nat) : Int))]
      refine ite_t ?_
      refine w_one ?_
      refine w_or ?_
      refine w_cmp ?_ (by walk_at "hm")
      refine w_callB hc (by walk_at "mb") bt_max ?_
      refine wa_cons ?_
      walk_at "w"
      refine ⟨t, _, rfl, .inr (.inl (.inl (e2 _ _ ht1))), fun D H3 hD e3 hD3 => ?_⟩
      walk_at "w"
      refine ⟨by show 1 ≤ sizeLine; omega, fun D4 H4 hD4 e4 hD4' => ?_⟩
      refine b_cat (e4 _ _ hD3) hD4' (by rw [List.length_map]; show r.length + 1 ≤ sizeLine; omega) fun D5 H5 hD5 e5 hD5' => ?_
      refine wa_nil ?_
      refine c_maxL (ns := r.map (fun n => ((n : Nat) : Int)) ++ [0]) hc.calm (.inl (.inl (by rw [hD5', List.map_append, List.map_map]; rfl))) (by simp) fun mx hm1 hm2 => ?_
      have e25 := e2.trans (e3.trans (e4.trans e5))
      walk_at "w"
      refine if_dec (fun c => ?_) (fun c => ?_)
      · exact q _ (e1.trans e25)
      · have h7 : ∀ n ∈ r, 2 ≤ n ∧ n ≤ 7 := fun n hn => by
          have z := hm2 _ (List.mem_append_left _ (List.mem_map.mpr ⟨n, hn, rfl⟩))
          have y := hnr n hn
          omega
        refine w_one ?_
        refine w_cmp ?_ (by walk_at "hm")
        refine w_attr ?_
        refine w_call hc (by walk_at "mb") h2 hr (by decide) passL ?_
        walk_at "w"
        refine ⟨t, r, rfl, e25 _ _ ht1, hr3, h7, fun b rs H6 e6 hrs hrow => ?_⟩
        refine a_row RW h3 hr (by decide) hrow fun p m hm hk => ?_
        walk_at "w"
        have ha6 := ha.same (e1.trans (e25.trans e6))
        have eml : m = l := hm.1.uniq gl fun n => by rw [hk, hrs, hst]
        subst eml
        obtain ⟨_, dz1, pz1, hz1, _⟩ := id hm
        obtain ⟨_, dz2, pz2, hz2, _⟩ := id ha6
        refine b_eqO h5 hr (by decide) hz1 hz2 ?_
        refine ⟨p, a, m, m, rfl, hm, ha6, _, rfl, ?_⟩
        rw [decide_eq_true rfl]
        exact q _ (e1.trans (e25.trans e6))

abbrev tupD (r : List Nat) : PyData := .tuple (r.map fun n => PyData.int ((n : Nat) : Int))
theorem eqvAll_nats : ∀ ns ms : List Nat, PyData.eqvAll (ns.map fun n => PyData.int ((n : Nat) : Int)) (ms.map fun n => PyData.int ((n : Nat) : Int)) = decide (ns = ms)
  | [], [] => rfl
  | [], _ :: _ => rfl
  | _ :: _, [] => rfl
  | a :: ns, c :: ms => by
    show (PyData.eqv (.int a) (.int c) && PyData.eqvAll (ns.map fun n => PyData.int ((n : Nat) : Int)) (ms.map fun n => PyData.int ((n : Nat) : Int))) = _
    rw [eqvAll_nats ns ms]
    show (((a : Nat) : Int) == ((c : Nat) : Int) && decide (ns = ms)) = _
    by_cases h : a = c
    · subst h; simp
    · have : ¬ ((a : Nat) : Int) = ((c : Nat) : Int) := by omega
      simp [h, this]
theorem eqv_tupD (r r' : List Nat) : PyData.eqv (tupD r) (tupD r') = decide (r = r') := by
  simp only [PyData.eqv]
  exact eqvAll_nats r r'
theorem eqv_tupsD : ∀ rs : List (List Nat), PyData.eqvAll (rs.map tupD) (rs.map tupD) = true
  | [] => rfl
  | r :: rs => by
    show (PyData.eqv (tupD r) (tupD r) && PyData.eqvAll (rs.map tupD) (rs.map tupD)) = true
    rw [eqv_tupsD rs, eqv_tupD, decide_eq_true rfl]; rfl
theorem nats_lay : ∀ r : List Nat, PyData.canLayAll0 (r.map fun n => PyData.int ((n : Nat) : Int)) = true
  | [] => by simp [PyData.canLayAll0]
  | n :: r => by simp [PyData.canLayAll0, PyData.canLay0, nats_lay r]
theorem nats_depth : ∀ r : List Nat, PyData.depthAll (r.map fun n => PyData.int ((n : Nat) : Int)) = 0
  | [] => by simp [PyData.depthAll]
  | n :: r => by simp [PyData.depthAll, PyData.depth, nats_depth r]
theorem tupsD_lay : ∀ rs : List (List Nat), PyData.canLayAll0 (rs.map tupD) = true
  | [] => by simp [PyData.canLayAll0]
  | r :: rs => by simp [PyData.canLayAll0, PyData.canLay0, nats_lay r, tupsD_lay rs]
theorem tupsD_depth : ∀ rs : List (List Nat), PyData.depthAll (rs.map tupD) ≤ 1
  | [] => by simp [PyData.depthAll]
  | r :: rs => by
    have h1 := tupsD_depth rs
    have h2 := nats_depth r
    simp only [List.map_cons, PyData.depthAll, PyData.depth]
    omega
theorem tupD_shaped (r : List Nat) : SeqAt.shaped (tupD r) = true := by
  have h := nats_depth r
  show ((tupD r).canLay0 && decide ((tupD r).depth ≤ 64)) = true
  rw [Bool.and_eq_true]
  exact ⟨by simp [PyData.canLay0, nats_lay r], decide_eq_true (by simp only [PyData.depth]; omega)⟩
theorem tupsD_shaped (rs : List (List Nat)) : SeqAt.shaped (.list (rs.map tupD)) = true := by
  have h := tupsD_depth rs
  show ((PyData.list (rs.map tupD)).canLay0 && decide ((PyData.list (rs.map tupD)).depth ≤ 64)) = true
  rw [Bool.and_eq_true]
  exact ⟨by simp [PyData.canLay0, tupsD_lay rs], decide_eq_true (by simp only [PyData.depth]; omega)⟩
theorem dps_nats {H : Hp} : ∀ r : List Nat, DpAll K H (iV r) (r.map fun n => PyData.int ((n : Nat) : Int))
  | [] => .nil
  | n :: r => .cons (.int _) (dps_nats r)
theorem dp_tupD {H : Hp} {t : Addr} {r : List Nat} (h : H t = some (.tup (iV r))) : Dp K H (.ref t) (tupD r) := .tup (.inl (.inl h)) (dps_nats r)
theorem dps_rows {H : Hp} : ∀ {xs : List V} {rs : List (List Nat)}, RwsX H xs rs → DpAll K H xs (rs.map tupD)
  | [], [], _ => .nil
  | [], _ :: _, h => by have := h.1; simp at this
  | _ :: _, [], h => by have := h.1; simp at this
  | x :: xs, r :: rs, h => by
    obtain ⟨t, e1, e2⟩ := h.2 0 (by simp)
    have e1 : x = .ref t := e1
    have e2 : H t = some (.tup (iV r)) := e2
    rw [e1]
    refine .cons (dp_tupD e2) (dps_rows ⟨by have := h.1; simpa using this, fun i hi => ?_⟩)
    obtain ⟨t', e3, e4⟩ := h.2 (i + 1) (by simpa using hi)
    exact ⟨t', e3, e4⟩
theorem rwsX_take {H : Hp} {xs : List V} {rs : List (List Nat)} (h : RwsX H xs rs) (k : Nat) : RwsX H (xs.take k) (rs.take k) := ⟨by rw [List.length_take, List.length_take, h.1], fun i hi => by
  rw [List.length_take] at hi
  obtain ⟨t, h1, h2⟩ := h.2 i (by omega)
  refine ⟨t, ?_, ?_⟩
  · rw [List.getD_eq_getElem?_getD, List.getElem?_take_of_lt (by omega), ← List.getD_eq_getElem?_getD]; exact h1
  · rw [List.getD_eq_getElem?_getD, List.getElem?_take_of_lt (by omega), ← List.getD_eq_getElem?_getD]; exact h2⟩
theorem any_tupD (rs : List (List Nat)) (r : List Nat) : ((rs.map tupD).any fun z => PyData.eqv z (tupD r)) = decide (r ∈ rs) := by
  rw [List.any_map, Bool.eq_iff_iff, List.any_eq_true, decide_eq_true_iff]
  constructor
  · rintro ⟨z, hz, e⟩
    have e : PyData.eqv (tupD z) (tupD r) = true := e
    rw [eqv_tupD, decide_eq_true_iff] at e
    exact e ▸ hz
  · intro h
    exact ⟨r, h, by show PyData.eqv (tupD r) (tupD r) = true; rw [eqv_tupD]; exact decide_eq_true rfl⟩
theorem count_tupD (rs : List (List Nat)) (r : List Nat) : (rs.map tupD).countP (fun z => PyData.eqv z (tupD r)) = rs.countP (· == r) := by
  rw [List.countP_map]
  congr 1
  funext z
  show PyData.eqv (tupD z) (tupD r) = (z == r)
  rw [eqv_tupD, Bool.eq_iff_iff, decide_eq_true_iff, beq_iff_eq]
theorem ne_of_none33 {H H1 : Hp} {D : Addr} (e : Same H H1) (h : H1 D = none) : H D = none := none_of37 e h
theorem b_neNil33 {X : Cx} {σ : L2.St} {H : Hp} {Q : VK} {a b : Addr} (hu : X.A.units + 64 < cLine) (ha : H a = some (.lst [])) (hb : H b = some (.lst [])) (q : Q (.bl false) H) : WB X (compareOp .NotEq) (.ref a) (.ref b) σ H Q := by
  refine b_neD hu (.lst (.inl (.inl ha)) .nil) (.lst (.inl (.inl hb)) .nil) rfl rfl ?_
  rw [show (!PyData.eqv (PyData.list []) (PyData.list [])) = false by simp [PyData.eqv, PyData.eqvAll]]
  exact q
theorem prF_le33 : ∀ xs : List Nat, (∀ n ∈ xs, n ≤ 7) → prF xs ≤ 7 ^ xs.length
  | [], _ => Nat.le_refl _
  | n :: xs, h => by
    have h1 := prF_le33 xs fun m hm => h m (List.mem_cons_of_mem _ hm)
    have h2 := h n List.mem_cons_self
    have e : prF (n :: xs) = n * prF xs := by
      show xs.foldl (fun a n => a * n) (1 * n) = _
      rw [fold_mul (fun n => n), Nat.one_mul]; rfl
    rw [e, List.length_cons, Nat.pow_succ, Nat.mul_comm]
    exact Nat.mul_le_mul h1 h2
def spLaw (K : PySem.W.Frag) : Sp := fun vs H Q _ => ∃ (a : Addr) (ns : List Int), vs = [.ref a] ∧ SqL K H a (ns.map V.int) ∧ ns.length ≤ 63 ∧ ∀ H', Q (.bl true) H'
theorem ok_law (F : FunD K "law" "law" (defArgs s_law) (defBody s_law) (defScope s_law) [] [] f fd) (hb : ∀ x ∈ BB, mg x = none) (SC : SvC K mg) (RW : ClF K mg "Row" ["parts", "stages"])
    (h1 : Fn P w K mg base "_law_pool" 2 (spPool K)) (h2 : Fn P w K mg base "_law_take" 2 spTakeW) (h3 : Fn P w K mg base "_law_row" 11 (spLRow33 P w K mg base)) (h4 : Fn P w K mg base "_law_check_one" 12 (spChk33 K))
    (h5 : Fn P w K mg base "simple_rows" 14 (spSimpleX K)) (h6 : RwP P w K mg base "sieve" (spRowSv K)) : FnOk P w K mg base (L2.CX P w) 15 f fd ["_law_script"] (spLaw K) := by
  refine fnr_ofD F sc_law (fun vs H Q E h => ?_) (fun x hx => hb x (by revert x; decide +kernel)) fun cd A outer s H vs Q E hr hc h => ?_
  · obtain ⟨a, ns, rfl, _⟩ := h; rfl
  obtain ⟨sc, ns, rfl, hsc, hns, q⟩ := h
  have hz : sizeLine = 16777216 := sizeLine_eq
  have hu64 : (cx P w K mg base N_law "law" (defScope s_law) f cd A outer s H E).A.units + 64 < cLine := hr.units
  refine wl_start (σ' := [some (.ref sc), none, none, none, none, none, none, none, none]) rfl (wl_cons ?_)
  refine ws_for owns_cx hc ?_
  refine wi_range1 hc (by walk_at "mb") ?_
  walk_at "w"
  refine ⟨_, .inl ⟨_, hsc, rfl⟩, ?_⟩
  refine ⟨_, _, rfl, rfl, ?_⟩
  refine ⟨_, _, rfl, rfl, ?_⟩
  refine ⟨_, rfl, ?_⟩
  generalize hN : (if (if ((List.map V.int ns).length : Int) < 6 then ((List.map V.int ns).length : Int) else 6) > 2 then (if ((List.map V.int ns).length : Int) < 6 then ((List.map V.int ns).length : Int) else 6) else 2) = NN
  have hNN : 0 ≤ NN ∧ NN ≤ 6 := by
    rw [← hN]
    have : (0 : Int) ≤ ((List.map V.int ns).length : Int) := Int.natCast_nonneg _
    split <;> split <;> omega
  refine ⟨by omega, by omega, ?_⟩
  refine ⟨_, _, wlk_range, fun i σ' H' => Same H H' ∧ ∃ o1 o2 o3 o4 o5 o6, σ' = [some (.ref sc), o1, o2, o3, o4, o5, o6, none, none], ⟨Same.refl _, _, _, _, _, _, _, rfl⟩, fun i σ' H' h => h.1, fun i σ' H0 hi ⟨eH, o1, o2, o3, o4, o5, o6, hσ⟩ => ?_, fun σ' H0 ⟨eH, o1, o2, o3, o4, o5, o6, hσ⟩ => ?_⟩
  rotate_left
  · subst hσ
    walk_at "w"
    exact q _
  subst hσ
  rw [show (0 : Int) + (i : Nat) = ((i : Nat) : Int) by omega]
  refine wg_name hc (by walk_at "put") (by walk_at "mb") ?_
  walk_at "go"
  walk_at "w"
  refine w_call hc (by walk_at "mb") h1 hr (by decide) passL ?_
  walk_at "w"
  refine ⟨sc, ns, i, rfl, Same.seq eH hsc, hns, by omega, fun p H1 hp e1 hp1 => ?_⟩
  refine ⟨_, by walk_at "put", ?_⟩
  walk_at "go"
  refine ws_set hc (by walk_at "mb") ?_
  refine x_tupleL hc (by walk_at "mb") ?_
  refine w_lc hc (own := bO_law_0) (by kernel_rfl) (fun j acc => ∃ rs : List Nat, acc = iV rs ∧ rs.length = j ∧ ∀ n ∈ rs, 2 ≤ n ∧ n ≤ 7) ?_
  refine wi_range1 hc (by walk_at "mb") ?_
  walk_at "w"
  refine w_call hc (by walk_at "mb") h2 hr (by decide) passL ?_
  refine wa_cons ?_
  refine w_name hc (by walk_at "at") (by walk_at "mb") ?_
  refine wa_cons ?_
  refine WE.imp (Q := fun x H' => H' = H1 ∧ ∃ m : Nat, x = .int (m : Nat) ∧ 0 < m ∧ m ≤ 3) ?_ fun x H' ⟨eH', m, em, hm0, hm3⟩ => ?_
  · walk_at "w"
    refine if_dec (fun c => ?_) (fun c => ?_)
    · walk_at "w"
      exact ⟨rfl, 3, rfl, by decide, by decide⟩
    · walk_at "w"
      exact ⟨rfl, 2, rfl, by decide, by decide⟩
  subst eH' em
  refine wa_nil ?_
  refine ⟨p, m, rfl, hp1, hm0, Nat.lt_of_le_of_lt hm3 (by decide +kernel), fun r0 hr0 => ?_⟩
  refine b_add ?_
  rw [show (1 : Int) + ((r0 : Nat) : Int) = ((r0 + 1 : Nat) : Int) by omega]
  refine ⟨_, rfl, by omega, by omega, ?_⟩
  refine ⟨_, _, wlk_range, by omega, ⟨[], rfl, rfl, fun n h => nomatch h⟩, fun j acc H' hj hl hP hS => ?_, fun acc D1 H2 hl hP hD hS hDa => ?_⟩
  · obtain ⟨rs, rfl, hrl, hrs⟩ := hP
    intro X1 b1
    have c1 := nm_blk (L' := bL_law_0) (S' := bS_law_0) (G' := bG_law_0) (B' := bB_law_0) b1 hc (by kernel_rfl) (fun x hx => hb x (by revert x; decide +kernel))
    simp only [wipe, List.map_cons, List.map_nil, List.set_cons_succ, List.set_cons_zero]
    walk_at "w"
    refine ⟨rfl, rfl, ?_⟩
    intro X2 b2
    refine wts_nil ?_
    refine ⟨Same.refl _, ite_t ?_⟩
    intro X3 b3
    have c3 := nm_blk (L' := bL_law_0) (S' := bS_law_0) (G' := bG_law_0) (B' := bB_law_0) b3 hc (by kernel_rfl) (fun x hx => hb x (by revert x; decide +kernel))
    obtain ⟨_, _, _, _, _, rfl⟩ := b3
    walk_at "w"
    refine w_call c3 (by walk_at "mb") h2 hr (by decide) passL ?_
    walk_at "w"
    refine ⟨p, 6, rfl, hS _ _ hp1, by decide, by decide +kernel, fun r1 hr1 => ?_⟩
    walk_at "w"
    refine ⟨Same.refl _, rs ++ [r1 + 2], ?_, by rw [List.length_append, hrl]; rfl, fun n hn => ?_⟩
    · rw [show iV (rs ++ [r1 + 2]) = iV rs ++ [V.int ((r1 + 2 : Nat) : Int)] from List.map_append]
      rw [show (2 : Int) + ((r1 : Nat) : Int) = ((r1 + 2 : Nat) : Int) by omega]
    · rcases List.mem_append.mp hn with hn | hn
      · exact hrs n hn
      · rw [List.mem_singleton.mp hn]; omega
  obtain ⟨rs, rfl, hrl, hrs⟩ := hP
  rw [Int.toNat_natCast] at hrl
  refine ⟨D1, _, rfl, .inl (.inl hDa), fun t H3 ht e3 ht3 => ?_⟩
  refine ⟨_, by walk_at "put", ?_⟩
  have hr3 : rs.length ≤ 3 := by omega
  have hne : rs ≠ [] := fun z => by rw [z] at hrl; simp at hrl
  have hnum : Nums rs := fun n hn => by have := hrs n hn; omega
  have h2r : ∀ n ∈ rs, 2 ≤ n := fun n hn => (hrs n hn).1
  walk_at "go"
  refine ws_set hc (by walk_at "mb") ?_
  refine w_attr ?_
  refine w_call hc (by walk_at "mb") h3 hr (by decide) passL ?_
  walk_at "w"
  refine ⟨t, rs, rfl, ht3, hr3, hrs, fun b ras H4 e4 hras hrow => ?_⟩
  refine a_row RW h6 hr (by decide) hrow fun a l hs hk => ?_
  rw [hras] at hk
  refine ⟨_, by walk_at "put", ?_⟩
  have gl := hs.1
  have hl343 : l.length ≤ 343 := by
    obtain ⟨q1, q2, q3, q4⟩ := row_per h2r rs.length (Nat.le_refl _)
    rw [List.take_length] at q1 q2 q3 q4
    have hle := gl.le q3 (by rw [show kp l = stg (evs rs) rs.length from funext hk]; exact q1)
    have := prF_le33 rs fun n hn => (hrs n hn).2
    have : 7 ^ rs.length ≤ 343 := Nat.le_trans (Nat.pow_le_pow_right (by decide) hr3) (by decide)
    omega
  walk_at "go"
  walk_at "w"
  refine w_call hc (by walk_at "mb") h5 hr (by decide) passL ?_
  walk_at "w"
  have ht4 := e4 _ _ ht3
  refine ⟨rs.length, .inr ⟨_, .inl (.inl ht4), (List.length_map _).symm⟩, ?_⟩
  refine wa_nil ?_
  refine ⟨a, l, rs.length, rfl, hr3, hs, by omega, fun F5 xs H5 hF e5 hF5 hX => ?_⟩
  refine ⟨_, by walk_at "put", ?_⟩
  have hu65 : (cx P w K mg base N_law "law" (defScope s_law) f cd A outer s H E).A.units + 65 < cLine := by
    have := hr.un
    omega
  have hin : rs ∈ rowsTo l (rs.length + 1) := rowsTo_in hne hnum hk gl.one
  have hnd := rowsTo_nodup gl (rs.length + 1)
  have hmem := fun r (h : r ∈ rowsTo l (rs.length + 1)) => rowsTo_mem gl h
  have hRl : (rowsTo l (rs.length + 1)).length ≤ 13924 := by
    have : ∀ c, c ≤ 4 → (rowsTo l c).length ≤ 3481 * c := fun c => by
      induction c with
      | zero => intro _; exact Nat.le_refl _
      | succ c ih =>
        intro hc4
        have z := rowsN_len (l := l) (c := c) (by omega)
        have y := ih (by omega)
        rw [rowsTo_succ, List.length_append]
        omega
    have := this (rs.length + 1) (by omega)
    omega
  have hXl := hX.1
  have ht5 := e5 _ _ ht4
  have hs5 := hs.same e5
  generalize hR : rowsTo l (rs.length + 1) = R at *
  walk_at "go"
  refine ws_if ?_
  refine wt_of_ww (ww_or ?_)
  refine wt_cmp ?_ (by walk_at "hm")
  refine w_name hc (by walk_at "at") (by walk_at "mb") ?_
  refine w_name hc (by walk_at "at") (by walk_at "mb") ?_
  refine b_notinD hu65 (dp_tupD ht5) (.lst (.inl (.inl hF5)) (dps_rows hX)) (tupD_shaped _) (tupsD_shaped _) ?_
  rw [any_tupD, decide_eq_true hin]
  refine ⟨_, rfl, ?_⟩
  refine ite_f ?_
  refine ww_or1 ?_
  refine wt_cmp ?_ (by walk_at "hm")
  refine w_lc hc (own := bO_law_1) (by kernel_rfl) (fun j acc => acc = []) ?_
  refine wi_list ?_
  walk_at "w"
  refine ⟨F5, _, rfl, .inl (.inl hF5), _, _, wlk_list (.inl (.inl hF5)), by omega, rfl, fun j acc H' hj hl hP hS => ?_, fun acc D6 H6 hl hP hD hS6 hDa => ?_⟩
  · rw [hXl] at hj
    obtain ⟨tj, etj, htj⟩ := rwsX_get (hX.same hS) hj
    rw [etj]
    intro X1 b1
    have c1 := nm_blk (L' := bL_law_1) (S' := bS_law_1) (G' := bG_law_1) (B' := bB_law_1) b1 hc (by kernel_rfl) (fun x hx => hb x (by revert x; decide +kernel))
    simp only [wipe, List.map_cons, List.map_nil, List.set_cons_succ, List.set_cons_zero]
    walk_at "w"
    refine ⟨rfl, rfl, ?_⟩
    intro X2 b2
    refine wts_one ?_
    have c2 := nm_blk (L' := bL_law_1) (S' := bS_law_1) (G' := bG_law_1) (B' := bB_law_1) b2 hc (by kernel_rfl) (fun x hx => hb x (by revert x; decide +kernel))
    obtain ⟨_, _, _, _, _, rfl⟩ := b2
    refine wt_cmp ?_ (by walk_at "hm")
    refine w_countD hu65 ?_
    refine w_name c2 (by walk_at "at") (by walk_at "mb") ?_
    refine ⟨F5, xs, R.map tupD, rfl, .inl (.inl (hS _ _ hF5)), ?_⟩
    refine w_name c2 (by walk_at "at") (by walk_at "mb") ?_
    refine ⟨tupD R[j], .lst (.inl (.inl (hS _ _ hF5))) (dps_rows (hX.same hS)), dp_tupD htj, tupsD_shaped _, tupD_shaped _, ?_⟩
    rw [count_tupD, count_one hnd (List.getElem_mem hj)]
    walk_at "w"
    exact ⟨Same.refl _, ite_f hP⟩
  subst hP
  walk_at "w"
  refine ⟨by show 0 ≤ sizeLine; omega, fun D7 H7 hD7 e7 hD7' => ?_⟩
  refine b_neNil33 hu64 (e7 _ _ hDa) hD7' ?_
  have s57 := hS6.trans e7
  have hX7 := hX.same s57
  have hF7 := s57 _ _ hF5
  have ht7 := s57 _ _ ht5
  have hs7 := hs5.same s57
  walk_at "w"
  refine w_lc hc (own := bO_law_2) (by kernel_rfl) (fun j acc => acc = []) ?_
  refine wi_list ?_
  walk_at "w"
  refine ⟨F5, _, rfl, .inl (.inl hF7), _, _, wlk_list (.inl (.inl hF7)), by omega, rfl, fun j acc H' hj hl hP hS => ?_, fun acc D8 H8 hl hP hD8 hS8 hDa8 => ?_⟩
  · rw [hXl] at hj
    obtain ⟨tj, etj, htj⟩ := rwsX_get (hX7.same hS) hj
    obtain ⟨m1, m2, m3, m4⟩ := hmem _ (List.getElem_mem hj)
    rw [etj]
    generalize R[j] = r at htj m1 m2 m3 m4
    intro X1 b1
    have c1 := nm_blk (L' := bL_law_2) (S' := bS_law_2) (G' := bG_law_2) (B' := bB_law_2) b1 hc (by kernel_rfl) (fun x hx => hb x (by revert x; decide +kernel))
    simp only [wipe, List.map_cons, List.map_nil, List.set_cons_succ, List.set_cons_zero]
    walk_at "w"
    refine ⟨rfl, rfl, ?_⟩
    intro X2 b2
    refine wts_one ?_
    have c2 := nm_blk (L' := bL_law_2) (S' := bS_law_2) (G' := bG_law_2) (B' := bB_law_2) b2 hc (by kernel_rfl) (fun x hx => hb x (by revert x; decide +kernel))
    obtain ⟨_, _, _, _, _, rfl⟩ := b2
    walk_at "w"
    refine ⟨r.length, .inr ⟨_, .inl (.inl htj), (List.length_map _).symm⟩, ?_⟩
    walk_at "w"
    refine ⟨rs.length, .inr ⟨_, .inl (.inl (hS _ _ ht7)), (List.length_map _).symm⟩, ?_⟩
    walk_at "w"
    rw [decide_eq_false (show ¬ ((rs.length : Nat) : Int) < ((r.length : Nat) : Int) by omega)]
    walk_at "w"
    refine w_call c2 (by walk_at "mb") h4 hr (by decide) passL ?_
    walk_at "w"
    refine ⟨tj, a, r, l, rfl, htj, by omega, m2, hs7.same hS, by omega, m3, m4, fun H9 e9 => ?_⟩
    walk_at "w"
    exact ⟨e9, ite_f hP⟩
  subst hP
  walk_at "w"
  refine ⟨by show 0 ≤ sizeLine; omega, fun D10 H10 hD10 e10 hD10' => ?_⟩
  refine b_neNil33 hu64 (e10 _ _ hDa8) hD10' ?_
  have s710 := hS8.trans e10
  have hs10 := hs7.same s710
  have ht10 := s710 _ _ ht7
  walk_at "w"
  refine w_call hc (by walk_at "mb") h5 hr (by decide) passL ?_
  walk_at "w"
  refine ⟨rs.length, .inr ⟨_, .inl (.inl ht10), (List.length_map _).symm⟩, ?_⟩
  walk_at "w"
  have hpos : 1 ≤ rs.length := by omega
  rw [show ((rs.length : Nat) : Int) - 1 = ((rs.length - 1 : Nat) : Int) by omega]
  refine ⟨a, l, rs.length - 1, rfl, by omega, hs10, by omega, fun F11 xs11 H11 hF11 e11 hF11' hX11 => ?_⟩
  refine b_inD63 hu65 (dp_tupD (e11 _ _ ht10)) (.lst (.inl (.inl hF11')) (dps_rows hX11)) (tupD_shaped _) (tupsD_shaped _) ?_
  rw [any_tupD, decide_eq_false (fun z => by have := (rowsTo_mem gl z).1; omega)]
  walk_at "w"
  refine w_call hc (by walk_at "mb") h5 hr (by decide) passL ?_
  walk_at "w"
  have hs11 := hs10.same e11
  refine ⟨a, l, 3, rfl, Nat.le_refl 3, hs11, by omega, fun F12 xs12 H12 hF12 e12 hF12' hX12 => ?_⟩
  refine ⟨_, by walk_at "put", ?_⟩
  obtain ⟨tl, etl, htl⟩ := rowsTo_app l (rs.length + 1) (3 - rs.length)
  rw [show rs.length + 1 + (3 - rs.length) = 3 + 1 by omega, hR] at etl
  rw [etl] at hX12
  have s12 := (s57.trans s710).trans (e11.trans e12)
  have ht12 := s12 _ _ ht5
  have hF12k := s12 _ _ hF5
  have hX12l := hX12.1
  have hAl : (R ++ tl).length ≤ 13924 := by
    rw [← etl]
    have : ∀ c, c ≤ 4 → (rowsTo l c).length ≤ 3481 * c := fun c => by
      induction c with
      | zero => intro _; exact Nat.le_refl _
      | succ c ih =>
        intro hc4
        have z := rowsN_len (l := l) (c := c) (by omega)
        have y := ih (by omega)
        rw [rowsTo_succ, List.length_append]
        omega
    exact this 4 (Nat.le_refl _)
  walk_at "go"
  refine ws_if ?_
  refine wt_cmp ?_ (by walk_at "hm")
  refine w_lc hc (own := bO_law_3) (by kernel_rfl) (fun j acc => acc = xs12.take (min j R.length)) ?_
  refine wi_list ?_
  walk_at "w"
  refine ⟨F12, _, rfl, .inl (.inl hF12'), _, _, wlk_list (.inl (.inl hF12')), by omega, (by rw [Nat.zero_min]; rfl), fun j acc H' hj hl hP hS => ?_, fun acc D13 H13 hl hP hD13 hS13 hDa13 => ?_⟩
  · have hj0 := hj
    rw [hX12l] at hj
    obtain ⟨tj, etj, htj⟩ := rwsX_get (hX12.same hS) hj
    rw [etj]
    have hlen : ((R ++ tl)[j]).length ≤ rs.length ↔ j < R.length := by
      constructor
      · intro h
        rcases Nat.lt_or_ge j R.length with z | z
        · exact z
        · rw [List.getElem_append_right z] at h
          have hjb : j - R.length < tl.length := by rw [List.length_append] at hj; omega
          obtain ⟨c, hc1, hc2⟩ := htl _ (List.getElem_mem hjb)
          have := (rows_out gl hc2).1
          omega
      · intro h
        rw [List.getElem_append_left h]
        have := (hmem _ (List.getElem_mem h)).1
        omega
    have htk : xs12.take (j + 1) = xs12.take j ++ [.ref tj] := by
      rw [List.take_succ_eq_append_getElem hj0]
      congr 2
      rw [List.getD_eq_getElem?_getD, List.getElem?_eq_getElem hj0] at etj
      exact etj
    generalize (R ++ tl)[j] = r at htj hlen
    intro X1 b1
    have c1 := nm_blk (L' := bL_law_3) (S' := bS_law_3) (G' := bG_law_3) (B' := bB_law_3) b1 hc (by kernel_rfl) (fun x hx => hb x (by revert x; decide +kernel))
    simp only [wipe, List.map_cons, List.map_nil, List.set_cons_succ, List.set_cons_zero]
    walk_at "w"
    refine ⟨rfl, rfl, ?_⟩
    intro X2 b2
    refine wts_one ?_
    have c2 := nm_blk (L' := bL_law_3) (S' := bS_law_3) (G' := bG_law_3) (B' := bB_law_3) b2 hc (by kernel_rfl) (fun x hx => hb x (by revert x; decide +kernel))
    obtain ⟨_, _, _, _, _, rfl⟩ := b2
    walk_at "w"
    refine ⟨r.length, .inr ⟨_, .inl (.inl htj), (List.length_map _).symm⟩, ?_⟩
    walk_at "w"
    refine ⟨rs.length, .inr ⟨_, .inl (.inl (hS _ _ ht12)), (List.length_map _).symm⟩, ?_⟩
    walk_at "w"
    refine ⟨Same.refl _, ?_⟩
    by_cases hle : r.length ≤ rs.length
    · rw [decide_eq_true (show ((r.length : Nat) : Int) ≤ ((rs.length : Nat) : Int) by omega)]
      refine ite_t ?_
      intro X3 b3
      have c3 := nm_blk (L' := bL_law_3) (S' := bS_law_3) (G' := bG_law_3) (B' := bB_law_3) b3 hc (by kernel_rfl) (fun x hx => hb x (by revert x; decide +kernel))
      walk_at "w"
      have hjR := hlen.mp hle
      refine ⟨Same.refl _, ?_⟩
      rw [hP, Nat.min_eq_left (show j ≤ R.length by omega), Nat.min_eq_left (show j + 1 ≤ R.length by omega), htk]
    · rw [decide_eq_false (show ¬ ((r.length : Nat) : Int) ≤ ((rs.length : Nat) : Int) by omega)]
      refine ite_f ?_
      have hjR : ¬ j < R.length := fun z => hle (hlen.mpr z)
      rw [hP, Nat.min_eq_right (show R.length ≤ j by omega), Nat.min_eq_right (show R.length ≤ j + 1 by omega)]
  have hX13 := rwsX_take (hX12.same hS13) R.length
  rw [List.take_left] at hX13
  rw [hX12l, Nat.min_eq_right (by rw [List.length_append]; omega)] at hP
  rw [← hP] at hX13
  walk_at "w"
  refine b_neD hu64 (.lst (.inl (.inl hDa13)) (dps_rows hX13)) (.lst (.inl (.inl (hS13 _ _ hF12k))) (dps_rows (hX.same (s12.trans hS13)))) (tupsD_shaped _) (tupsD_shaped _) ?_
  rw [show PyData.eqv (.list (R.map tupD)) (.list (R.map tupD)) = true by simp only [PyData.eqv]; exact eqv_tupsD R]
  walk_at "w"
  exact ⟨eH.trans (e1.trans (hS.trans (e3.trans (e4.trans (e5.trans (s12.trans hS13)))))), _, _, _, _, _, _, rfl⟩

end
open He in
theorem factsL {P : Program} {w : World} {K : PySem.W.Frag} {h : Heap} {mg : Str → Option Value} {f : Addr} (X : K.In h) (G : h.Ns mainGlobals mg) (hfa : mg ("law" : Str) = some (.ref f)) (c : SaysY fsL fnL K) (hpf : P.main.file = PySem.Challenge.pw_sieverows_k33_whole_simple_rows_and_rows.main.file) (htop : (P.main.scope.names.lookup ("super" : Str)).isSome = false) :
    ∃ fd : FuncData, (∀ (s : Shared) (v : Value), BindsTo s fd ⟨[v], []⟩ [("_law_script", v)]) ∧ ∀ base : Heap, K.In base → base.Ns mainGlobals mg → FnOk P w K mg base (L2.CX P w) 15 f fd ["_law_script"] (spLaw K) := by
  have hb : ∀ x ∈ BB, mg x = none := fun x hx => free_ok X G (SaysY.mem (f := fun K => (Fa.free x).ok K) c (List.mem_append_right _ (List.mem_map.mpr ⟨x, hx, rfl⟩)))
  have eg := hfa.symm.trans (He.glo_ok X G (c.fact 33))
  cases eg
  obtain ⟨fd_is_integer, F_is_integer⟩ : ∃ fd, FunD K "is_integer" "is_integer" (defArgs s_is_integer) (defBody s_is_integer) (defScope s_is_integer) [.int 0] [] (He.ga K "is_integer") fd := c.def_ 0 rfl
  obtain ⟨fd_check_number, F_check_number⟩ : ∃ fd, FunD K "check_number" "check_number" (defArgs s_check_number) (defBody s_check_number) (defScope s_check_number) [] [] (He.ga K "check_number") fd := c.def_ 1 rfl
  obtain ⟨fd_least_pattern, F_least_pattern⟩ : ∃ fd, FunD K "least_pattern" "least_pattern" (defArgs s_least_pattern) (defBody s_least_pattern) (defScope s_least_pattern) [] [] (He.ga K "least_pattern") fd := c.def_ 2 rfl
  obtain ⟨fd_pattern_of, F_pattern_of⟩ : ∃ fd, FunD K "pattern_of" "pattern_of" (defArgs s_pattern_of) (defBody s_pattern_of) (defScope s_pattern_of) [] [] (He.ga K "pattern_of") fd := c.def_ 3 rfl
  obtain ⟨fd_Sieve_is_pattern, F_Sieve_is_pattern⟩ : ∃ fd, FunD K "is_pattern" "Sieve.is_pattern" (defArgs s_Sieve_is_pattern) (defBody s_Sieve_is_pattern) (defScope s_Sieve_is_pattern) [] [] (rcA "staticmethod" "Sieve" "is_pattern" K) fd := c.def_ 5 rfl
  obtain ⟨fd_Sieve___init__, F_Sieve___init__⟩ : ∃ fd, FunD K "__init__" "Sieve.__init__" (defArgs s_Sieve___init__) (defBody s_Sieve___init__) (defScope s_Sieve___init__) [] [] (He.ma K (He.ga K "Sieve") "__init__") fd := c.def_ 4 rfl
  obtain ⟨fd_Sieve_everything, F_Sieve_everything⟩ : ∃ fd, FunD K "everything" "Sieve.everything" (defArgs s_Sieve_everything) (defBody s_Sieve_everything) (defScope s_Sieve_everything) [] [] (rcA "classmethod" "Sieve" "everything" K) fd := c.def_ 6 rfl
  obtain ⟨fd_Sieve_pattern, F_Sieve_pattern⟩ : ∃ fd, FunD K "pattern" "Sieve.pattern" (defArgs s_Sieve_pattern) (defBody s_Sieve_pattern) (defScope s_Sieve_pattern) [] [] (rcA "property" "Sieve" "pattern" K) fd := c.def_ 8 rfl
  obtain ⟨fd_Sieve_period, F_Sieve_period⟩ : ∃ fd, FunD K "period" "Sieve.period" (defArgs s_Sieve_period) (defBody s_Sieve_period) (defScope s_Sieve_period) [] [] (rcA "property" "Sieve" "period" K) fd := c.def_ 9 rfl
  obtain ⟨fd_Sieve_size, F_Sieve_size⟩ : ∃ fd, FunD K "size" "Sieve.size" (defArgs s_Sieve_size) (defBody s_Sieve_size) (defScope s_Sieve_size) [] [] (rcA "property" "Sieve" "size" K) fd := c.def_ 10 rfl
  obtain ⟨fd_Sieve_is_kept, F_Sieve_is_kept⟩ : ∃ fd, FunD K "is_kept" "Sieve.is_kept" (defArgs s_Sieve_is_kept) (defBody s_Sieve_is_kept) (defScope s_Sieve_is_kept) [] [] (He.ma K (He.ga K "Sieve") "is_kept") fd := c.def_ 11 rfl
  obtain ⟨fd_Sieve_nth, F_Sieve_nth⟩ : ∃ fd, FunD K "nth" "Sieve.nth" (defArgs s_Sieve_nth) (defBody s_Sieve_nth) (defScope s_Sieve_nth) [] [] (He.ma K (He.ga K "Sieve") "nth") fd := c.def_ 12 rfl
  obtain ⟨fd_Sieve_rank, F_Sieve_rank⟩ : ∃ fd, FunD K "rank" "Sieve.rank" (defArgs s_Sieve_rank) (defBody s_Sieve_rank) (defScope s_Sieve_rank) [] [] (He.ma K (He.ga K "Sieve") "rank") fd := c.def_ 13 rfl
  obtain ⟨fd_Sieve___eq__, F_Sieve___eq__⟩ : ∃ fd, FunD K "__eq__" "Sieve.__eq__" (defArgs s_Sieve___eq__) (defBody s_Sieve___eq__) (defScope s_Sieve___eq__) [] [] (He.ma K (He.ga K "Sieve") "__eq__") fd := c.def_ 15 rfl
  obtain ⟨fd_common_divisor, F_common_divisor⟩ : ∃ fd, FunD K "common_divisor" "common_divisor" (defArgs s_common_divisor) (defBody s_common_divisor) (defScope s_common_divisor) [] [] (He.ga K "common_divisor") fd := c.def_ 16 rfl
  obtain ⟨fd_common_multiple, F_common_multiple⟩ : ∃ fd, FunD K "common_multiple" "common_multiple" (defArgs s_common_multiple) (defBody s_common_multiple) (defScope s_common_multiple) [] [] (He.ga K "common_multiple") fd := c.def_ 17 rfl
  obtain ⟨fd_check_limit, F_check_limit⟩ : ∃ fd, FunD K "check_limit" "check_limit" (defArgs s_check_limit) (defBody s_check_limit) (defScope s_check_limit) [] [] (He.ga K "check_limit") fd := c.def_ 18 rfl
  obtain ⟨fd_sieve_from, F_sieve_from⟩ : ∃ fd, FunD K "sieve_from" "sieve_from" (defArgs s_sieve_from) (defBody s_sieve_from) (defScope s_sieve_from) [] [] (He.ga K "sieve_from") fd := c.def_ 19 rfl
  obtain ⟨fd_compose, F_compose⟩ : ∃ fd, FunD K "compose" "compose" (defArgs s_compose) (defBody s_compose) (defScope s_compose) [] [] (He.ga K "compose") fd := c.def_ 31 rfl
  obtain ⟨fd_density, F_density⟩ : ∃ fd, FunD K "density" "density" (defArgs s_density) (defBody s_density) (defScope s_density) [] [] (He.ga K "density") fd := c.def_ 30 rfl
  obtain ⟨fd_Round___init__, F_Round___init__⟩ : ∃ fd, FunD K "__init__" "Round.__init__" (defArgs s_Round___init__) (defBody s_Round___init__) (defScope s_Round___init__) [] [] (He.ma K (He.ga K "Round") "__init__") fd := c.def_ 20 rfl
  obtain ⟨fd_Round_sieve, F_Round_sieve⟩ : ∃ fd, FunD K "sieve" "Round.sieve" (defArgs s_Round_sieve) (defBody s_Round_sieve) (defScope s_Round_sieve) [] [] (rcA "property" "Round" "sieve" K) fd := c.def_ 21 rfl
  have F_Every___init__ : FunX P K "__init__" "Every.__init__" (defArgs s_Every___init__) (defBody s_Every___init__) (defScope s_Every___init__) (He.ga K "Every") (He.ma K (He.ga K "Every") "__init__") := funX_ok (d := ⟨fun K => He.ma K (He.ga K "Every") "__init__", "__init__", "Every.__init__", defArgs s_Every___init__, defBody s_Every___init__, defScope s_Every___init__, [], [("__class__" : Str)]⟩) hpf rfl (c.defR 22 rfl) (c.fact 108)
  obtain ⟨fd_Every_number, F_Every_number⟩ : ∃ fd, FunD K "number" "Every.number" (defArgs s_Every_number) (defBody s_Every_number) (defScope s_Every_number) [] [] (rcA "property" "Every" "number" K) fd := c.def_ 23 rfl
  obtain ⟨fd_check_rounds, F_check_rounds⟩ : ∃ fd, FunD K "check_rounds" "check_rounds" (defArgs s_check_rounds) (defBody s_check_rounds) (defScope s_check_rounds) [] [] (He.ga K "check_rounds") fd := c.def_ 32 rfl
  obtain ⟨fd_Row___init__, F_Row___init__⟩ : ∃ fd, FunD K "__init__" "Row.__init__" (defArgs s_Row___init__) (defBody s_Row___init__) (defScope s_Row___init__) [] [] (He.ma K (He.ga K "Row") "__init__") fd := c.def_ 33 rfl
  obtain ⟨fd_Row_sieve, F_Row_sieve⟩ : ∃ fd, FunD K "sieve" "Row.sieve" (defArgs s_Row_sieve) (defBody s_Row_sieve) (defScope s_Row_sieve) [] [] (rcA "property" "Row" "sieve" K) fd := c.def_ 35 rfl
  obtain ⟨fd_Row_then, F_Row_then⟩ : ∃ fd, FunD K "then" "Row.then" (defArgs s_Row_then) (defBody s_Row_then) (defScope s_Row_then) [] [] (He.ma K (He.ga K "Row") "then") fd := c.def_ 36 rfl
  obtain ⟨fd__law_pool, F__law_pool⟩ : ∃ fd, FunD K "_law_pool" "_law_pool" (defArgs s__law_pool) (defBody s__law_pool) (defScope s__law_pool) [] [] (He.ga K "_law_pool") fd := c.def_ 38 rfl
  obtain ⟨fd__law_take, F__law_take⟩ : ∃ fd, FunD K "_law_take" "_law_take" (defArgs s__law_take) (defBody s__law_take) (defScope s__law_take) [] [] (He.ga K "_law_take") fd := c.def_ 39 rfl
  obtain ⟨fd_beginnings, F_beginnings⟩ : ∃ fd, FunD K "beginnings" "beginnings" (defArgs s_beginnings) (defBody s_beginnings) (defScope s_beginnings) [] [] (He.ga K "beginnings") fd := c.def_ 24 rfl
  obtain ⟨fd_last_number, F_last_number⟩ : ∃ fd, FunD K "last_number" "last_number" (defArgs s_last_number) (defBody s_last_number) (defScope s_last_number) [] [] (He.ga K "last_number") fd := c.def_ 25 rfl
  obtain ⟨fd_nth_of, F_nth_of⟩ : ∃ fd, FunD K "nth_of" "nth_of" (defArgs s_nth_of) (defBody s_nth_of) (defScope s_nth_of) [] [] (He.ga K "nth_of") fd := c.def_ 26 rfl
  obtain ⟨fd_leaves, F_leaves⟩ : ∃ fd, FunD K "leaves" "leaves" (defArgs s_leaves) (defBody s_leaves) (defScope s_leaves) [] [] (He.ga K "leaves") fd := c.def_ 27 rfl
  obtain ⟨fd_rows_of, F_rows_of⟩ : ∃ fd, FunD K "rows_of" "rows_of" (defArgs s_rows_of) (defBody s_rows_of) (defScope s_rows_of) [] [] (He.ga K "rows_of") fd := c.def_ 28 rfl
  obtain ⟨fd_simple_rows, F_simple_rows⟩ : ∃ fd, FunD K "simple_rows" "simple_rows" (defArgs s_simple_rows) (defBody s_simple_rows) (defScope s_simple_rows) [] [] (He.ga K "simple_rows") fd := c.def_ 29 rfl
  obtain ⟨fd__law_row, F__law_row⟩ : ∃ fd, FunD K "_law_row" "_law_row" (defArgs s__law_row) (defBody s__law_row) (defScope s__law_row) [] [] (He.ga K "_law_row") fd := c.def_ 40 rfl
  obtain ⟨fd__law_check_one, F__law_check_one⟩ : ∃ fd, FunD K "_law_check_one" "_law_check_one" (defArgs s__law_check_one) (defBody s__law_check_one) (defScope s__law_check_one) [] [] (He.ga K "_law_check_one") fd := c.def_ 41 rfl
  obtain ⟨fd_law, F_law⟩ : ∃ fd, FunD K "law" "law" (defArgs s_law) (defBody s_law) (defScope s_law) [] [] (He.ga K "law") fd := c.def_ 42 rfl
  have bl := FunD.bindsA (ps := ["_law_script"]) F_law fun _ _ _ _ _ _ us hl => match us, hl with | [_], _ => rfl
  refine ⟨fd_law, fun s v => bl s [v] rfl, fun base KB GB => ?_⟩
  have SC : SvC K mg := ⟨cls_ok (c.fact 34), noat_ok (c.fact 38), noat_ok (c.fact 39), He.glo_ok X G (c.fact 5), creadB_ok (c.fact 36), cvalB_ok (c.fact 56), fun e => tyB_ok (c.fact 37) (cls_ok (c.fact 34)) e⟩
  have gm_Sieve : mg "Sieve" = some (.ref (He.ga K "Sieve")) := He.glo_ok X G (c.fact 5)
  have gm_Round : mg "Round" = some (.ref (He.ga K "Round")) := He.glo_ok X G (c.fact 22)
  have gm_Every : mg "Every" = some (.ref (He.ga K "Every")) := He.glo_ok X G (c.fact 11)
  have gm_Row : mg "Row" = some (.ref (He.ga K "Row")) := He.glo_ok X G (c.fact 26)
  have na_Round : ∀ y ∈ (["own"] : List Str), NoAttr K (ga K "Round") y := fun y hy => by
    rcases List.mem_cons.mp hy with rfl | hy
    · exact noat_ok (c.fact 61)
    exact nomatch hy
  have cl_Round : ClF K mg "Round" ["own"] := ⟨cls_ok (c.fact 57), na_Round, He.glo_ok X G (c.fact 22), fun e => tyB_ok (c.fact 60) (cls_ok (c.fact 57)) e⟩
  have na_Every : ∀ y ∈ (["step", "own"] : List Str), NoAttr K (ga K "Every") y := fun y hy => by
    rcases List.mem_cons.mp hy with rfl | hy
    · exact noat_ok (c.fact 67)
    rcases List.mem_cons.mp hy with rfl | hy
    · exact noat_ok (c.fact 68)
    exact nomatch hy
  have cl_Every : ClF K mg "Every" ["step", "own"] := ⟨cls_ok (c.fact 63), na_Every, He.glo_ok X G (c.fact 11), fun e => tyB_ok (c.fact 66) (cls_ok (c.fact 63)) e⟩
  have na_Row : ∀ y ∈ (["parts", "stages"] : List Str), NoAttr K (ga K "Row") y := fun y hy => by
    rcases List.mem_cons.mp hy with rfl | hy
    · exact noat_ok (c.fact 76)
    rcases List.mem_cons.mp hy with rfl | hy
    · exact noat_ok (c.fact 77)
    exact nomatch hy
  have cl_Row : ClF K mg "Row" ["parts", "stages"] := ⟨cls_ok (c.fact 72), na_Row, He.glo_ok X G (c.fact 26), fun e => tyB_ok (c.fact 75) (cls_ok (c.fact 72)) e⟩
  have KI_Sieve_Sieve : PySem.W.kitOne K (.ref (He.ga K "Sieve")) (.ref (He.ga K "Sieve")) = some true := of_decide_eq_true (c.fact 98)
  have KI_Sieve_Round : PySem.W.kitOne K (.ref (He.ga K "Sieve")) (.ref (He.ga K "Round")) = some false := of_decide_eq_true (c.fact 88)
  have KI_Round_Sieve : PySem.W.kitOne K (.ref (He.ga K "Round")) (.ref (He.ga K "Sieve")) = some false := of_decide_eq_true (c.fact 99)
  have KI_Round_Round : PySem.W.kitOne K (.ref (He.ga K "Round")) (.ref (He.ga K "Round")) = some true := of_decide_eq_true (c.fact 89)
  have CR_Round : ClX.CRead K (He.ga K "Round") (.type "type") := creadB_ok (c.fact 59)
  have KI_Every_Sieve : PySem.W.kitOne K (.ref (He.ga K "Every")) (.ref (He.ga K "Sieve")) = some false := of_decide_eq_true (c.fact 100)
  have KI_Every_Round : PySem.W.kitOne K (.ref (He.ga K "Every")) (.ref (He.ga K "Round")) = some true := of_decide_eq_true (c.fact 90)
  have CR_Every : ClX.CRead K (He.ga K "Every") (.type "type") := creadB_ok (c.fact 65)
  have CV_Every_MOST : ∃ u, ClX.CVal K (He.ga K "Every") (.type "type") "MOST" (.int 60) u := cvalB_ok (c.fact 71)
  have KI_Row_Sieve : PySem.W.kitOne K (.ref (He.ga K "Row")) (.ref (He.ga K "Sieve")) = some false := of_decide_eq_true (c.fact 101)
  have KI_Row_Round : PySem.W.kitOne K (.ref (He.ga K "Row")) (.ref (He.ga K "Round")) = some false := of_decide_eq_true (c.fact 91)
  have CR_Row : ClX.CRead K (He.ga K "Row") (.type "type") := creadB_ok (c.fact 74)
  have SU_Every_init : SupF K (He.ga K "Every") (He.ga K "Every") "__init__" (He.ma K (He.ga K "Round") "__init__") := supF_ok (c.fact 109)
  have gm_SieveError : mg "SieveError" = some (.ref (He.ga K "SieveError")) := He.glo_ok X G (c.fact 0)
  have gm_InvalidPattern : mg "InvalidPattern" = some (.ref (He.ga K "InvalidPattern")) := He.glo_ok X G (c.fact 4)
  have gm_InvalidNumber : mg "InvalidNumber" = some (.ref (He.ga K "InvalidNumber")) := He.glo_ok X G (c.fact 2)
  have gm_InvalidRound : mg "InvalidRound" = some (.ref (He.ga K "InvalidRound")) := He.glo_ok X G (c.fact 23)
  have gm_NothingKept : mg "NothingKept" = some (.ref (He.ga K "NothingKept")) := He.glo_ok X G (c.fact 7)
  have gm_LimitExceeded : mg "LimitExceeded" = some (.ref (He.ga K "LimitExceeded")) := He.glo_ok X G (c.fact 10)
  have gi_MOST_ELEMENTS : ∃ t, mg ("MOST_ELEMENTS" : Str) = some (.int 3 t) := He.int_ok X G (c.fact 17)
  have gi_MOST_PERIOD : ∃ t, mg ("MOST_PERIOD" : Str) = some (.int 400 t) := He.int_ok X G (c.fact 16)
  have KB_int_Round : PySem.W.kitOne K (.type "int") (.ref (He.ga K "Round")) = some false := of_decide_eq_true (c.fact 92)
  have KB_bool_Round : PySem.W.kitOne K (.type "bool") (.ref (He.ga K "Round")) = some false := of_decide_eq_true (c.fact 93)
  have KB_str_Round : PySem.W.kitOne K (.type "str") (.ref (He.ga K "Round")) = some false := of_decide_eq_true (c.fact 94)
  have KB_NoneType_Round : PySem.W.kitOne K (.type "NoneType") (.ref (He.ga K "Round")) = some false := of_decide_eq_true (c.fact 95)
  have KB_list_Round : PySem.W.kitOne K (.type "list") (.ref (He.ga K "Round")) = some false := of_decide_eq_true (c.fact 96)
  have KB_tuple_Round : PySem.W.kitOne K (.type "tuple") (.ref (He.ga K "Round")) = some false := of_decide_eq_true (c.fact 97)
  have KB_int_Sieve : PySem.W.kitOne K (.type "int") (.ref (He.ga K "Sieve")) = some false := of_decide_eq_true (c.fact 102)
  have KB_bool_Sieve : PySem.W.kitOne K (.type "bool") (.ref (He.ga K "Sieve")) = some false := of_decide_eq_true (c.fact 103)
  have KB_str_Sieve : PySem.W.kitOne K (.type "str") (.ref (He.ga K "Sieve")) = some false := of_decide_eq_true (c.fact 104)
  have KB_NoneType_Sieve : PySem.W.kitOne K (.type "NoneType") (.ref (He.ga K "Sieve")) = some false := of_decide_eq_true (c.fact 105)
  have KB_list_Sieve : PySem.W.kitOne K (.type "list") (.ref (He.ga K "Sieve")) = some false := of_decide_eq_true (c.fact 106)
  have KB_tuple_Sieve : PySem.W.kitOne K (.type "tuple") (.ref (He.ga K "Sieve")) = some false := of_decide_eq_true (c.fact 107)
  have R_is_integer := ok_is_integer (P := P) (w := w) (base := base) F_is_integer (by assumption)
  have E_is_integer : Fn P w K mg base "is_integer" _ _ := ⟨⟨_, He.glo_ok X G (c.fact 1), F_is_integer.kp, R_is_integer⟩⟩
  have R_check_number := ok_check_number (P := P) (w := w) (base := base) F_check_number (by assumption) (by assumption)
  have E_check_number : Fn P w K mg base "check_number" _ _ := ⟨⟨_, He.glo_ok X G (c.fact 6), F_check_number.kp, R_check_number⟩⟩
  have R_least_pattern := ok_least_pattern (P := P) (w := w) (base := base) F_least_pattern (by assumption)
  have E_least_pattern : Fn P w K mg base "least_pattern" _ _ := ⟨⟨_, He.glo_ok X G (c.fact 3), F_least_pattern.kp, R_least_pattern⟩⟩
  have R_pattern_of := ok_pattern_of (P := P) (w := w) (base := base) F_pattern_of (by assumption)
  have E_pattern_of : Fn P w K mg base "pattern_of" _ _ := ⟨⟨_, He.glo_ok X G (c.fact 8), F_pattern_of.kp, R_pattern_of⟩⟩
  have R_Sieve_is_pattern := ok_Sieve_is_pattern (P := P) (w := w) (base := base) F_Sieve_is_pattern (by assumption) (by assumption)
  have E_Sieve_is_pattern : SMt P w K mg base (He.ga K "Sieve") "is_pattern" _ _ := ⟨⟨_, _, _, creadB_ok (c.fact 36), (getB_ok (c.fact 40)).1, (getB_ok (c.fact 40)).2.choose_spec, c.fact 41, R_Sieve_is_pattern⟩⟩
  have R_Sieve___init__ := ok_Sieve___init__ (P := P) (w := w) (base := base) F_Sieve___init__ (by assumption) (by assumption) (by assumption) (by assumption)
  have E_Sieve___init__ : Mkr P w K mg base (He.ga K "Sieve") _ _ := ⟨⟨_, mkr_ok (c.fact 35), R_Sieve___init__⟩⟩
  have R_Sieve_everything := ok_Sieve_everything (P := P) (w := w) (base := base) F_Sieve_everything (by assumption) (by assumption) (by assumption)
  have E_Sieve_everything : CMt P w K mg base (He.ga K "Sieve") "everything" _ _ := ⟨⟨_, _, creadB_ok (c.fact 36), ⟨(getB_ok (c.fact 42)).1, (getB_ok (c.fact 42)).2, c.fact 44⟩, R_Sieve_everything⟩⟩
  have R_Sieve_pattern := ok_Sieve_pattern (P := P) (w := w) (base := base) F_Sieve_pattern (by assumption) (by assumption)
  have E_Sieve_pattern : SvP P w K mg base "pattern" _ := ⟨⟨_, _, propB_ok (c.fact 48), R_Sieve_pattern⟩⟩
  have R_Sieve_period := ok_Sieve_period (P := P) (w := w) (base := base) F_Sieve_period (by assumption) (by assumption)
  have E_Sieve_period : SvP P w K mg base "period" _ := ⟨⟨_, _, propB_ok (c.fact 49), R_Sieve_period⟩⟩
  have R_Sieve_size := ok_Sieve_size (P := P) (w := w) (base := base) F_Sieve_size (by assumption) (by assumption)
  have E_Sieve_size : SvP P w K mg base "size" _ := ⟨⟨_, _, propB_ok (c.fact 50), R_Sieve_size⟩⟩
  have R_Sieve_is_kept := ok_Sieve_is_kept (P := P) (w := w) (base := base) F_Sieve_is_kept (by assumption) (by assumption) (by assumption)
  have E_Sieve_is_kept : Mth P w K mg base (He.ga K "Sieve") "is_kept" _ _ := ⟨⟨_, cls_ok (c.fact 34), meth_ok (c.fact 51), R_Sieve_is_kept⟩⟩
  have R_Sieve_nth := ok_Sieve_nth (P := P) (w := w) (base := base) F_Sieve_nth (by assumption) (by assumption) (by assumption)
  have E_Sieve_nth : Mth P w K mg base (He.ga K "Sieve") "nth" _ _ := ⟨⟨_, cls_ok (c.fact 34), meth_ok (c.fact 52), R_Sieve_nth⟩⟩
  have R_Sieve_rank := ok_Sieve_rank (P := P) (w := w) (base := base) F_Sieve_rank (by assumption) (by assumption) (by assumption)
  have E_Sieve_rank : Mth P w K mg base (He.ga K "Sieve") "rank" _ _ := ⟨⟨_, cls_ok (c.fact 34), meth_ok (c.fact 53), R_Sieve_rank⟩⟩
  have R_Sieve___eq__ := ok_Sieve___eq__ (P := P) (w := w) (base := base) F_Sieve___eq__ (by assumption) (by assumption)
  have E_Sieve___eq__ : EqM P w K mg base (He.ga K "Sieve") _ _ := ⟨⟨_, eqcB_ok (c.fact 55), R_Sieve___eq__⟩⟩
  have R_common_divisor := ok_common_divisor (P := P) (w := w) (base := base) F_common_divisor (by assumption)
  have E_common_divisor : Fn P w K mg base "common_divisor" _ _ := ⟨⟨_, He.glo_ok X G (c.fact 9), F_common_divisor.kp, R_common_divisor⟩⟩
  have R_common_multiple := ok_common_multiple (P := P) (w := w) (base := base) F_common_multiple (by assumption) (by assumption)
  have E_common_multiple : Fn P w K mg base "common_multiple" _ _ := ⟨⟨_, He.glo_ok X G (c.fact 19), F_common_multiple.kp, R_common_multiple⟩⟩
  have R_check_limit := ok_check_limit (P := P) (w := w) (base := base) F_check_limit (by assumption) (by assumption)
  have E_check_limit : Fn P w K mg base "check_limit" _ _ := ⟨⟨_, He.glo_ok X G (c.fact 20), F_check_limit.kp, R_check_limit⟩⟩
  have R_sieve_from := ok_sieve_from (P := P) (w := w) (base := base) F_sieve_from (by assumption) (by assumption) (by assumption) (by assumption)
  have E_sieve_from : Fn P w K mg base "sieve_from" _ _ := ⟨⟨_, He.glo_ok X G (c.fact 21), F_sieve_from.kp, R_sieve_from⟩⟩
  have R_compose := ok_compose (P := P) (w := w) (base := base) F_compose (by assumption) (by assumption) (by assumption) (by assumption) (by assumption) (by assumption) (by assumption) (by assumption) (by assumption)
  have E_compose : Fn P w K mg base "compose" _ _ := ⟨⟨_, He.glo_ok X G (c.fact 25), F_compose.kp, R_compose⟩⟩
  have R_density := ok_density (P := P) (w := w) (base := base) F_density (by assumption) (by assumption) (by assumption) (by assumption) (by assumption)
  have E_density : Fn P w K mg base "density" _ _ := ⟨⟨_, He.glo_ok X G (c.fact 27), F_density.kp, R_density⟩⟩
  have R_Round___init__ := ok_Round___init__ (P := P) (w := w) (base := base) F_Round___init__ (by assumption) (by assumption) (by assumption)
  have E_Round___init__ : Mkr P w K mg base (He.ga K "Round") _ _ := ⟨⟨_, mkr_ok (c.fact 58), R_Round___init__⟩⟩
  have R_Round_sieve := ok_Round_sieve (P := P) (w := w) (base := base) F_Round_sieve (by assumption)
  have RL : RCl P w K mg base (He.ga K "Round") := ⟨cls_ok (c.fact 57), noat_ok (c.fact 61), fun e => ⟨_, tyB_ok (c.fact 60) (cls_ok (c.fact 57)) e, kit_own⟩, ⟨_, _, propB_ok (c.fact 62), R_Round_sieve⟩⟩
  have RL_Every : RCl P w K mg base (He.ga K "Every") := ⟨cls_ok (c.fact 63), noat_ok (c.fact 68), fun e => ⟨_, tyB_ok (c.fact 66) (cls_ok (c.fact 63)) e, of_decide_eq_true (c.fact 90)⟩, ⟨_, _, propB_ok (c.fact 70), (by rw [show rcA "property" "Every" "sieve" K = rcA "property" "Round" "sieve" K from of_decide_eq_true (c.fact 110)]; exact R_Round_sieve)⟩⟩
  have R_Every___init__ := ok_Every___init__ (P := P) (w := w) (base := base) F_Every___init__ (by assumption) (by assumption) (by assumption) (by assumption) (by assumption) (by assumption) (by assumption) (by assumption)
  have E_Every___init__ : Mkr P w K mg base (He.ga K "Every") _ _ := ⟨⟨_, mkr_ok (c.fact 64), R_Every___init__⟩⟩
  have R_Every_number := ok_Every_number (P := P) (w := w) (base := base) F_Every_number (by assumption) (by assumption)
  have E_Every_number : PrP P w K mg base (He.ga K "Every") "number" _ := ⟨⟨_, _, propB_ok (c.fact 69), R_Every_number⟩⟩
  have R_check_rounds := ok_check_rounds (P := P) (w := w) (base := base) F_check_rounds (by assumption) (by assumption)
  have E_check_rounds : Fn P w K mg base "check_rounds" _ _ := ⟨⟨_, He.glo_ok X G (c.fact 24), F_check_rounds.kp, R_check_rounds⟩⟩
  have R_Row___init__ := ok_Row___init__ (P := P) (w := w) (base := base) F_Row___init__ (by assumption) (by assumption) (by assumption) (by assumption) (by assumption) (by assumption)
  have E_Row___init__ : Mkr P w K mg base (He.ga K "Row") _ _ := ⟨⟨_, mkr_ok (c.fact 73), R_Row___init__⟩⟩
  have R_Row_sieve := ok_Row_sieve (P := P) (w := w) (base := base) F_Row_sieve (by assumption) (by assumption)
  have E_Row_sieve : RwP P w K mg base "sieve" _ := ⟨⟨_, _, propB_ok (c.fact 79), R_Row_sieve⟩⟩
  have R_Row_then := ok_Row_then (P := P) (w := w) (base := base) F_Row_then (by assumption) (by assumption) (by assumption)
  have E_Row_then : Mth P w K mg base (He.ga K "Row") "then" _ _ := ⟨⟨_, cls_ok (c.fact 72), meth_ok (c.fact 80), R_Row_then⟩⟩
  have R__law_pool := ok__law_pool (P := P) (w := w) (base := base) F__law_pool (by assumption)
  have E__law_pool : Fn P w K mg base "_law_pool" _ _ := ⟨⟨_, He.glo_ok X G (c.fact 29), F__law_pool.kp, R__law_pool⟩⟩
  have R__law_take := ok__law_take (P := P) (w := w) (base := base) F__law_take (by assumption)
  have E__law_take : Fn P w K mg base "_law_take" _ _ := ⟨⟨_, He.glo_ok X G (c.fact 31), F__law_take.kp, R__law_take⟩⟩
  have gm_beginnings : mg "beginnings" = some (.ref (He.ga K "beginnings")) := He.glo_ok X G (c.fact 12)
  have R_beginnings := ok_beginnings (P := P) (w := w) (base := base) F_beginnings (by assumption) (by assumption) (by assumption) (by assumption) (by assumption)
  have E_beginnings : GFt P w K mg base "beginnings" _ _ := ⟨⟨_, _, _, He.glo_ok X G (c.fact 12), F_beginnings.kp, R_beginnings, F_beginnings.bindsN fun _ _ _ _ _ _ us hl => match us, hl with | [_], _ => rfl⟩⟩
  have R_last_number := ok_last_number (P := P) (w := w) (base := base) F_last_number (by assumption) (by assumption) (by assumption) (by assumption) (by assumption) (by assumption) (by assumption) (by assumption)
  have E_last_number : Fn P w K mg base "last_number" _ _ := ⟨⟨_, He.glo_ok X G (c.fact 14), F_last_number.kp, R_last_number⟩⟩
  have R_nth_of := ok_nth_of (P := P) (w := w) (base := base) F_nth_of (by assumption)
  have E_nth_of : Fn P w K mg base "nth_of" _ _ := ⟨⟨_, He.glo_ok X G (c.fact 13), F_nth_of.kp, R_nth_of⟩⟩
  have R_leaves := ok_leaves (P := P) (w := w) (base := base) F_leaves (by assumption) (by assumption) (by assumption) (by assumption) (by assumption)
  have E_leaves : Fn P w K mg base "leaves" _ _ := ⟨⟨_, He.glo_ok X G (c.fact 15), F_leaves.kp, R_leaves⟩⟩
  have R_rows_of := ok_rows_of (P := P) (w := w) (base := base) F_rows_of (by assumption) (by assumption) (by assumption) (by assumption) (by assumption) (by assumption) (by assumption)
  have E_rows_of : Fn P w K mg base "rows_of" _ _ := ⟨⟨_, He.glo_ok X G (c.fact 18), F_rows_of.kp, R_rows_of⟩⟩
  have R_simple_rows := ok_simple_rows (P := P) (w := w) (base := base) F_simple_rows (by assumption) (by assumption) (by assumption) (by assumption) (by assumption) (by assumption) (by assumption)
  have E_simple_rows : Fn P w K mg base "simple_rows" _ _ := ⟨⟨_, He.glo_ok X G (c.fact 30), F_simple_rows.kp, R_simple_rows⟩⟩
  have R__law_row := ok__law_row (P := P) (w := w) (base := base) F__law_row (by assumption) (by assumption) (by assumption) (by assumption) (by assumption) (by assumption) (by assumption)
  have E__law_row : Fn P w K mg base "_law_row" _ _ := ⟨⟨_, He.glo_ok X G (c.fact 28), F__law_row.kp, R__law_row⟩⟩
  have R__law_check_one := ok__law_check_one (P := P) (w := w) (base := base) F__law_check_one (by assumption) (by assumption) (by assumption) (by assumption) (by assumption) (by assumption) (by assumption)
  have E__law_check_one : Fn P w K mg base "_law_check_one" _ _ := ⟨⟨_, He.glo_ok X G (c.fact 32), F__law_check_one.kp, R__law_check_one⟩⟩
  exact ok_law F_law (by assumption) (by assumption) (by assumption) (by assumption) (by assumption) (by assumption) (by assumption) (by assumption) (by assumption)
end Sv
open PySem PySem.W PySem.Calls PyProof.Rows
theorem PySem.Challenge.cw_sieverows_k33_whole_simple_rows_and_rows_holds : PySem.Challenge.rw_sieverows_k33_whole_simple_rows_and_rows.Holds := by
  w_on; o_law
  refine HandSHeadRun.head_any (r := OpenLaw.row PySem.Challenge.rw_sieverows_k33_whole_simple_rows_and_rows) (q := view (OpenLaw.row PySem.Challenge.rw_sieverows_k33_whole_simple_rows_and_rows).prog [42]) (H := Sv.hkL) (ob := Sv.obL) (M := 20000) (loose := [("_wall" : Str), ("SieveError" : Str), ("InvalidPattern" : Str), ("InvalidNumber" : Str), ("InvalidRound" : Str), ("NothingKept" : Str), ("LimitExceeded" : Str), ("is_integer" : Str), ("check_number" : Str), ("least_pattern" : Str), ("pattern_of" : Str), ("Sieve" : Str), ("common_divisor" : Str), ("common_multiple" : Str), ("check_limit" : Str), ("sieve_from" : Str), ("Round" : Str), ("Every" : Str), ("MOST_ELEMENTS" : Str), ("MOST_PERIOD" : Str), ("beginnings" : Str), ("last_number" : Str), ("nth_of" : Str), ("leaves" : Str), ("rows_of" : Str), ("simple_rows" : Str), ("density" : Str), ("compose" : Str), ("check_rounds" : Str), ("Row" : Str), ("_law_pool" : Str), ("_law_take" : Str), ("_law_row" : Str), ("_law_check_one" : Str)]) (d := HandSHeadRun.topDef (OpenLaw.row PySem.Challenge.rw_sieverows_k33_whole_simple_rows_and_rows).prog 42) (kwd := []) Sv.obL_eq
    (by kernel_rfl) (fun s => by kernel_rfl) Sv.runL (by kernel_rfl) (by kernel_rfl) (by kernel_rfl) (by rfl) (by first | assumption | decide +kernel) (by decide +kernel) ⟨rfl, rfl, rfl, rfl, rfl, by decide +kernel⟩ ?hw ?hc
  case hw => w_witness2
  case hc =>
    refine Sv.walk_ofW (L := PySem.Challenge.rw_sieverows_k33_whole_simple_rows_and_rows) (m := 63) (j := 15) (par := "_law_script") rfl (by decide) (by kernel_rfl) ⟨rfl, by decide, by decide⟩ ?F
    intro w mg fa h Y G hmg0
    obtain ⟨K, KX, c⟩ := Y
    have hmg : mg ("law" : PySem.Str) = some (.ref fa) := by
      have e : (HandSHeadRun.topDef (OpenLaw.row PySem.Challenge.rw_sieverows_k33_whole_simple_rows_and_rows).prog 42).name = ("law" : PySem.Str) := by kernel_rfl
      rw [← e]
      exact hmg0
    obtain ⟨fd, hb, hF⟩ := Sv.factsL (P := (PySem.Challenge.rw_sieverows_k33_whole_simple_rows_and_rows).prog) (w := w) KX G hmg c rfl (by kernel_rfl)
    exact ⟨K, fd, Sv.spLaw K, KX, hb, fun H a ns hl _ hS => ⟨a, ns, rfl, hS, hl, fun _ => rfl⟩, hF⟩
