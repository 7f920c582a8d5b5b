import PyProof.Rows.All
import HandS.ForMost
import HandS.ForExc
import HandS.IsInst
import HandS.Property
import HandS.ClsMeth
import HandS.Star
import HandS.Wide
import HandS.Strs
import HandS.Style
import HandS.StrMore
import HandS.Evl
import KE.GoesNew
import KE.GoesMore
import HandS.SetKeys
import PyProof.InstNe
import HandS.Defaults
import HandS.Head0
import HandS.Head1
import HandS.Head2
import HandS.HeadEnd
import HandS.HeadHook1
import HandS.HeadHook2
import HandS.ExcInit
import HandS.TryMany
import PyProof.Rows.RegReprOcc
import PyProof.StrOps2
import PyProof.Rows.FactsT1
import PyProof.Rows.FactsT2
import PyProof.Rows.FactsN_isinstance
import PyProof.Rows.FactsN_divmod
import PyProof.Rows.RuleB_bool
import HandS.GenList
import HandS.GenYield
import HandS.GenOver
import PyProof.Rows.StrFirst
import HandS.Conv
import HandS.RaiseMore
import HandS.Dict
import HandS.ExcField
import HandS.ExcIs
import PyProof.ReprRoads
import KE.KExcIs
import PyProof.EnumMake
import KE.KExcInit
import PyProof.ExcBaseAll.OverflowError
import PyProof.ExcBaseAll.RuntimeError
import HandS.TupAny
import KE.KBoundM
import HandS.DeepEq
import PyProof.StrLawsRepr
import HandS.Nested
import KE.KSuper
import KE.KRevSl
import HandS.NamedTupGet
import HandS.TupSets
import HandS.Small
import HandS.More
import KE.DataEq
import HandS.TupLe
import HandS.SortRule
import HandS.NamedTupSort
import PySem.Challenge.RW_sieverows_k30_whole_orders_and_exchanges
set_option Elab.async false
set_option linter.all false
set_option maxRecDepth 100000
set_option maxHeartbeats 4000000
/-! Judgements by syntax over the hand layer: what a piece of syntax asks, as a statement of its own; each rule goes from the syntax to its parts. -/
namespace Sv
open PySem PySem.Spec PyProof.Rows L2

/-- an expression, a test, arguments, a statement, a block, a target -/
structure WE (X : Cx) (e : Expr) (σ : L2.St) (H : Hp) (Q : VK) : Prop where
  run : ∀ (pins : List (Addr × Obj)) (s : Shared), Inv X pins σ H s → wpAny (model X.prog X.w) X.A (eval e X.env) (EP X pins σ Q) X.xe s
structure WT (X : Cx) (e : Expr) (σ : L2.St) (H : Hp) (Q : Bool → Hp → Prop) : Prop where
  run : ∀ (pins : List (Addr × Obj)) (s : Shared), Inv X pins σ H s → wpAny (model X.prog X.w) X.A (isTrue e X.env (eval e X.env)) (TP X pins σ Q) X.xe s
structure WW (X : Cx) (e : Expr) (σ : L2.St) (H : Hp) (Q : Bool → Hp → Prop) : Prop where
  run : ∀ (whole : Sem Value) (pins : List (Addr × Obj)) (s : Shared), Inv X pins σ H s → wpAny (model X.prog X.w) X.A (isTrue e X.env whole) (TP X pins σ Q) X.xe s
structure WA (X : Cx) (es : List Expr) (σ : L2.St) (H : Hp) (Q : List V → Hp → Prop) : Prop where
  run : ∀ (pos : Pos) (pins : List (Addr × Obj)) (s : Shared), Inv X pins σ H s → wpAny (model X.prog X.w) X.A (spliced (backTo pos (starEach es X.env))) (AP X pins σ Q) X.xe s
structure WS (X : Cx) (st : Stmt) (D : Ends) (σ : L2.St) (H : Hp) : Prop where
  run : ∀ (pins : List (Addr × Obj)) (s : Shared), Inv X pins σ H s → wpAny (model X.prog X.w) X.A (exec st X.env) (SP X pins D) X.xe s
structure WL (X : Cx) (sts : List Stmt) (D : Ends) (σ : L2.St) (H : Hp) : Prop where
  run : ∀ (pins : List (Addr × Obj)) (s : Shared), Inv X pins σ H s → wpAny (model X.prog X.w) X.A (execs sts X.env) (SP X pins D) X.xe s
structure WG (X : Cx) (tg : Expr) (v : V) (σ : L2.St) (H : Hp) (Q : L2.St → Hp → Prop) : Prop where
  run : ∀ (pins : List (Addr × Obj)) (s : Shared) (u : Value), Inv X pins σ H s → RelV v u → wpAny (model X.prog X.w) X.A (assign tg X.env u) (fun _ s' => ∃ σ' H', Inv X pins σ' H' s' ∧ Q σ' H') X.xe s
structure WGs (X : Cx) (ts : List Expr) (vs : List V) (σ : L2.St) (H : Hp) (Q : L2.St → Hp → Prop) : Prop where
  run : ∀ (pins : List (Addr × Obj)) (s : Shared) (us : List Value), Inv X pins σ H s → Vals vs us → wpAny (model X.prog X.w) X.A (assignInOrder ((assignEach ts X.env).map (·.2)) us) (fun _ s' => ∃ σ' H', Inv X pins σ' H' s' ∧ Q σ' H') X.xe s
structure WO (X : Cx) (oe : Option Expr) (σ : L2.St) (H : Hp) (Q : Option Int → Hp → Prop) : Prop where
  run : ∀ t : TO, PO X oe t → t σ H Q → True
section
variable {X : Cx} {e : Expr} {es : List Expr} {st : Stmt} {sts : List Stmt} {σ : L2.St} {H : Hp}
theorem pe_w : PE X e (WE X e) := ⟨fun pins s _ _ _ I h => h.run pins s I⟩
theorem pt_w : PT X e (WT X e) := ⟨fun pins s _ _ _ I h => h.run pins s I⟩
theorem pw_w : PW X e (WW X e) := ⟨fun wh pins s _ _ _ I h => h.run wh pins s I⟩
theorem pa_w : PA X es (WA X es) := ⟨fun pos pins s _ _ _ I h => h.run pos pins s I⟩
theorem ps_w : PS X st (WS X st) := ⟨fun pins s _ _ _ I h => h.run pins s I⟩
theorem pss_w : PSs X sts (WL X sts) := ⟨fun pins s _ _ _ I h => h.run pins s I⟩
theorem pg_w : PG X e (WG X e) := ⟨fun pins s _ _ _ u _ I r h => h.run pins s u I r⟩
theorem pgs_w : PGs X es (WGs X es) := ⟨fun pins s _ _ _ us _ I r h => h.run pins s us I r⟩
theorem _root_.L2.PE.w {t : TE} {Q : VK} (h : PE X e t) (q : t σ H Q) : WE X e σ H Q := ⟨fun pins s I => h.run pins s σ H Q I q⟩
theorem _root_.L2.PT.w {t : TT} {Q : Bool → Hp → Prop} (h : PT X e t) (q : t σ H Q) : WT X e σ H Q := ⟨fun pins s I => h.run pins s σ H Q I q⟩
theorem _root_.L2.PW.w {t : TT} {Q : Bool → Hp → Prop} (h : PW X e t) (q : t σ H Q) : WW X e σ H Q := ⟨fun wh pins s I => h.run wh pins s σ H Q I q⟩
theorem _root_.L2.PA.w {t : TA} {Q : List V → Hp → Prop} (h : PA X es t) (q : t σ H Q) : WA X es σ H Q := ⟨fun pos pins s I => h.run pos pins s σ H Q I q⟩
theorem _root_.L2.PS.w {t : TS} {D : Ends} (h : PS X st t) (q : t D σ H) : WS X st D σ H := ⟨fun pins s I => h.run pins s σ H D I q⟩
theorem _root_.L2.PSs.w {t : TS} {D : Ends} (h : PSs X sts t) (q : t D σ H) : WL X sts D σ H := ⟨fun pins s I => h.run pins s σ H D I q⟩
theorem _root_.L2.PG.w {t : TG} {v : V} {Q : L2.St → Hp → Prop} (h : PG X e t) (q : t v σ H Q) : WG X e v σ H Q := ⟨fun pins s u I r => h.run pins s σ H v u Q I r q⟩
theorem _root_.L2.PGs.w {t : TGs} {vs : List V} {Q : L2.St → Hp → Prop} (h : PGs X es t) (q : t vs σ H Q) : WGs X es vs σ H Q := ⟨fun pins s us I r => h.run pins s σ H vs us Q I r q⟩
/-- weaken -/
theorem WE.imp {Q Q' : VK} (h : WE X e σ H Q) (q : ∀ v H', Q v H' → Q' v H') : WE X e σ H Q' :=
  ⟨fun pins s I => thn (h.run pins s I) fun _ _ ⟨v, H', I', r, z⟩ => ⟨v, H', I', r, q v H' z⟩⟩
end

theorem WA.imp {X : Cx} {es : List Expr} {σ : L2.St} {H : Hp} {Q Q' : List V → Hp → Prop} (h : WA X es σ H Q) (q : ∀ v H', Q v H' → Q' v H') : WA X es σ H Q' :=
  ⟨fun pos pins s I => thn (h.run pos pins s I) fun _ _ ⟨v, H', I', r, z⟩ => ⟨v, H', I', r, q v H' z⟩⟩
theorem WT.imp {X : Cx} {e : Expr} {σ : L2.St} {H : Hp} {Q Q' : Bool → Hp → Prop} (h : WT X e σ H Q) (q : ∀ v H', Q v H' → Q' v H') : WT X e σ H Q' :=
  ⟨fun pins s I => thn (h.run pins s I) fun _ _ ⟨H', I', z⟩ => ⟨H', I', q _ H' z⟩⟩

/-! ### slots by name -/
/-- the name x holds v -/
inductive At : List Str → L2.St → Str → V → Prop where
  | here {x : Str} {N : List Str} {v : V} {σ : L2.St} : At (x :: N) (some v :: σ) x v
  | there {x y : Str} {N : List Str} {v : V} {o : Option V} {σ : L2.St} : At N σ x v → At (y :: N) (o :: σ) x v
/-- x stored -/
inductive Put : List Str → L2.St → Str → V → L2.St → Prop where
  | here {x : Str} {N : List Str} {v : V} {o : Option V} {σ : L2.St} : Put (x :: N) (o :: σ) x v (some v :: σ)
  | there {x y : Str} {N : List Str} {v : V} {o : Option V} {σ σ' : L2.St} : Put N σ x v σ' → Put (y :: N) (o :: σ) x v (o :: σ')
theorem At.ix {N : List Str} {σ : L2.St} {x : Str} {v : V} (h : At N σ x v) : ∃ i : Nat, N[i]? = some x ∧ σ[i]? = some (some v) := by
  induction h with
  | here => exact ⟨0, rfl, rfl⟩
  | there _ ih => obtain ⟨i, a, b⟩ := ih; exact ⟨i + 1, by simpa using a, by simpa using b⟩
theorem Put.ix {N : List Str} {σ σ' : L2.St} {x : Str} {v : V} (h : Put N σ x v σ') : ∃ i : Nat, N[i]? = some x ∧ σ' = σ.set i (some v) := by
  induction h with
  | here => exact ⟨0, rfl, rfl⟩
  | there _ ih => obtain ⟨i, a, b⟩ := ih; exact ⟨i + 1, by simpa using a, by rw [b, List.set_cons_succ]⟩
/-- what is known of the names: N all slots; L the visible ones; S those that may be stored; G the global ones -/
structure Nm (X : Cx) (N L S G B : List Str) : Prop where
  names : X.N = N
  nd : N.Nodup
  vis : ∀ x ∈ L, Vis X.env.scope x ∧ (x == ("__debug__" : Str)) = false ∧ (x == ("__classdict__" : Str)) = false
  sto : ∀ x ∈ S, Loc X.env.scope x ∧ (X.fn x = true ∨ X.env.scope.names.lookup x = some .local)
  glo : ∀ x ∈ G, Gl X x ∧ (x == ("__debug__" : Str)) = false ∧ x ≠ "__name__"
  blt : ∀ x ∈ B, X.mg x = none
  bgl : ∀ x ∈ B, Gl X x ∧ (x == ("__debug__" : Str)) = false ∧ x ≠ "__name__"
  calm : X.calm = true
/-- membership by its own shape -/
inductive Mb (x : Str) : List Str → Prop where
  | here {l : List Str} : Mb x (x :: l)
  | there {y : Str} {l : List Str} : Mb x l → Mb x (y :: l)
theorem Mb.mem {x : Str} {l : List Str} (h : Mb x l) : x ∈ l := by
  induction h with
  | here => exact List.mem_cons_self
  | there _ ih => exact List.mem_cons_of_mem _ ih

section
variable {X : Cx} {N L S G B : List Str} {σ : L2.St} {H : Hp} {Q : VK} {x : Str} {v : V} {pos : Pos}
theorem w_name (c : Nm X N L S G B) (h : At N σ x v) (m : Mb x L) (q : Q v H) : WE X (.Name x pos) σ H Q := by
  obtain ⟨i, h1, h2⟩ := h.ix
  obtain ⟨a, b, d⟩ := c.vis x m.mem
  exact (pe_var (i := i) (by rw [c.names]; exact h1) a b d).w ⟨v, h2, q⟩
theorem w_gname {v : V} {u : Value} (c : Nm X N L S G B) (m : Mb x G) (hm : X.mg x = some u) (r : RelV v u) (q : Q v H) : WE X (.Name x pos) σ H Q := by
  obtain ⟨a, b, d⟩ := c.glo x m.mem
  exact (pe_glob a hm r b).w q
theorem w_bname {v : V} {u : Value} (c : Nm X N L S G B) (m : Mb x B) (hv : bootBuiltins x = some u) (r : RelV v u) (q : Q v H) : WE X (.Name x pos) σ H Q := by
  obtain ⟨a, b, d⟩ := c.bgl x m.mem
  exact (pe_bltn a (c.blt x m.mem) hv r d b).w q
theorem w_int {i : Int} {j} (q : Q (.int i) H) : WE X (.Constant (.int i) j pos) σ H Q := (pe_int).w q
theorem w_bl {b : Bool} {j} (q : Q (.bl b) H) : WE X (.Constant (.bool b) j pos) σ H Q := (pe_bl).w q
theorem w_non {j} (q : Q .non H) : WE X (.Constant .none j pos) σ H Q := (pe_non).w q
theorem w_str {z : Str} {j} (q : Q (.str z) H) : WE X (.Constant (.str z) j pos) σ H Q := (pe_str).w q
/-- a target that is a name -/
theorem wg_name {Q : L2.St → Hp → Prop} {σ' : L2.St} (c : Nm X N L S G B) (h : Put N σ x v σ') (m : Mb x S) (q : Q σ' H) : WG X (.Name x pos) v σ H Q := by
  obtain ⟨i, h1, rfl⟩ := h.ix
  obtain ⟨a, b⟩ := c.sto x m.mem
  exact (pg_name (i := i) (by rw [c.names]; exact c.nd) (by rw [c.names]; exact h1) a b).w q
end

/-! ### operators: by values -/
structure WB (X : Cx) (f : Value → Value → Sem Value) (x y : V) (σ : L2.St) (H : Hp) (Q : VK) : Prop where
  run : ∀ (pins : List (Addr × Obj)) (s : Shared) (v u : Value), Inv X pins σ H s → RelV x v → RelV y u → wpAny (model X.prog X.w) X.A (f v u) (EP X pins σ Q) X.xe s
structure WU (X : Cx) (f : Value → Sem Value) (x : V) (σ : L2.St) (H : Hp) (Q : VK) : Prop where
  run : ∀ (pins : List (Addr × Obj)) (s : Shared) (v : Value), Inv X pins σ H s → RelV x v → wpAny (model X.prog X.w) X.A (f v) (EP X pins σ Q) X.xe s
theorem _root_.L2.OpR.w {X : Cx} {f : Value → Value → Sem Value} {r : R2} {x y : V} {σ : L2.St} {H : Hp} {Q : VK} (h : OpR X f r) (q : r x y H Q) : WB X f x y σ H Q := ⟨fun pins s v u I rx ry => h pins s σ H x y v u Q I rx ry q⟩
theorem _root_.L2.UnR.w {X : Cx} {f : Value → Sem Value} {r : V → Hp → VK → Prop} {x : V} {σ : L2.St} {H : Hp} {Q : VK} (h : UnR X f r) (q : r x H Q) : WU X f x σ H Q := ⟨fun pins s v I rx => h pins s σ H x v Q I rx q⟩
section
variable {X : Cx} {a b c : Expr} {σ : L2.St} {H : Hp} {Q : VK} {pos : Pos}
theorem w_bin {op : Operator} (h : WE X a σ H fun x H1 => WE X b σ H1 fun y H2 => WB X (binaryOp op) x y σ H2 Q) : WE X (.BinOp a op b pos) σ H Q :=
  ⟨fun pins s I => wpAny_BinOp (thn (h.run pins s I) fun v s1 ⟨x, H1, I1, r1, q1⟩ => thn (q1.run pins s1 I1) fun u s2 ⟨y, H2, I2, r2, q2⟩ => q2.run pins s2 v u I2 r1 r2)⟩
theorem w_un {op : UnaryOp} (h : WE X a σ H fun x H1 => WU X (unaryOp op) x σ H1 Q) : WE X (.UnaryOp op a pos) σ H Q :=
  ⟨fun pins s I => UnaryOp_ (thn (h.run pins s I) fun v s1 ⟨x, H1, I1, r1, q1⟩ => q1.run pins s1 v I1 r1)⟩
/-- one comparison as a value; hm by nomark (rfl for in, not in) -/
theorem w_cmp {op : CmpOp} (h : WE X a σ H fun x H1 => WE X b σ H1 fun y H2 => WB X (compareOp op) x y σ H2 Q) (hm : behindInMarks op b = false) : WE X (.Compare a [op] [b] pos) σ H Q :=
  ⟨fun pins s I => wpAny_Compare1 (thn (h.run pins s I) fun v s1 ⟨x, H1, I1, r1, q1⟩ => thn (q1.run pins s1 I1) fun u s2 ⟨y, H2, I2, r2, q2⟩ => q2.run pins s2 v u I2 r1 r2) hm⟩
theorem wt_cmp {op : CmpOp} {Q : Bool → Hp → Prop} (h : WE X a σ H fun x H1 => WE X b σ H1 fun y H2 => WB X (compareOp op) x y σ H2 fun z H3 => ∃ k, z = .bl k ∧ Q k H3) (hm : behindInMarks op b = false) : WT X (.Compare a [op] [b] pos) σ H Q :=
  ⟨fun pins s I => wpAny_isTrue_Compare1 (thn (h.run pins s I) fun v s1 ⟨x, H1, I1, r1, q1⟩ => thn (q1.run pins s1 I1) fun u s2 ⟨y, H2, I2, r2, q2⟩ => thn (q2.run pins s2 v u I2 r1 r2) fun d s3 ⟨z, H3, I3, r3, k, e, q3⟩ => by
    subst e
    cases r3
    exact wpAny_truthy_bool ⟨H3, I3, q3⟩) hm⟩
/-- a < b < c -/
theorem w_chain {op op' : CmpOp} (h : WE X a σ H fun x H1 => WE X b σ H1 fun y H2 => WB X (compareOp op) x y σ H2 fun z H3 => ∃ k, z = .bl k ∧ if k = true then WE X c σ H3 fun w' H4 => WB X (compareOp op') y w' σ H4 Q else Q (.bl false) H3)
    (hm : lastMarks [op, op'] [b, c] = false := by with_unfolding_all rfl) : WE X (.Compare a [op, op'] [b, c] pos) σ H Q :=
  ⟨fun pins s I => Compare_chain (thn (h.run pins s I) fun v s1 ⟨x, H1, I1, r1, q1⟩ => chain_link (thn (q1.run pins s1 I1) fun u s2 ⟨y, H2, I2, r2, q2⟩ => thn (q2.run pins s2 v u I2 r1 r2) fun d s3 ⟨z, H3, I3, r3, k, e, q3⟩ => by
    subst e
    cases r3
    refine wpAny_truthy_bool ?_
    cases k with
    | false => exact ite_ff ⟨.bl false, H3, I3, rfl, q3⟩
    | true => exact ite_tt (chain_last (thn (q3.run pins s3 I3) fun w' s4 ⟨z', H4, I4, r4, q4⟩ => q4.run pins s4 u w' I4 r2 r4)))) hm⟩
theorem wt_chain {op op' : CmpOp} {Q : Bool → Hp → Prop} (h : WE X a σ H fun x H1 => WE X b σ H1 fun y H2 => WB X (compareOp op) x y σ H2 fun z H3 => ∃ k, z = .bl k ∧ if k = true then WE X c σ H3 fun w' H4 => WB X (compareOp op') y w' σ H4 fun z' H5 => ∃ k', z' = .bl k' ∧ Q k' H5 else Q false H3)
    (hm : lastMarks [op, op'] [b, c] = false := by with_unfolding_all rfl) : WT X (.Compare a [op, op'] [b, c] pos) σ H Q :=
  ⟨fun pins s I => isTrue_chain (thn (h.run pins s I) fun v s1 ⟨x, H1, I1, r1, q1⟩ => test_link (thn (q1.run pins s1 I1) fun u s2 ⟨y, H2, I2, r2, q2⟩ => thn (q2.run pins s2 v u I2 r1 r2) fun d s3 ⟨z, H3, I3, r3, k, e, q3⟩ => by
    subst e
    cases r3
    refine wpAny_truthy_bool ?_
    cases k with
    | false => exact ite_ff ⟨H3, I3, q3⟩
    | true =>
      refine ite_tt (test_last (thn (q3.run pins s3 I3) fun w' s4 ⟨z', H4, I4, r4, q4⟩ => thn (q4.run pins s4 u w' I4 r2 r4) fun d' s5 ⟨z2, H5, I5, r5, k2, e2, q5⟩ => ?_))
      subst e2
      cases r5
      exact wpAny_truthy_bool ⟨H5, I5, q5⟩)) hm⟩
/-! ### tests -/
variable {T : Bool → Hp → Prop} {rest : List Expr}
theorem wt_of_ww (h : WW X a σ H T) : WT X a σ H T := (pw_w.pt).w h
theorem ww_and1 (h : WT X a σ H T) : WW X (.BoolOp .And [a] pos) σ H T := (pw_and1 pt_w).w h
theorem ww_or1 (h : WT X a σ H T) : WW X (.BoolOp .Or [a] pos) σ H T := (pw_or1 pt_w).w h
theorem ww_and (h : WT X a σ H fun k H1 => if k = true then WW X (.BoolOp .And (b :: rest) pos) σ H1 T else T false H1) : WW X (.BoolOp .And (a :: b :: rest) pos) σ H T := (pw_and pt_w pw_w).w h
theorem ww_or (h : WT X a σ H fun k H1 => if k = true then T true H1 else WW X (.BoolOp .Or (b :: rest) pos) σ H1 T) : WW X (.BoolOp .Or (a :: b :: rest) pos) σ H T := (pw_or pt_w pw_w).w h
theorem wt_not (h : WT X a σ H fun k H1 => T (!k) H1) : WT X (.UnaryOp .Not a pos) σ H T := (pt_not pt_w).w h
/-- any other expression, by its value's truth -/
theorem wt_val (h : WE X a σ H fun x H1 => ∃ k, TruV X.K x H1 k ∧ T k H1) (he : ∀ whole, isTrue a X.env whole = (do let v ← whole; standAt a.pos; holding [v] (truthy v)) := by intro _; with_unfolding_all rfl) : WT X a σ H T := (pt_truth pe_w he).w h
/-- as values, all but the last True or False -/
theorem w_one {op} (h : WE X a σ H Q) : WE X (.BoolOp op [a] pos) σ H Q := (pe_one pe_w).w h
theorem w_and (h : WE X a σ H fun x H1 => ∃ k, x = .bl k ∧ if k = true then WE X (.BoolOp .And (b :: rest) pos) σ H1 Q else Q (.bl false) H1) : WE X (.BoolOp .And (a :: b :: rest) pos) σ H Q := (pe_and pe_w pe_w).w h
theorem w_or (h : WE X a σ H fun x H1 => ∃ k, x = .bl k ∧ if k = true then Q (.bl true) H1 else WE X (.BoolOp .Or (b :: rest) pos) σ H1 Q) : WE X (.BoolOp .Or (a :: b :: rest) pos) σ H Q := (pe_or pe_w pe_w).w h
theorem w_not (h : WE X a σ H fun x H1 => ∃ k, x = .bl k ∧ Q (.bl (!k)) H1) : WE X (.UnaryOp .Not a pos) σ H Q := (pe_not pe_w).w h
theorem w_if (h : WT X c σ H fun k H1 => if k = true then WE X a σ H1 Q else WE X b σ H1 Q) : WE X (.IfExp c a b pos) σ H Q := (pe_ifExp pt_w pe_w pe_w).w h
end
/-- a new object: what stood stands -/
theorem same_new {H : Hp} {p : Addr} {o : HO} (h : H p = none) : Same H (upd H p o) := fun a u e => by
  rw [upd_ne (ne_of_none e h)]
  exact e
theorem newly {H : Hp} {p : Addr} {o : HO} {Q : Hp → Prop} (h : ∀ H', Same H H' → H' p = some o → Q H') (n : H p = none) : Q (upd H p o) := h _ (same_new n) upd_same
theorem newly' {H : Hp} {o : HO} {Q : Addr → Hp → Prop} (h : ∀ p H', H p = none → Same H H' → H' p = some o → Q p H') : ∀ p, H p = none → Q p (upd H p o) := fun p n => h p _ n (same_new n) upd_same
/-- an object that H does not know changes -/
theorem same_mut {H H' : Hp} {p : Addr} {o : HO} (e : Same H H') (h : H p = none) : Same H (upd H' p o) := fun a u q => by
  rw [upd_ne (ne_of_none q h)]
  exact e a u q
theorem same_at {H H' : Hp} {p : Addr} {o : HO} (e : Same H H') (h : H p = some o) : H' p = some o := e p o h
theorem same_t {K : PySem.W.Frag} {H H' : Hp} {a : Addr} {xs : List V} (e : Same H H') (h : SqT K H a xs) : SqT K H' a xs := by
  rcases h with (h | ⟨o, h⟩) | h
  · exact .inl (.inl (e _ _ h))
  · exact .inl (.inr ⟨o, e _ _ h⟩)
  · exact .inr h
theorem ite_bl {k : Bool} {A B : Prop} (h1 : k = true → A) (h2 : k = false → B) : if k = true then A else B := by
  cases k with
  | true => rw [if_pos rfl]; exact h1 rfl
  | false => rw [if_neg (by decide)]; exact h2 rfl
end Sv

namespace Sv
open PySem PySem.Spec PyProof.Rows L2

/-! ### operators on values -/
section
variable {X : Cx} {σ : L2.St} {H : Hp} {Q : VK}
theorem b_add {i j : Int} (q : Q (.int (i + j)) H) : WB X (binaryOp .Add) (.int i) (.int j) σ H Q := op_add.w ⟨_, _, rfl, rfl, q⟩
theorem b_sub {i j : Int} (q : Q (.int (i - j)) H) : WB X (binaryOp .Sub) (.int i) (.int j) σ H Q := op_sub.w ⟨_, _, rfl, rfl, q⟩
theorem b_mul {i j : Int} (h : IntMulOk i j) (q : Q (.int (i * j)) H) : WB X (binaryOp .Mult) (.int i) (.int j) σ H Q :=
  ⟨fun pins s v u I rx ry => by
    obtain ⟨t, rfl⟩ := rx
    obtain ⟨t', rfl⟩ := ry
    exact mul_int (show EP X pins σ Q _ _ from ⟨V.int (i * j), H, I.tok _, ⟨_, rfl⟩, q⟩) h⟩
theorem b_mod {i j : Int} (h : 0 < j) (q : Q (.int (i % j)) H) : WB X (binaryOp .Mod) (.int i) (.int j) σ H Q := op_mod.w ⟨_, _, rfl, rfl, h, q⟩
theorem b_fdiv {i j : Int} (h : 0 < j) (h2 : j < 1073741824) (q : Q (.int (i / j)) H) : WB X (binaryOp .FloorDiv) (.int i) (.int j) σ H Q := op_fdiv.w ⟨_, _, rfl, rfl, ⟨h, h2⟩, q⟩
theorem b_pow {i j : Int} (h : 0 ≤ j ∧ j ≤ 1000000 ∧ i.natAbs < 2 ^ 64) (q : Q (.int (i ^ j.toNat)) H) : WB X (binaryOp .Pow) (.int i) (.int j) σ H Q := op_pow.w ⟨_, _, rfl, rfl, h, q⟩
theorem b_addS {x y : Str} (h : x.length + y.length ≤ sizeLine) (q : Q (.str (x ++ y)) H) : WB X (binaryOp .Add) (.str x) (.str y) σ H Q := op_add_str.w ⟨_, _, rfl, rfl, h, q⟩
theorem b_cat {l b : Addr} {xs zs : List V} (h1 : H l = some (.lst xs)) (h2 : H b = some (.lst zs)) (hz : xs.length + zs.length ≤ sizeLine) (q : ∀ p H', H p = none → Same H H' → H' p = some (.lst (xs ++ zs)) → Q (.ref p) H') :
    WB X (binaryOp .Add) (.ref l) (.ref b) σ H Q := op_cat.w ⟨_, _, _, _, rfl, rfl, h1, h2, hz, newly' (Q := fun p H' => Q (.ref p) H') q⟩
theorem b_rep {l : Addr} {k : Int} {xs : List V} (h1 : H l = some (.lst xs)) (h2 : -(2 ^ 63) ≤ k) (h3 : k < 2 ^ 63) (hz : xs.length * k.toNat ≤ sizeLine) (q : ∀ p H', H p = none → Same H H' → H' p = some (.lst (List.replicate k.toNat xs).flatten) → Q (.ref p) H') :
    WB X (binaryOp .Mult) (.ref l) (.int k) σ H Q := op_rep.w ⟨_, _, _, rfl, rfl, h1, h2, h3, hz, newly' (Q := fun p H' => Q (.ref p) H') q⟩
theorem b_lt {i j : Int} (q : Q (.bl (decide (i < j))) H) : WB X (compareOp .Lt) (.int i) (.int j) σ H Q := op_lt.w ⟨_, _, rfl, rfl, q⟩
theorem b_le {i j : Int} (q : Q (.bl (decide (i ≤ j))) H) : WB X (compareOp .LtE) (.int i) (.int j) σ H Q := op_le.w ⟨_, _, rfl, rfl, q⟩
theorem b_gt {i j : Int} (q : Q (.bl (decide (j < i))) H) : WB X (compareOp .Gt) (.int i) (.int j) σ H Q := op_gt.w ⟨_, _, rfl, rfl, q⟩
theorem b_ge {i j : Int} (q : Q (.bl (decide (j ≤ i))) H) : WB X (compareOp .GtE) (.int i) (.int j) σ H Q := op_ge.w ⟨_, _, rfl, rfl, q⟩
theorem b_eqI {i j : Int} (q : Q (.bl (decide (i = j))) H) : WB X (compareOp .Eq) (.int i) (.int j) σ H Q := op_eq.w ⟨rfl, by simpa using q⟩
theorem b_neI {i j : Int} (q : Q (.bl (!decide (i = j))) H) : WB X (compareOp .NotEq) (.int i) (.int j) σ H Q := op_ne.w ⟨rfl, by simpa using q⟩
theorem b_eqS {x y : Str} (q : Q (.bl (decide (x = y))) H) : WB X (compareOp .Eq) (.str x) (.str y) σ H Q := op_eq.w ⟨rfl, by simpa using q⟩
theorem b_neS {x y : Str} (q : Q (.bl (!decide (x = y))) H) : WB X (compareOp .NotEq) (.str x) (.str y) σ H Q := op_ne.w ⟨rfl, by simpa using q⟩
theorem b_eqB {x y : Bool} (q : Q (.bl (decide (x = y))) H) : WB X (compareOp .Eq) (.bl x) (.bl y) σ H Q := op_eq.w ⟨rfl, by simpa using q⟩
theorem b_neB {x y : Bool} (q : Q (.bl (!decide (x = y))) H) : WB X (compareOp .NotEq) (.bl x) (.bl y) σ H Q := op_ne.w ⟨rfl, by simpa using q⟩
theorem b_eqV {x y : V} (h : scal x y = true) (q : Q (.bl (decide (x = y))) H) : WB X (compareOp .Eq) x y σ H Q := op_eq.w ⟨h, q⟩
theorem b_neV {x y : V} (h : scal x y = true) (q : Q (.bl (!decide (x = y))) H) : WB X (compareOp .NotEq) x y σ H Q := op_ne.w ⟨h, q⟩
theorem b_isN {x : V} (q : Q (.bl (decide (x = .non))) H) : WB X (compareOp .Is) x .non σ H Q := op_isN.w ⟨rfl, q⟩
theorem b_notN {x : V} (q : Q (.bl (!decide (x = .non))) H) : WB X (compareOp .IsNot) x .non σ H Q := op_notN.w ⟨rfl, q⟩
theorem b_isB {x y : Bool} (q : Q (.bl (decide (x = y))) H) : WB X (compareOp .Is) (.bl x) (.bl y) σ H Q := op_isBl.w ⟨_, _, rfl, rfl, q⟩
theorem b_notB {x y : Bool} (q : Q (.bl (!decide (x = y))) H) : WB X (compareOp .IsNot) (.bl x) (.bl y) σ H Q := op_notBl.w ⟨_, _, rfl, rfl, q⟩
theorem b_inS {c : Nat} {z : Str} (q : Q (.bl (decide (c ∈ z.cps.toList))) H) : WB X (compareOp .In) (.str ⟨#[c]⟩) (.str z) σ H Q := op_in_sign.w ⟨_, _, rfl, rfl, q⟩
theorem b_notinS {c : Nat} {z : Str} (q : Q (.bl (!decide (c ∈ z.cps.toList))) H) : WB X (compareOp .NotIn) (.str ⟨#[c]⟩) (.str z) σ H Q := op_notIn_sign.w ⟨_, _, rfl, rfl, q⟩
theorem b_inSet {k : Int} {a : Addr} {S : Int → Bool} {n : Nat} (h : H a = some (SetO X.w a S n)) (q : Q (.bl (S k)) H) : WB X (compareOp .In) (.int k) (.ref a) σ H Q := or_sin.w ⟨_, _, _, _, rfl, rfl, h, q⟩
theorem b_inL {x : V} {p : Addr} {xs : List V} (h : SqL X.K H p xs ∨ SqT X.K H p xs) (hx : flatV x = true) (ha : xs.all flatV = true) (q : Q (.bl (inV x xs)) H) : WB X (compareOp .In) x (.ref p) σ H Q := op_in_seq.w ⟨_, _, rfl, h, hx, ha, q⟩
theorem b_notinL {x : V} {p : Addr} {xs : List V} (h : SqL X.K H p xs ∨ SqT X.K H p xs) (hx : flatV x = true) (ha : xs.all flatV = true) (q : Q (.bl (!inV x xs)) H) : WB X (compareOp .NotIn) x (.ref p) σ H Q := op_notIn_seq.w ⟨_, _, rfl, h, hx, ha, q⟩
theorem u_neg {i : Int} (q : Q (.int (-i)) H) : WU X (unaryOp .USub) (.int i) σ H Q := un_neg.w ⟨_, rfl, q⟩
/-- == of data at any depth -/
theorem b_eqD {x y : V} {d e : PyData} (hu : X.A.units + 64 < cLine) (h1 : Dp X.K H x d) (h2 : Dp X.K H y e) (s1 : SeqAt.shaped d = true) (s2 : SeqAt.shaped e = true) (q : Q (.bl (PyData.eqv d e)) H) : WB X (compareOp .Eq) x y σ H Q :=
  (op_eqD hu).w ⟨d, e, h1, h2, s1, s2, q⟩
theorem b_neD {x y : V} {d e : PyData} (hu : X.A.units + 64 < cLine) (h1 : Dp X.K H x d) (h2 : Dp X.K H y e) (s1 : SeqAt.shaped d = true) (s2 : SeqAt.shaped e = true) (q : Q (.bl (!PyData.eqv d e)) H) : WB X (compareOp .NotEq) x y σ H Q :=
  (op_neD hu).w ⟨d, e, h1, h2, s1, s2, q⟩
end

/-! ### displays, arguments -/
section
variable {X : Cx} {e : Expr} {es : List Expr} {σ : L2.St} {H : Hp} {Q : VK} {pos : Pos} {R : List V → Hp → Prop}
theorem wa_nil (q : R [] H) : WA X [] σ H R := pa_nil.w q
theorem wa_cons (h : WE X e σ H fun x H1 => WA X es σ H1 fun xs H2 => R (x :: xs) H2) (hs : starEach (e :: es) X.env = (false, eval e X.env) :: starEach es X.env := by with_unfolding_all rfl) : WA X (e :: es) σ H R := (pa_cons pe_w pa_w hs).w h
theorem wa_star {p} (h : WE X e σ H fun x H1 => ∃ a xs, x = .ref a ∧ (SqT X.K H1 a xs ∨ SqL X.K H1 a xs) ∧ WA X es σ H1 fun ys H2 => R (xs ++ ys) H2) (hs : starEach (.Starred e p :: es) X.env = (true, eval e X.env) :: starEach es X.env := by with_unfolding_all rfl) : WA X (.Starred e p :: es) σ H R :=
  (StX.pa_star pe_w pa_w hs).w h
theorem w_lst (h : WA X es σ H fun xs H1 => xs.length ≤ sizeLine ∧ ∀ p H2, H1 p = none → Same H1 H2 → H2 p = some (.lst xs) → Q (.ref p) H2) : WE X (.List es pos) σ H Q :=
  (pe_lst pa_w).w (WA.imp h fun xs H1 ⟨a, q⟩ => ⟨a, newly' (Q := fun p H' => Q (.ref p) H') q⟩)
theorem w_tup {k} (h : WA X es σ H fun xs H1 => xs.length ≤ sizeLine ∧ ∀ p H2, H1 p = none → Same H1 H2 → H2 p = some (.tup xs) → Q (.ref p) H2) : WE X (.Tuple es k pos) σ H Q :=
  (pe_tup pa_w).w (WA.imp h fun xs H1 ⟨a, q⟩ => ⟨a, newly' (Q := fun p H' => Q (.ref p) H') q⟩)
end

/-! ### subscripts, slices -/
structure WX (X : Cx) (x y : V) (σ : L2.St) (H : Hp) (Q : VK) : Prop where
  ex : ∃ r : R2, IxR X r ∧ r x y H Q
structure WPt (X : Cx) (oe : Option Expr) (σ : L2.St) (H : Hp) (Q : Option Int → Hp → Prop) : Prop where
  run : ∀ (pins : List (Addr × Obj)) (s : Shared), Inv X pins σ H s → wpAny (model X.prog X.w) X.A (evalPart oe X.env) (fun u s' => ∃ o H', Inv X pins σ H' s' ∧ IsPart u o ∧ Q o H') X.xe s
theorem po_w {X : Cx} {oe : Option Expr} : PO X oe (WPt X oe) := ⟨fun pins s _ _ _ I h => h.run pins s I⟩
structure WSl (X : Cx) (x : V) (lo hi : Option Int) (σ : L2.St) (H : Hp) (Q : VK) : Prop where
  ex : ∃ r : V → Option Int → Option Int → Hp → VK → Prop, SlR X r ∧ r x lo hi H Q
section
variable {X : Cx} {a b e : Expr} {lo hi : Option Expr} {σ : L2.St} {H : Hp} {Q : VK} {pos p2 : Pos}
theorem ixr_w : IxR X fun x y H Q => ∀ σ, WX X x y σ H Q := by
  intro value slice pins s σ H x y v u Q I rx ry q hs
  obtain ⟨r, h, q⟩ := (q σ).ex
  exact h value slice pins s σ H x y v u Q I rx ry q hs
theorem w_ix (h : WE X a σ H fun x H1 => WE X b σ H1 fun y H2 => WX X x y σ H2 Q) (hs : PlainIx b := by with_unfolding_all exact fun _ _ => rfl) : WE X (.Subscript a b pos) σ H Q :=
  ⟨fun pins s I => Subscript_ (thn (h.run pins s I) fun v s1 ⟨x, H1, I1, r1, q1⟩ => thn (q1.run pins s1 I1) fun u s2 ⟨y, H2, I2, r2, q2⟩ => by
    obtain ⟨r, hr, q⟩ := q2.ex
    exact hr a b pins s2 σ H2 x y v u Q I2 r1 r2 q (hs _ _))⟩
theorem ix_l {p : Addr} {xs : List V} {i : Int} {v : V} (h : SqL X.K H p xs) (hv : atI xs i = some v) (q : Q v H) : WX X (.ref p) (.int i) σ H Q := ⟨_, ix_list, _, _, _, _, rfl, rfl, h, hv, q⟩
theorem ix_t {p : Addr} {xs : List V} {i : Int} {v : V} (h : SqT X.K H p xs) (hv : atI xs i = some v) (q : Q v H) : WX X (.ref p) (.int i) σ H Q := ⟨_, ix_tup, _, _, _, _, rfl, rfl, h, hv, q⟩
theorem ix_s {z : Str} {i : Int} {c : Nat} (h : z.length ≤ sizeLine) (hv : atI z.cps.toList i = some c) (q : Q (.str ⟨#[c]⟩) H) : WX X (.str z) (.int i) σ H Q := ⟨_, ix_str, _, _, _, rfl, rfl, h, hv, q⟩
theorem wp_none {Q : Option Int → Hp → Prop} (q : Q none H) : WPt X none σ H Q := ⟨fun pins s I => po_none.run pins s σ H Q I q⟩
theorem wp_some {Q : Option Int → Hp → Prop} (h : WE X e σ H fun x H1 => ∃ i, x = .int i ∧ Q (some i) H1) : WPt X (some e) σ H Q := ⟨fun pins s I => (po_some pe_w).run pins s σ H Q I h⟩
theorem w_slice (h : WE X e σ H fun x H1 => WPt X lo σ H1 fun l H2 => WPt X hi σ H2 fun u H3 => WSl X x l u σ H3 Q) : WE X (.Subscript e (.Slice lo hi none p2) pos) σ H Q := by
  have hr : SlR X fun x l u H Q => ∀ σ, WSl X x l u σ H Q := by
    intro pins s σ H x v vl vu lo hi sl Q I rx hs pl pu q
    obtain ⟨r, h, q⟩ := (q σ).ex
    exact h pins s σ H x v vl vu lo hi sl Q I rx hs pl pu q
  refine ⟨fun pins s I => ?_⟩
  refine Subscript_ (thn (h.run pins s I) fun v s1 ⟨x, H1, I1, r1, q1⟩ => ?_)
  refine wpAny_Slice (thn (q1.run pins s1 I1) fun vl s2 ⟨l, H2, I2, pl, q2⟩ => thn (q2.run pins s2 I2) fun vu s3 ⟨u, H3, I3, pu, q3⟩ => ?_)
  rw [evalPart_none]
  refine wpAny_pure ?_
  have I4 : Inv X pins σ H3 { s3 with heap := s3.heap.push { cls := .type "slice", data := .fields #[vl, vu, .none] } } := I3.kept (t' := s3.toks) fun b ob q => Heap.get?_push_of_some _ q
  obtain ⟨r, hr', q4⟩ := q3.ex
  obtain ⟨T, id, hT, ht, hg⟩ := hr' pins { s3 with heap := s3.heap.push { cls := .type "slice", data := .fields #[vl, vu, .none] } } σ H3 x v vl vu l u s3.heap.objs.size Q I4 r1 (Heap.IsSliceOf.new ..) pl pu q4
  show wpAny (model X.prog X.w) X.A (subscriptTail e (.Slice lo hi none p2) v (.ref s3.heap.objs.size)) (EP X pins σ Q) X.xe { s3 with heap := s3.heap.push { cls := .type "slice", data := .fields #[vl, vu, .none] } }
  exact tail_any (ops := [.ref s3.heap.objs.size, v]) ht hT hg (by with_unfolding_all rfl)
theorem sl_l {p : Addr} {xs : List V} {l u : Option Int} (h : SqL X.K H p xs) (q : ∀ p' H', H p' = none → Same H H' → H' p' = some (.lst (cutV xs l u)) → Q (.ref p') H') : WSl X (.ref p) l u σ H Q := ⟨_, sl_list, _, _, rfl, h, newly' (Q := fun p H' => Q (.ref p) H') q⟩
theorem sl_s {z : Str} {l u : Option Int} (h : z.length ≤ sizeLine) (q : Q (.str (cutS z l u)) H) : WSl X (.str z) l u σ H Q := ⟨_, sl_str, _, rfl, h, q⟩
end

/-! ### statements -/
section
variable {X : Cx} {N L S G B : List Str} {e c : Expr} {st : Stmt} {rest a b : List Stmt} {σ : L2.St} {H : Hp} {D : Ends} {pos : Pos} {x : Str}
theorem wl_nil (q : D.nx σ H) : WL X [] D σ H := pss_nil.w q
theorem wl_cons (h : WS X st { D with nx := fun σ' H' => WL X rest D σ' H' } σ H) : WL X (st :: rest) D σ H := (pss_cons ps_w pss_w).w h
theorem ws_pass (q : D.nx σ H) : WS X (.Pass pos) D σ H := ps_pass.w q
theorem ws_break (q : D.bk σ H) : WS X (.Break pos) D σ H := ps_break.w q
theorem ws_continue (q : D.ct σ H) : WS X (.Continue pos) D σ H := ps_continue.w q
theorem ws_doc {z j p'} (q : D.nx σ H) : WS X (.Expr (.Constant (.str z) j pos) p') D σ H := ps_doc.w q
theorem ws_expr (h : WE X e σ H fun _ H1 => D.nx σ H1) (hs : swapsWith e none pos.line X.env = pure false := by with_unfolding_all rfl) : WS X (.Expr e pos) D σ H := (ps_expr pe_w hs).w h
theorem ws_ret (h : WE X e σ H D.rt) : WS X (.Return (some e) pos) D σ H := (ps_ret pe_w).w h
theorem ws_retN (q : D.rt .non H) : WS X (.Return none pos) D σ H := ps_retN.w q
theorem ws_if (h : WT X c σ H fun k H1 => if k = true then WL X a D σ H1 else WL X b D σ H1) : WS X (.If c a b pos) D σ H := (ps_if pt_w pss_w pss_w).w h
theorem ws_set {p' : Pos} (c : Nm X N L S G B) (m : Mb x S) (h : WE X e σ H fun v H1 => ∃ σ', Put N σ x v σ' ∧ D.nx σ' H1) (hs : swapsWith e (some (.Name x p')) pos.line X.env = pure false := by with_unfolding_all rfl) : WS X (.Assign [.Name x p'] e pos) D σ H := by
  obtain ⟨a, b⟩ := c.sto x m.mem
  refine ⟨fun pins s I => ?_⟩
  refine wpAny_Assign_Name (thn (h.run pins s I) fun v s1 ⟨y, H1, I1, r1, σ', hp, q⟩ => ?_) hs
  obtain ⟨i, hi, rfl⟩ := hp.ix
  exact store_ok I1 (by rw [c.names]; exact c.nd) (by rw [c.names]; exact hi) a r1 (fun s2 I2 => ⟨_, H1, I2, q⟩) b
theorem ws_asg {tg : Expr} (h : WE X e σ H fun v H1 => WG X tg v σ H1 D.nx) (hs : swapsWithSole [tg] e pos.line X.env = pure false := by with_unfolding_all rfl) (hw : swappedStores [tg] e X.env = pure none := by with_unfolding_all rfl)
    (h1 : (assignEach [tg] X.env).map (·.2) = [assign tg X.env] := by with_unfolding_all rfl) : WS X (.Assign [tg] e pos) D σ H := (ps_asg pe_w pg_w hs hw h1).w h
/-- a, b = e, f with plain local names -/
theorem ws_par {y : Str} {ea eb : Expr} {px py pt : Pos} {kt k2 pt2} (c : Nm X N L S G B) (hx : X.env.scope.names.lookup x = some .local) (hy : X.env.scope.names.lookup y = some .local) (hxy : x ≠ y)
    (h : WE X ea σ H fun v H1 => WE X eb σ H1 fun w H2 => ∃ σ1 σ2, Put N σ x v σ1 ∧ Put N σ1 y w σ2 ∧ D.nx σ2 H2)
    (hw : swappedStores [.Tuple [.Name x px, .Name y py] kt pt] (.Tuple [ea, eb] k2 pt2) X.env = pure (some [x, y]))
    (hs : swapsWithSole [.Tuple [.Name x px, .Name y py] kt pt] (.Tuple [ea, eb] k2 pt2) pos.line X.env = pure false := by with_unfolding_all rfl)
    (h1 : starEach [ea, eb] X.env = (false, eval ea X.env) :: starEach [eb] X.env := by with_unfolding_all rfl) (h2 : starEach [eb] X.env = (false, eval eb X.env) :: starEach [] X.env := by with_unfolding_all rfl)
    (ix : ∃ i j : Nat, N[i]? = some x ∧ N[j]? = some y) :
    WS X (.Assign [.Tuple [.Name x px, .Name y py] kt pt] (.Tuple [ea, eb] k2 pt2) pos) D σ H := by
  obtain ⟨i, j, hi, hj⟩ := ix
  have nd : X.N.Nodup := by rw [c.names]; exact c.nd
  have hi' : X.N[i]? = some x := by rw [c.names]; exact hi
  have hj' : X.N[j]? = some y := by rw [c.names]; exact hj
  have hij : i ≠ j := fun z => by
    rw [z, hj'] at hi'
    exact hxy (Option.some.inj hi').symm
  refine (ps_par (i := i) (j := j) c.calm nd hi' hj' hij hx hy (pa_cons pe_w (pa_cons pe_w pa_nil h2) h1) hw hs).w ?_
  refine WE.imp h fun v H1 h1 => WE.imp h1 fun w H2 ⟨σ1, σ2, p1, p2, q⟩ => ⟨v, w, rfl, ?_⟩
  obtain ⟨i', hi2, rfl⟩ := p1.ix
  obtain ⟨j', hj2, rfl⟩ := p2.ix
  have ei : i' = i := nodup_ix nd (by rw [c.names]; exact hi2) hi'
  have ej : j' = j := nodup_ix nd (by rw [c.names]; exact hj2) hj'
  subst ei ej
  exact q
theorem ws_never (h : False) : WS X st D σ H := h.elim
/-- targets -/
theorem wgs_nil {Q : L2.St → Hp → Prop} (q : Q σ H) : WGs X [] [] σ H Q := pgs_nil.w ⟨rfl, q⟩
theorem wgs_cons {Q : L2.St → Hp → Prop} {es : List Expr} {v : V} {vs : List V} (h : WG X e v σ H fun σ' H' => WGs X es vs σ' H' Q) (hs : (assignEach (e :: es) X.env).map (·.2) = assign e X.env :: (assignEach es X.env).map (·.2) := by with_unfolding_all rfl) : WGs X (e :: es) (v :: vs) σ H Q :=
  (pgs_cons pg_w pgs_w hs).w ⟨v, vs, rfl, h⟩
theorem wg_tup {Q : L2.St → Hp → Prop} {es : List Expr} {k} {p : Addr} {xs : List V} (c : Nm X N L S G B) (h : SqT X.K H p xs) (q : WGs X es xs σ H Q) (hn : (assignEach es X.env).length = xs.length := by with_unfolding_all rfl) (hst : (assignEach es X.env).findIdx? (·.1) = none := by with_unfolding_all rfl) :
    WG X (.Tuple es k pos) (.ref p) σ H Q := (pg_tup c.calm pgs_w hn hst).w ⟨p, xs, rfl, h, rfl, q⟩
theorem wg_lst {Q : L2.St → Hp → Prop} {es : List Expr} {k} {p : Addr} {xs : List V} (c : Nm X N L S G B) (h : SqL X.K H p xs) (q : WGs X es xs σ H Q) (hn : (assignEach es X.env).length = xs.length := by with_unfolding_all rfl) (hst : (assignEach es X.env).findIdx? (·.1) = none := by with_unfolding_all rfl) :
    WG X (.Tuple es k pos) (.ref p) σ H Q := (pg_lst c.calm pgs_w hn hst).w ⟨p, xs, rfl, h, rfl, q⟩
/-- o[i] = v of a list -/
theorem wg_subL {Q : L2.St → Hp → Prop} {o i : Expr} {v : V} (h : WE X o σ H fun x H1 => WE X i σ H1 fun y H2 => ∃ l xs k j, x = .ref l ∧ y = .int k ∧ H2 l = some (.lst xs) ∧ ixN xs.length k = some j ∧ Q σ (upd H2 l (.lst (xs.set j v))))
    (ha : ∀ v, assign (.Subscript o i pos) X.env v = (do
      let ov ← holding [v] (eval o X.env)
      let iv ← holding [v, ov] (eval i X.env)
      standAt pos
      holding [v, ov, iv] (setItem ov iv v)
      release [v, ov, iv] []) := by intro _; with_unfolding_all rfl) : WG X (.Subscript o i pos) v σ H Q := (pg_sub pe_w pe_w set_list ha).w h
/-- o.f = e -/
theorem ws_fld {o e : Expr} {f : Str} {p' : Pos} (h : WE X e σ H fun y H1 => WE X o σ H1 fun x H2 => ∃ a C dx fs, x = .ref a ∧ H2 a = some (.ins C dx fs) ∧ Cls X.K C ∧ NoAttr X.K C f ∧ fs.length < 1000 ∧ D.nx σ (upd H2 a (.ins C dx (putF f y fs))))
    (hs : swapsWith e (some (.Attribute o f p')) pos.line X.env = pure false := by with_unfolding_all rfl) : WS X (.Assign [.Attribute o f p'] e pos) D σ H := (ps_fld pe_w pe_w hs).w h
/-- x op= e -/
theorem ws_aug {p' : Pos} {op : Operator} {v : V} (c : Nm X N L S G B) (m : Mb x S) (h0 : At N σ x v) (h : WE X e σ H fun w H1 => WB X (inplaceOp op) v w σ H1 fun z H2 => ∃ σ', Put N σ x z σ' ∧ D.nx σ' H2) : WS X (.AugAssign (.Name x p') op e pos) D σ H := by
  obtain ⟨a, b⟩ := c.sto x m.mem
  obtain ⟨i, h1, h2⟩ := h0.ix
  have nd : X.N.Nodup := by rw [c.names]; exact c.nd
  have h1' : X.N[i]? = some x := by rw [c.names]; exact h1
  have hip : PIp X op fun x y H Q => ∀ σ, WB X (inplaceOp op) x y σ H Q := fun pins s σ H x y v u Q I rx ry q => (q σ).run pins s v u I rx ry
  refine ⟨fun pins s I => ?_⟩
  obtain ⟨mm, hn, hl⟩ := I.loc
  have vis : Vis X.env.scope x := by rcases a with k | k; exact .inl k; exact .inr (.inl k)
  obtain ⟨u, r, l⟩ := hl i x v h1' h2 vis
  refine wpAny_AugAssign_Name ?_
  have go : wpAny (model X.prog X.w) X.A (eval e X.env) (fun w s₂ => wpAny (model X.prog X.w) X.A (inplaceOp op u w) (fun r s₃ => wpAny (model X.prog X.w) X.A (storeName X.env x r) (fun _ => SP X pins D .next) X.xe s₃) X.xe s₂) X.xe s := by
    refine thn (h.run pins s I) fun w s1 ⟨y, H1, I1, r1, q1⟩ => ?_
    refine thn (q1.run pins s1 u w I1 r r1) fun z s2 ⟨zv, H2, I2, r2, σ', hp, q2⟩ => ?_
    obtain ⟨i', hi2, rfl⟩ := hp.ix
    exact store_ok I2 nd (by rw [c.names]; exact hi2) a r2 (fun s3 I3 => ⟨_, H2, I3, q2⟩) b
  rcases l with ⟨hk, hm⟩ | ⟨hk, c', hc, hcell⟩
  · exact wpAny_loadName_local I.ok.kind hk hn hm go
  · rcases hk with hk | hk
    · exact wpAny_loadName_cell I.ok.kind hk hc hcell go
    · rcases a with k | k
      · have : X.env.scope.names.lookup x = some .free := hk
        rw [k] at this; cases this
      · have : X.env.scope.names.lookup x = some .free := hk
        rw [k] at this; cases this
theorem i_add {i j : Int} {Q : VK} (q : Q (.int (i + j)) H) : WB X (inplaceOp .Add) (.int i) (.int j) σ H Q := iop_add.w ⟨_, _, rfl, rfl, q⟩
theorem i_sub {i j : Int} {Q : VK} (q : Q (.int (i - j)) H) : WB X (inplaceOp .Sub) (.int i) (.int j) σ H Q := iop_sub.w ⟨_, _, rfl, rfl, q⟩
end
/-- a branch by its known bool, by a decided one -/
theorem if_dec {p : Prop} [Decidable p] {A B : Prop} (h1 : p → A) (h2 : ¬ p → B) : if decide p = true then A else B := by
  by_cases h : p
  · rw [decide_eq_true h, if_pos rfl]; exact h1 h
  · rw [decide_eq_false h, if_neg (by decide)]; exact h2 h
theorem if_ndec {p : Prop} [Decidable p] {A B : Prop} (h1 : ¬ p → A) (h2 : p → B) : if (!decide p) = true then A else B := by
  by_cases h : p
  · rw [decide_eq_true h]; exact h2 h
  · rw [decide_eq_false h]; exact h1 h
end Sv

namespace Sv
open PySem PySem.Spec PyProof.Rows L2

/-! ### walks that hand out new tuples -/
def Itg (n : Nat) (xs : Nat → List V) : It := ⟨fun i _ => i < n, fun i H v H' => i < n ∧ ∃ T, v = .ref T ∧ H T = none ∧ H' = upd H T (.tup (xs i)), fun i _ => n ≤ i⟩
theorem turn_goes {P : Program} {w : World} {K : PySem.W.Frag} {elts : List Expr} {kk : Nat} {tpos : Pos} {I : Addr} {fp wr : List Addr} {n : Nat} {St : Nat → Heap → Prop} {xs : Nat → List V}
    (W : ∀ A : Around, A.handled = none → ∃ Y, GoesN P w A (.Tuple elts kk tpos) I fp wr n Y St ∧ ∀ i h0 v h, i < n → Y i h0 v h → ∃ T vals, v = .ref T ∧ h0.objs.size ≤ T ∧ Vals (xs i) vals.toList ∧ h.IsTuple T vals)
    (hz : ∀ i, i < n → (xs i).length ≤ sizeLine) (mem : I ∈ fp) (obj : ∀ i h, St i h → ∀ b ∈ fp, ∃ o, h.get? b = some o ∧ ∀ v, o.data ≠ .cell v)
    (fr : ∀ i h h', St i h → (∀ b ∈ fp, ∀ o, h.get? b = some o → h'.get? b = some o) → St i h')
    (sf : ∀ (A : Around) (i : Nat) (s : Shared) (Q : Value → Shared → Prop) (E : Value → Shared → Prop), St i s.heap → Q (.ref I) s → wpAny (model P w) A (pyIter (.ref I)) Q E s) :
    Turn P w K (.Tuple elts kk tpos) (Itg n xs) fp I (fun i h => i ≤ n ∧ St i h) where
  mem := mem
  obj := fun i h st b hb => obj i h st.2 b hb
  keep := fun i h h' st k => ⟨st.1, fr i h h' st.2 k⟩
  item := by
    intro X hP hw hK hc i pins s σ H E I0 hf st hg
    subst hP hw hK
    obtain ⟨Y, G, hY⟩ := W X.A (I0.ok.hd hc)
    have hi : i < n := hg
    refine thn (G.goes i s (fun u s2 => ∃ x H', Inv X pins σ H' s2 ∧ RelV x u ∧ (Itg n xs).yld i H x H' ∧ (i + 1 ≤ n ∧ St (i + 1) s2.heap) ∧ ∀ b ∈ fp, H' b = none) E hi st.2 fun v h' tk y st' k _ => ?_) fun r s1 h => h
    obtain ⟨T, vals, rfl, hT, rv, ht⟩ := hY i s.heap v h' hi y
    have hwf : ∀ b ∈ wr, b ∈ fp := G.sub
    have new : ObjOk X.prog X.w (upd H T (.tup (xs i))) h' T (.tup (xs i)) := ⟨hz i hi, vals.toList, rv, by
      obtain ⟨o, ho, hcl, m, hd⟩ := ht
      exact ⟨o, ho, hcl, m, by simpa using hd⟩⟩
    have I1 : Inv X pins σ (upd H T (.tup (xs i))) { s with heap := h', toks := tk } :=
      I0.turnedNew (ch := fp) (fun b ob hb q => k b ob (fun z => hb (hwf b z)) q) hf hT new
    refine ⟨.ref T, _, I1, rfl, ⟨hi, T, rfl, I0.hok.fresh hT, rfl⟩, ⟨hi, st'⟩, fun b hb => ?_⟩
    obtain ⟨o, ho, _⟩ := obj i s.heap st.2 b hb
    rw [upd_ne (Nat.ne_of_lt (Nat.lt_of_lt_of_le (Heap.lt_size ho) hT))]
    exact (hf b hb).1
  done := by
    intro X hP hw hK hc i pins s σ H E I0 hf st hg
    subst hP hw hK
    obtain ⟨Y, G, hY⟩ := W X.A (I0.ok.hd hc)
    have hi : n ≤ i := hg
    have e : i = n := Nat.le_antisymm st.1 hi
    subst e
    refine thn (G.stops s (fun s1 => Inv X pins σ H s1) E st.2 fun h' tk k _ => ?_) fun r s1 h => h
    have hwf : ∀ b ∈ wr, b ∈ fp := G.sub
    refine I0.step (g' := s.gens) (d' := s.drawn) (ch := fp) (fun b hb => ⟨(hf b hb).2.2.2.1, (hf b hb).2.1, (hf b hb).2.2.2.2.1, (hf b hb).2.2.2.2.2⟩) (fun b o _ _ hc e _ => k b o (fun z => hc (hwf b z)) e) (fun b o _ _ hc e _ => ⟨o.slots, k b o (fun z => hc (hwf b z)) e⟩) (fun _ _ _ _ n => n)
      (fun b o hc e => ⟨o, k b o (fun z => hc (hwf b z)) e⟩) (fun _ _ e => e) (fun _ _ _ e => e) (fun b ps e => ⟨#[], by rw [e]; simp⟩) (fun m hm => ?_) (fun b u e => ?_) I0.bare
    · obtain ⟨o, es, ep, ho, r⟩ := hm
      exact ⟨o, es, ep, k _ o (fun z => (hf _ (hwf _ z)).2.1 rfl) ho, r⟩
    · refine (I0.hok b u e).stay (fun c v hc q => k c v (fun z => ?_) q) (fun _ q => q) fun _ _ q => q
      have hn := (hf c (hwf c z)).1
      rcases hc with rfl | hc
      · rw [hn] at e; cases e
      · rw [hn] at hc; cases hc
  self := fun A i s Q E st h => sf A i s Q E st.2 h

/-- the signs of a text, numbered -/
def signAt (x : Str) (i : Nat) : V := .str ⟨#[x.cps.getD i 0]⟩
def iEnumS (ta : TA) : TI := fun σ H R => ta σ H fun vs H1 => ∃ x, vs = [.str x] ∧ R (Itg x.cps.size fun i => [.int (i : Nat), signAt x i]) H1
theorem pi_enumS {X : Cx} {e : Expr} {ta : TA} {p pos tpos : Pos} {elts : List Expr} {kk : Nat} (hg : Gl X "enumerate") (hm : X.mg "enumerate" = none) (ha : PA X [e] ta) (hs : starEach [e] X.env = [(false, eval e X.env)] := by with_unfolding_all rfl) :
    PI X (.Tuple elts kk tpos) (.Call (.Name "enumerate" p) [e] [] pos) (iEnumS ta) := by
  refine ⟨fun pins s σ H R I h => ?_⟩
  refine Call_ (ld_blt I hg hm boot_enumerate (PyProof.Rows.callWith_type1 (thn (ha.run pos pins s σ H _ I h) fun us s1 ⟨vs, H1, I1, r1, q1⟩ => ?_) hs rfl))
  obtain ⟨x, ex, q⟩ := q1
  subst ex
  cases r1 with
  | cons r rr =>
    cases rr
    obtain ⟨t, rfl⟩ := r
    refine call_enumerate_str fun h' he hit hsz hk => wpAny_pyIter_enum he ?_
    have I2 : Inv X pins σ H1 { s1 with heap := h' } := I1.kept (t' := s1.toks) hk
    have T := turn_goes (P := X.prog) (w := X.w) (K := X.K) (elts := elts) (kk := kk) (tpos := tpos) (I := s1.heap.objs.size + 1) (fp := [s1.heap.objs.size + 1, s1.heap.objs.size]) (n := x.cps.size) (xs := fun i => [.int (i : Nat), signAt x i])
      (fun A hA => ⟨_, GoesN.enumFrom (elts := elts) (x1 := kk) (pos := tpos) 0 (Draws.text (A := A.in1) hA s1.heap.objs.size x t) (s1.heap.objs.size + 1) (Nat.succ_ne_self _) (by simp) (by simp), fun i h0 v h hi ⟨T, tk, y, ev, hn, ⟨c, u, hc, ey⟩, hT⟩ => ⟨T, _, ev, hn, .cons ⟨tk, by simp⟩ (.cons ⟨u, by rw [ey, Array.getD_eq_getD_getElem?, hc]; rfl⟩ .nil), hT⟩⟩)
      (fun i _ => by show 2 ≤ sizeLine; decide) (by simp) (fun i h st b hb => ?_) (fun i h h' st k => ?_) (fun A i s Q E st h => let ⟨⟨_, he⟩, _⟩ := st; wpAny_pyIter_enum he h)
    · refine ⟨_, _, _, _, H1, rfl, I2, T, ⟨Nat.zero_le _, ⟨.none, by simpa using he⟩, hit⟩, fun b hb => ?_, q⟩
      have e' : b = s1.heap.objs.size + 1 ∨ b = s1.heap.objs.size := by simpa using hb
      have hle : s1.heap.objs.size ≤ b := by
        rcases e' with z | z
        · rw [z]; exact Nat.le_add_right _ _
        · rw [z]; exact Nat.le_refl _
      exact I1.fpOk hle (I1.hok.fresh hle)
    · obtain ⟨⟨old, he⟩, ⟨o, ho, hc, hd⟩⟩ := st
      have e' : b = s1.heap.objs.size + 1 ∨ b = s1.heap.objs.size := by simpa using hb
      rcases e' with z | z
      · rw [z]; exact ⟨_, he, fun v q => nomatch q⟩
      · rw [z]; exact ⟨o, ho, fun v q => by rw [hd] at q; cases q⟩
    · obtain ⟨⟨old, he⟩, o, ho, hc, hd⟩ := st
      exact ⟨⟨old, k _ (by simp) _ he⟩, o, k _ (by simp) o ho, hc, hd⟩

/-! ### what is walked -/
structure WI (X : Cx) (tg iter : Expr) (σ : L2.St) (H : Hp) (R : It → Hp → Prop) : Prop where
  run : ∀ (pins : List (Addr × Obj)) (s : Shared), Inv X pins σ H s → wpAny (model X.prog X.w) X.A (eval iter X.env) (fun v s1 => wpAny (model X.prog X.w) X.A (pyIter v) (PIE X pins σ tg R) X.xe s1) X.xe s
theorem pi_w {X : Cx} {tg iter : Expr} : PI X tg iter (WI X tg iter) := ⟨fun pins s _ _ _ I h => h.run pins s I⟩
theorem _root_.L2.PI.w {X : Cx} {tg iter : Expr} {t : TI} {σ : L2.St} {H : Hp} {R : It → Hp → Prop} (h : PI X tg iter t) (q : t σ H R) : WI X tg iter σ H R := ⟨fun pins s I => h.run pins s σ H R I q⟩
/-- J walks n items, the i-th it i, while what stood in H1 stands -/
structure Wlk (J : It) (n : Nat) (it : Nat → V) (H1 : Hp) : Prop where
  go : ∀ i H, i < n → Same H1 H → J.go i H
  yld : ∀ i H v H', i < n → Same H1 H → J.yld i H v H' → v = it i ∧ H' = H
  stop : ∀ i H, n ≤ i → Same H1 H → J.stop i H
/-- the same, each item a new tuple -/
structure WlkT (J : It) (n : Nat) (it : Nat → List V) (H1 : Hp) : Prop where
  go : ∀ i H, i < n → Same H1 H → J.go i H
  yld : ∀ i H v H', i < n → Same H1 H → J.yld i H v H' → ∃ T, v = .ref T ∧ H T = none ∧ H' = upd H T (.tup (it i))
  stop : ∀ i H, n ≤ i → Same H1 H → J.stop i H
theorem wlk_list {K : PySem.W.Frag} {a : Addr} {xs : List V} {H1 : Hp} (h : SqL K H1 a xs) : Wlk (Itl K a) xs.length (fun i => xs.getD i .non) H1 where
  go := fun i H hi e => ⟨xs, xs[i], Same.seq e h, by simp [hi]⟩
  yld := fun i H v H' hi e y => ⟨by have := y.2 xs (Same.seq e h); rw [List.getD_eq_getElem?_getD, this]; rfl, y.1⟩
  stop := fun i H hi e => ⟨xs, Same.seq e h, hi⟩
theorem wlk_tup {K : PySem.W.Frag} {a : Addr} {xs : List V} {H1 : Hp} (h : SqT K H1 a xs) : Wlk (Itt K a) xs.length (fun i => xs.getD i .non) H1 where
  go := fun i H hi e => ⟨xs, xs[i], same_t e h, by simp [hi]⟩
  yld := fun i H v H' hi e y => ⟨by have := y.2 xs (same_t e h); rw [List.getD_eq_getElem?_getD, this]; rfl, y.1⟩
  stop := fun i H hi e => ⟨xs, same_t e h, hi⟩
theorem wlk_range {lo : Int} {n : Nat} {H1 : Hp} : Wlk (Itr lo n) n (fun i => .int (lo + (i : Nat))) H1 where
  go := fun i H hi e => hi
  yld := fun i H v H' hi e y => ⟨y.2, y.1⟩
  stop := fun i H hi e => hi
theorem wlk_str {x : Str} {H1 : Hp} : Wlk (Its x) x.cps.size (signAt x) H1 where
  go := fun i H hi e => hi
  yld := fun i H v H' hi e y => by
    obtain ⟨e1, c, hc, ev⟩ := y
    refine ⟨?_, e1⟩
    rw [ev]
    unfold signAt
    rw [Array.getD_eq_getD_getElem?, hc]; rfl
  stop := fun i H hi e => hi
theorem wlk_g {n : Nat} {xs : Nat → List V} {H1 : Hp} : WlkT (Itg n xs) n xs H1 where
  go := fun i H hi e => hi
  yld := fun i H v H' hi e y => y.2
  stop := fun i H hi e => hi
theorem wlk_enum {K : PySem.W.Frag} {a : Addr} {xs : List V} {H1 : Hp} (h : SqL K H1 a xs) : WlkT (Ite K a) xs.length (fun i => [.int (i : Nat), xs.getD i .non]) H1 where
  go := fun i H hi e => ⟨xs, xs[i], Same.seq e h, by simp [hi]⟩
  yld := fun i H v H' hi e y => by
    obtain ⟨T, x, ev, hT, eH, hx⟩ := y
    have := hx xs (Same.seq e h)
    exact ⟨T, ev, hT, by rw [eH, List.getD_eq_getElem?_getD, this]; rfl⟩
  stop := fun i H hi e => ⟨xs, Same.seq e h, hi⟩
theorem wlk_zip {K : PySem.W.Frag} {a b : Addr} {xs ys : List V} {H1 : Hp} (h : SqL K H1 a xs) (h' : SqL K H1 b ys) : WlkT (Itz K a b) (min xs.length ys.length) (fun i => [xs.getD i .non, ys.getD i .non]) H1 where
  go := fun i H hi e => ⟨xs, ys, xs[i]'(by omega), ys[i]'(by omega), Same.seq e h, Same.seq e h', by simp [show i < xs.length by omega], by simp [show i < ys.length by omega]⟩
  yld := fun i H v H' hi e y => by
    obtain ⟨T, x, z, ev, hT, eH, hx, hy⟩ := y
    have e1 := hx xs (Same.seq e h)
    have e2 := hy ys (Same.seq e h')
    exact ⟨T, ev, hT, by rw [eH, List.getD_eq_getElem?_getD, List.getD_eq_getElem?_getD, e1, e2]; rfl⟩
  stop := fun i H hi e => ⟨xs, ys, Same.seq e h, Same.seq e h', by omega⟩
section
variable {X : Cx} {N L S G B : List Str} {tg e a b : Expr} {σ : L2.St} {H : Hp} {R : It → Hp → Prop} {p pos : Pos}
theorem wi_list (h : WE X e σ H fun x H1 => ∃ a xs, x = .ref a ∧ SqL X.K H1 a xs ∧ R (Itl X.K a) H1) : WI X tg e σ H R := (pi_list pe_w).w (WE.imp h fun x H1 ⟨a, xs, e, h, q⟩ => ⟨a, e, ⟨xs, h⟩, q⟩)
theorem wi_tup (h : WE X e σ H fun x H1 => ∃ a xs, x = .ref a ∧ SqT X.K H1 a xs ∧ R (Itt X.K a) H1) : WI X tg e σ H R := (pi_tup pe_w).w (WE.imp h fun x H1 ⟨a, xs, e, h, q⟩ => ⟨a, e, ⟨xs, h⟩, q⟩)
theorem wi_str (h : WE X e σ H fun x H1 => ∃ z, x = .str z ∧ R (Its z) H1) : WI X tg e σ H R := (pi_str pe_w).w h
theorem wi_range1 (c : Nm X N L S G B) (m : Mb "range" B) (h : WE X a σ H fun x H1 => ∃ j : Int, x = .int j ∧ -(2 ^ 62) ≤ j ∧ j < 2 ^ 62 ∧ R (Itr 0 j.toNat) H1) (hs : starEach [a] X.env = [(false, eval a X.env)] := by with_unfolding_all rfl) : WI X tg (.Call (.Name "range" p) [a] [] pos) σ H R :=
  (pi_range1 (c.bgl _ m.mem).1 (c.blt _ m.mem) (pa_cons pe_w pa_nil hs) hs).w (WE.imp h fun x H1 ⟨j, e, h⟩ => ⟨j, by rw [e], h⟩)
theorem wi_range2 (c : Nm X N L S G B) (m : Mb "range" B) (h : WE X a σ H fun x H1 => WE X b σ H1 fun y H2 => ∃ i j : Int, x = .int i ∧ y = .int j ∧ (-(2 ^ 62) ≤ i ∧ i < 2 ^ 62 ∧ -(2 ^ 62) ≤ j ∧ j < 2 ^ 62) ∧ R (Itr i (j - i).toNat) H2) (hs : starEach [a, b] X.env = [(false, eval a X.env), (false, eval b X.env)] := by with_unfolding_all rfl) (hs2 : starEach [b] X.env = [(false, eval b X.env)] := by with_unfolding_all rfl) :
    WI X tg (.Call (.Name "range" p) [a, b] [] pos) σ H R :=
  (pi_range2 (c.bgl _ m.mem).1 (c.blt _ m.mem) (pa_cons pe_w (pa_cons pe_w pa_nil hs2) (hs.trans (by rw [hs2]))) hs hs2).w (WE.imp h fun x H1 h1 => WE.imp h1 fun y H2 ⟨i, j, e1, e2, h⟩ => ⟨i, j, by rw [e1, e2], h⟩)
theorem wi_enumS {elts : List Expr} {kk : Nat} {tpos : Pos} (c : Nm X N L S G B) (m : Mb "enumerate" B) (h : WE X a σ H fun x H1 => ∃ z, x = .str z ∧ R (Itg z.cps.size fun i => [.int (i : Nat), signAt z i]) H1) (hs : starEach [a] X.env = [(false, eval a X.env)] := by with_unfolding_all rfl) :
    WI X (.Tuple elts kk tpos) (.Call (.Name "enumerate" p) [a] [] pos) σ H R :=
  (pi_enumS (c.bgl _ m.mem).1 (c.blt _ m.mem) (pa_cons pe_w pa_nil hs) hs).w (WE.imp h fun x H1 ⟨j, e, h⟩ => ⟨j, by rw [e], h⟩)
theorem wi_enumL {elts : List Expr} {kk : Nat} {tpos : Pos} (c : Nm X N L S G B) (m : Mb "enumerate" B) (h : WE X a σ H fun x H1 => ∃ l xs, x = .ref l ∧ SqL X.K H1 l xs ∧ R (Ite X.K l) H1) (hs : starEach [a] X.env = [(false, eval a X.env)] := by with_unfolding_all rfl) :
    WI X (.Tuple elts kk tpos) (.Call (.Name "enumerate" p) [a] [] pos) σ H R :=
  (pi_enum (c.bgl _ m.mem).1 (c.blt _ m.mem) (pa_cons pe_w pa_nil hs) hs).w (WE.imp h fun x H1 ⟨l, xs, e, h, q⟩ => ⟨l, xs, by rw [e], h, q⟩)
theorem wi_zip {elts : List Expr} {kk : Nat} {tpos : Pos} (c : Nm X N L S G B) (m : Mb "zip" B) (h : WE X a σ H fun x H1 => WE X b σ H1 fun y H2 => ∃ l l' xs ys, x = .ref l ∧ y = .ref l' ∧ SqL X.K H2 l xs ∧ SqL X.K H2 l' ys ∧ R (Itz X.K l l') H2) (hs : starEach [a, b] X.env = [(false, eval a X.env), (false, eval b X.env)] := by with_unfolding_all rfl) (hs2 : starEach [b] X.env = [(false, eval b X.env)] := by with_unfolding_all rfl) :
    WI X (.Tuple elts kk tpos) (.Call (.Name "zip" p) [a, b] [] pos) σ H R :=
  (pi_zip (c.bgl _ m.mem).1 (c.blt _ m.mem) (pa_cons pe_w (pa_cons pe_w pa_nil hs2) (hs.trans (by rw [hs2]))) (hs.trans (by rw [hs2])) (by rw [hs2]; rfl)).w (WE.imp h fun x H1 h1 => WE.imp h1 fun y H2 ⟨l, l', xs, ys, e1, e2, h, h', q⟩ => ⟨l, l', xs, ys, by rw [e1, e2], h, h', q⟩)
end

/-! ### loops -/
section
variable {X : Cx} {N L S G B : List Str} {tg iter c : Expr} {body : List Stmt} {σ : L2.St} {H : Hp} {D : Ends} {pos : Pos}
/-- for: W over n items, an invariant -/
theorem ws_for (hp : PassesOwn (model X.prog X.w) X.A X.env X.xe) (hc : Nm X N L S G B)
    (h : WI X tg iter σ H fun J H1 => ∃ n it, Wlk J n it H1 ∧ ∃ Pv : Nat → L2.St → Hp → Prop, Pv 0 σ H1 ∧ (∀ i σ' H', Pv i σ' H' → Same H1 H') ∧
      (∀ i σ' H', i < n → Pv i σ' H' → WG X tg (it i) σ' H' fun σ2 H2 => WL X body { D with nx := Pv (i + 1), ct := Pv (i + 1), bk := D.nx } σ2 H2) ∧ ∀ σ' H', Pv n σ' H' → D.nx σ' H')
    (hs : ∀ x, foldedSetIterable iter X.env x = pure x := by intro _; with_unfolding_all rfl) : WS X (.For tg iter body [] pos) D σ H := by
  refine (ps_for hp hc.calm pi_w pg_w pss_w hs).w ?_
  refine ⟨fun pins s I => thn (h.run pins s I) fun v s1 h1 => thn h1 fun itv s2 ⟨it, fp, tn, J, H', e, I', T, t0, hf, n, itm, W, Pv, p0, hsm, hst, hd⟩ => ⟨it, fp, tn, J, H', e, I', T, t0, hf, ?_⟩⟩
  refine ⟨fun i m σ' H'' => m = n - i ∧ i ≤ n ∧ Pv i σ' H'', ⟨n, by simp, Nat.zero_le _, p0⟩, ?_⟩
  rintro i m σ' H'' ⟨rfl, hi, p⟩
  by_cases hlt : i < n
  · refine .inr ⟨W.go i H'' hlt (hsm _ _ _ p), Pv (i + 1), fun σ2 H2 p' => ⟨n - (i + 1), by omega, rfl, hlt, p'⟩, fun x H3 y => ?_⟩
    obtain ⟨rfl, rfl⟩ := W.yld i H'' x H3 hlt (hsm _ _ _ p) y
    exact hst i σ' _ hlt p
  · have e : i = n := by omega
    subst e
    exact .inl ⟨W.stop _ _ (Nat.le_refl _) (hsm _ _ _ p), hd _ _ p⟩
/-- .. each item a new tuple -/
theorem ws_forT (hp : PassesOwn (model X.prog X.w) X.A X.env X.xe) (hc : Nm X N L S G B)
    (h : WI X tg iter σ H fun J H1 => ∃ n it, WlkT J n it H1 ∧ ∃ Pv : Nat → L2.St → Hp → Prop, Pv 0 σ H1 ∧ (∀ i σ' H', Pv i σ' H' → Same H1 H') ∧
      (∀ i σ' H', i < n → Pv i σ' H' → ∀ T H'', H' T = none → Same H' H'' → H'' T = some (.tup (it i)) → WG X tg (.ref T) σ' H'' fun σ2 H2 => WL X body { D with nx := Pv (i + 1), ct := Pv (i + 1), bk := D.nx } σ2 H2) ∧ ∀ σ' H', Pv n σ' H' → D.nx σ' H')
    (hs : ∀ x, foldedSetIterable iter X.env x = pure x := by intro _; with_unfolding_all rfl) : WS X (.For tg iter body [] pos) D σ H := by
  refine (ps_for hp hc.calm pi_w pg_w pss_w hs).w ?_
  refine ⟨fun pins s I => thn (h.run pins s I) fun v s1 h1 => thn h1 fun itv s2 ⟨it, fp, tn, J, H', e, I', T, t0, hf, n, itm, W, Pv, p0, hsm, hst, hd⟩ => ⟨it, fp, tn, J, H', e, I', T, t0, hf, ?_⟩⟩
  refine ⟨fun i m σ' H'' => m = n - i ∧ i ≤ n ∧ Pv i σ' H'', ⟨n, by simp, Nat.zero_le _, p0⟩, ?_⟩
  rintro i m σ' H'' ⟨rfl, hi, p⟩
  by_cases hlt : i < n
  · refine .inr ⟨W.go i H'' hlt (hsm _ _ _ p), Pv (i + 1), fun σ2 H2 p' => ⟨n - (i + 1), by omega, rfl, hlt, p'⟩, fun x H3 y => ?_⟩
    obtain ⟨T, rfl, hT, rfl⟩ := W.yld i H'' x H3 hlt (hsm _ _ _ p) y
    exact hst i σ' _ hlt p T _ hT (same_new hT) upd_same
  · have e : i = n := by omega
    subst e
    exact .inl ⟨W.stop _ _ (Nat.le_refl _) (hsm _ _ _ p), hd _ _ p⟩
theorem ws_while (hp : PassesOwn (model X.prog X.w) X.A X.env X.xe) (Pv : Nat → L2.St → Hp → Prop) (m : Nat) (h0 : Pv m σ H)
    (hs : ∀ m σ' H', Pv m σ' H' → WT X c σ' H' fun k H1 => if k = true then WL X body { D with nx := fun σ2 H2 => ∃ m', m' < m ∧ Pv m' σ2 H2, ct := fun σ2 H2 => ∃ m', m' < m ∧ Pv m' σ2 H2, bk := D.nx } σ' H1 else D.nx σ' H1) : WS X (.While c body [] pos) D σ H :=
  (ps_while hp pt_w pss_w).w ⟨Pv, ⟨m, h0⟩, fun m σ' H' p => WT.imp (hs m σ' H' p) fun k H1 q => by
    cases k with
    | true => exact ⟨_, fun _ _ z => z, q⟩
    | false => exact q⟩
end
end Sv

namespace Sv
open PySem PySem.Spec PyProof.Rows L2

/-! ### comprehensions -/
/-- X' is the context of a block (of that scope) of X -/
def Blk (X : Cx) (scope : Scope) (X' : Cx) : Prop := ∃ (s : Shared) (H : Hp) (C : Addr) (cl : List (Str × Addr)) (fp : List Addr), X' = X.blk s H scope (compEnvC scope cl C X.env) fp
structure WTs (X : Cx) (ifs : List Expr) (σ : L2.St) (H : Hp) (Q : Bool → Hp → Prop) : Prop where
  run : ∀ (pins : List (Addr × Obj)) (s : Shared), Inv X pins σ H s →
    wpAny (model X.prog X.w) X.A (forIn ifs true fun c r => if r = true then do let ok ← isTrue c X.env (eval c X.env); pure (ForInStep.yield ok) else pure (ForInStep.yield r)) (TP X pins σ Q) X.xe s
theorem pts_w {X : Cx} {ifs : List Expr} : PTs X ifs (WTs X ifs) := ⟨fun pins s _ _ _ I h => h.run pins s I⟩
theorem wts_nil {X : Cx} {σ : L2.St} {H : Hp} {Q : Bool → Hp → Prop} (q : Q true H) : WTs X [] σ H Q := ⟨fun pins s I => pts_nil.run pins s σ H Q I q⟩
theorem wts_one {X : Cx} {c : Expr} {σ : L2.St} {H : Hp} {Q : Bool → Hp → Prop} (h : WT X c σ H Q) : WTs X [c] σ H Q := ⟨fun pins s I => (pts_one pt_w).run pins s σ H Q I h⟩
def WEb (X : Cx) (scope : Scope) (e : Expr) (σ : L2.St) (H : Hp) (Q : VK) : Prop := ∀ X', Blk X scope X' → WE X' e σ H Q
def WTb (X : Cx) (scope : Scope) (ifs : List Expr) (σ : L2.St) (H : Hp) (Q : Bool → Hp → Prop) : Prop := ∀ X', Blk X scope X' → WTs X' ifs σ H Q
def WGb (X : Cx) (scope : Scope) (tg : Expr) (v : V) (σ : L2.St) (H : Hp) (Q : L2.St → Hp → Prop) : Prop := ∀ X', Blk X scope X' → WG X' tg v σ H Q

/-- a list comprehension over W's items, by an invariant of the list so far; new objects may be made, nothing that stood changes -/
theorem lc_of {X : Cx} {N L S G B : List Str} {tg elt iter : Expr} {ifs : List Expr} {scope : Scope} {own : List (Str × Nat)} {σ : L2.St} {H : Hp} {Q : VK} (c : Nm X N L S G B) (P : Nat → List V → Prop)
    (h : WI X tg iter σ H fun J H1 => ∃ n it, Wlk J n it H1 ∧ n < sizeLine ∧ P 0 [] ∧
      (∀ i acc H', i < n → acc.length ≤ i → P i acc → Same H1 H' → WGb X scope tg (it i) (wipe σ (own.map (·.2))) H' fun σ2 H2 => H2 = H' ∧ wipe σ2 (own.map (·.2)) = wipe σ (own.map (·.2)) ∧ WTb X scope ifs σ2 H2 fun k H3 => Same H2 H3 ∧
        if k = true then WEb X scope elt σ2 H3 fun y H4 => Same H3 H4 ∧ P (i + 1) (acc ++ [y]) else P (i + 1) acc) ∧
      ∀ acc D H', acc.length ≤ n → P n acc → H1 D = none → Same H1 H' → H' D = some (.lst acc) → Q (.ref D) H') :
    tLc (WI X tg iter) (WGb X scope tg) (WTb X scope ifs) (WEb X scope elt) (own.map (·.2)) σ H Q := by
  refine ⟨fun pins s I => thn (h.run pins s I) fun v s1 h1 => thn h1 fun itv s2 ⟨it, fp, tn, J, H1, e, I', T, t0, hf, n, itm, W, hz, p0, hst, hd⟩ => ⟨it, fp, tn, J, H1, e, I', T, t0, hf, fun D hD => ?_⟩⟩
  refine ⟨fun i m H' => m = n - i ∧ i ≤ n ∧ ∃ acc, acc.length ≤ i ∧ P i acc ∧ Same H1 H' ∧ H' D = some (.lst acc), ⟨n, by simp, Nat.zero_le _, [], Nat.le_refl _, p0, same_new hD, upd_same⟩, ?_⟩
  rintro i m H' ⟨rfl, hi, acc, hl, hp, hsm, hDa⟩
  by_cases hlt : i < n
  · refine .inr ⟨W.go i H' hlt hsm, fun H2 => i + 1 ≤ n ∧ ∃ acc, acc.length ≤ i + 1 ∧ P (i + 1) acc ∧ Same H1 H2 ∧ H2 D = some (.lst acc), fun H2 q => ⟨n - (i + 1), by omega, rfl, q⟩, fun x H3 y => ?_⟩
    obtain ⟨rfl, rfl⟩ := W.yld i H' x H3 hlt hsm y
    intro X' bX
    refine ⟨fun pins' s' u I' r => thn ((hst i acc H3 hlt hl hp hsm X' bX).run pins' s' u I' r) fun _ s2 ⟨σ2, H2, I2, e2, ew, q2⟩ => ⟨σ2, H2, I2, ew, fun X2 b2 => ?_⟩⟩
    subst e2
    refine ⟨fun pins3 s3 I3 => thn ((q2 X2 b2).run pins3 s3 I3) fun k s4 ⟨H4, I4, e4, q4⟩ => ⟨H4, I4, ?_⟩⟩
    cases k with
    | false =>
      rw [if_neg (by decide)] at q4 ⊢
      exact ⟨hlt, acc, Nat.le_succ_of_le hl, q4, hsm.trans e4, e4 _ _ hDa⟩
    | true =>
      rw [if_pos rfl] at q4 ⊢
      intro X5 b5
      refine WE.imp (q4 X5 b5) fun y H5 ⟨e5, q5⟩ => ⟨acc, e5 _ _ (e4 _ _ hDa), by omega, hlt, acc ++ [y], by rw [List.length_append]; show acc.length + 1 ≤ i + 1; omega, q5, same_mut (hsm.trans (e4.trans e5)) hD, upd_same⟩
  · have e : i = n := by omega
    subst e
    exact .inl ⟨W.stop _ _ (Nat.le_refl _) hsm, hd acc D H' hl hp hD hsm hDa⟩
theorem w_lc {X : Cx} {N L S G B : List Str} {tg elt iter : Expr} {ifs : List Expr} {scope : Scope} {own : List (Str × Nat)} {σ : L2.St} {H : Hp} {Q : VK} {pos : Pos} (c : Nm X N L S G B) (ok : blkC N X.env.scope scope own = true) (P : Nat → List V → Prop)
    (h : WI X tg iter σ H fun J H1 => ∃ n it, Wlk J n it H1 ∧ n < sizeLine ∧ P 0 [] ∧
      (∀ i acc H', i < n → acc.length ≤ i → P i acc → Same H1 H' → WGb X scope tg (it i) (wipe σ (own.map (·.2))) H' fun σ2 H2 => H2 = H' ∧ wipe σ2 (own.map (·.2)) = wipe σ (own.map (·.2)) ∧ WTb X scope ifs σ2 H2 fun k H3 => Same H2 H3 ∧
        if k = true then WEb X scope elt σ2 H3 fun y H4 => Same H3 H4 ∧ P (i + 1) (acc ++ [y]) else P (i + 1) acc) ∧
      ∀ acc D H', acc.length ≤ n → P n acc → H1 D = none → Same H1 H' → H' D = some (.lst acc) → Q (.ref D) H')
    (hs : ∀ x, foldedSetIterable iter X.env x = pure x := by intro _; with_unfolding_all rfl) : WE X (.ListComp elt [⟨tg, iter, ifs, 0⟩] scope pos) σ H Q := by
  have hN : X.N.Nodup := by rw [c.names]; exact c.nd
  have ok' : BlkOk X.N X.env.scope scope own := by rw [c.names]; exact blkOk_by ok
  have p := pe_lc (X := X) (pos := pos) (g := WGb X scope tg) (tt := WTb X scope ifs) (te := WEb X scope elt) c.calm hN (pi_w (X := X) (tg := tg) (iter := iter)) ok'
    (fun s H C cl fp => ⟨fun pins s1 σ1 H1 v u R I r q => (q _ ⟨s, H, C, cl, fp, rfl⟩).run pins s1 u I r⟩)
    (fun s H C cl fp => ⟨fun pins s1 σ1 H1 R I q => (q _ ⟨s, H, C, cl, fp, rfl⟩).run pins s1 I⟩)
    (fun s H C cl fp => ⟨fun pins s1 σ1 H1 R I q => (q _ ⟨s, H, C, cl, fp, rfl⟩).run pins s1 I⟩) hs
  exact p.w (lc_of c P h)
theorem ws_setLc {y : Str} {py spos : Pos} {D0 : Ends} {X : Cx} {N L S G B : List Str} {tg elt iter : Expr} {ifs : List Expr} {scope : Scope} {own : List (Str × Nat)} {σ : L2.St} {H : Hp} {pos : Pos} (c : Nm X N L S G B) (ok : blkC N X.env.scope scope own = true) (P : Nat → List V → Prop)
    (h : WI X tg iter σ H fun J H1 => ∃ n it, Wlk J n it H1 ∧ n < sizeLine ∧ P 0 [] ∧
      (∀ i acc H', i < n → acc.length ≤ i → P i acc → Same H1 H' → WGb X scope tg (it i) (wipe σ (own.map (·.2))) H' fun σ2 H2 => H2 = H' ∧ wipe σ2 (own.map (·.2)) = wipe σ (own.map (·.2)) ∧ WTb X scope ifs σ2 H2 fun k H3 => Same H2 H3 ∧
        if k = true then WEb X scope elt σ2 H3 fun y H4 => Same H3 H4 ∧ P (i + 1) (acc ++ [y]) else P (i + 1) acc) ∧
      ∀ acc D H', acc.length ≤ n → P n acc → H1 D = none → Same H1 H' → H' D = some (.lst acc) → ∃ σ', Put N σ y (.ref D) σ' ∧ D0.nx σ' H')
    (hyl : X.env.scope.names.lookup y = some .local) (hsw : swapsWith (.ListComp elt [⟨tg, iter, ifs, 0⟩] scope pos) (some (.Name y py)) spos.line X.env = pure true)
    (hs : ∀ x, foldedSetIterable iter X.env x = pure x := by intro _; with_unfolding_all rfl) (iy : ∃ i : Nat, N[i]? = some y) : WS X (.Assign [.Name y py] (.ListComp elt [⟨tg, iter, ifs, 0⟩] scope pos) spos) D0 σ H := by
  have hN : X.N.Nodup := by rw [c.names]; exact c.nd
  have ok' : BlkOk X.N X.env.scope scope own := by rw [c.names]; exact blkOk_by ok
  obtain ⟨i, hi⟩ := iy
  have hi' : X.N[i]? = some y := by rw [c.names]; exact hi
  have p := ps_setLc (X := X) (pos := pos) (spos := spos) (py := py) (g := WGb X scope tg) (tt := WTb X scope ifs) (te := WEb X scope elt) c.calm hN hi' hyl hsw (pi_w (X := X) (tg := tg) (iter := iter)) ok'
    (fun s H C cl fp => ⟨fun pins s1 σ1 H1 v u R I r q => (q _ ⟨s, H, C, cl, fp, rfl⟩).run pins s1 u I r⟩)
    (fun s H C cl fp => ⟨fun pins s1 σ1 H1 R I q => (q _ ⟨s, H, C, cl, fp, rfl⟩).run pins s1 I⟩)
    (fun s H C cl fp => ⟨fun pins s1 σ1 H1 R I q => (q _ ⟨s, H, C, cl, fp, rfl⟩).run pins s1 I⟩) hs
  refine p.w ?_
  refine lc_of (Q := fun v H1 => D0.nx (σ.set i (some v)) H1) c P ⟨fun pins s I => thn (h.run pins s I) fun v s1 h1 => thn h1 fun itv s2 ⟨it, fp, tn, J, H1, e, I', T, t0, hf, n, itm, W, hz, p0, hst, hd⟩ => ⟨it, fp, tn, J, H1, e, I', T, t0, hf, n, itm, W, hz, p0, hst, fun acc D H' h1 h2 h3 h4 h5 => ?_⟩⟩
  obtain ⟨σ', hp, q⟩ := hd acc D H' h1 h2 h3 h4 h5
  obtain ⟨i', hi2, rfl⟩ := hp.ix
  have ei : i' = i := nodup_ix hN (by rw [c.names]; exact hi2) hi'
  rw [← ei]
  exact q
/-- .. where each item is a new tuple -/
theorem lc_ofT {X : Cx} {N L S G B : List Str} {tg elt iter : Expr} {ifs : List Expr} {scope : Scope} {own : List (Str × Nat)} {σ : L2.St} {H : Hp} {Q : VK} (c : Nm X N L S G B) (P : Nat → List V → Prop)
    (h : WI X tg iter σ H fun J H1 => ∃ n it, WlkT J n it H1 ∧ n < sizeLine ∧ P 0 [] ∧
      (∀ i acc H0 H' T, i < n → acc.length ≤ i → P i acc → Same H1 H0 → Same H0 H' → H' T = some (.tup (it i)) → WGb X scope tg (.ref T) (wipe σ (own.map (·.2))) H' fun σ2 H2 => H2 = H' ∧ wipe σ2 (own.map (·.2)) = wipe σ (own.map (·.2)) ∧ WTb X scope ifs σ2 H2 fun k H3 => Same H2 H3 ∧
        if k = true then WEb X scope elt σ2 H3 fun y H4 => Same H3 H4 ∧ P (i + 1) (acc ++ [y]) else P (i + 1) acc) ∧
      ∀ acc D H', acc.length ≤ n → P n acc → H1 D = none → Same H1 H' → H' D = some (.lst acc) → Q (.ref D) H') :
    tLc (WI X tg iter) (WGb X scope tg) (WTb X scope ifs) (WEb X scope elt) (own.map (·.2)) σ H Q := by
  refine ⟨fun pins s I => thn (h.run pins s I) fun v s1 h1 => thn h1 fun itv s2 ⟨it, fp, tn, J, H1, e, I', T, t0, hf, n, itm, W, hz, p0, hst, hd⟩ => ⟨it, fp, tn, J, H1, e, I', T, t0, hf, fun D hD => ?_⟩⟩
  refine ⟨fun i m H' => m = n - i ∧ i ≤ n ∧ ∃ acc, acc.length ≤ i ∧ P i acc ∧ Same H1 H' ∧ H' D = some (.lst acc), ⟨n, by simp, Nat.zero_le _, [], Nat.le_refl _, p0, same_new hD, upd_same⟩, ?_⟩
  rintro i m H' ⟨rfl, hi, acc, hl, hp, hsm, hDa⟩
  by_cases hlt : i < n
  · refine .inr ⟨W.go i H' hlt hsm, fun H2 => i + 1 ≤ n ∧ ∃ acc, acc.length ≤ i + 1 ∧ P (i + 1) acc ∧ Same H1 H2 ∧ H2 D = some (.lst acc), fun H2 q => ⟨n - (i + 1), by omega, rfl, q⟩, fun x H3 y => ?_⟩
    obtain ⟨T, rfl, hT, rfl⟩ := W.yld i H' x H3 hlt hsm y
    have eT := same_new (o := .tup (itm i)) hT
    intro X' bX
    refine ⟨fun pins' s' u I' r => thn ((hst i acc H' _ T hlt hl hp hsm eT upd_same X' bX).run pins' s' u I' r) fun _ s2 ⟨σ2, H2, I2, e2, ew, q2⟩ => ⟨σ2, H2, I2, ew, fun X2 b2 => ?_⟩⟩
    subst e2
    refine ⟨fun pins3 s3 I3 => thn ((q2 X2 b2).run pins3 s3 I3) fun k s4 ⟨H4, I4, e4, q4⟩ => ⟨H4, I4, ?_⟩⟩
    cases k with
    | false =>
      rw [if_neg (by decide)] at q4 ⊢
      exact ⟨hlt, acc, Nat.le_succ_of_le hl, q4, hsm.trans (eT.trans e4), e4 _ _ (eT _ _ hDa)⟩
    | true =>
      rw [if_pos rfl] at q4 ⊢
      intro X5 b5
      refine WE.imp (q4 X5 b5) fun y H5 ⟨e5, q5⟩ => ⟨acc, e5 _ _ (e4 _ _ (eT _ _ hDa)), by omega, hlt, acc ++ [y], by rw [List.length_append]; show acc.length + 1 ≤ i + 1; omega, q5, same_mut (hsm.trans (eT.trans (e4.trans e5))) hD, upd_same⟩
  · have e : i = n := by omega
    subst e
    exact .inl ⟨W.stop _ _ (Nat.le_refl _) hsm, hd acc D H' hl hp hD hsm hDa⟩
theorem w_lcT {X : Cx} {N L S G B : List Str} {tg elt iter : Expr} {ifs : List Expr} {scope : Scope} {own : List (Str × Nat)} {σ : L2.St} {H : Hp} {Q : VK} {pos : Pos} (c : Nm X N L S G B) (ok : blkC N X.env.scope scope own = true) (P : Nat → List V → Prop)
    (h : WI X tg iter σ H fun J H1 => ∃ n it, WlkT J n it H1 ∧ n < sizeLine ∧ P 0 [] ∧
      (∀ i acc H0 H' T, i < n → acc.length ≤ i → P i acc → Same H1 H0 → Same H0 H' → H' T = some (.tup (it i)) → WGb X scope tg (.ref T) (wipe σ (own.map (·.2))) H' fun σ2 H2 => H2 = H' ∧ wipe σ2 (own.map (·.2)) = wipe σ (own.map (·.2)) ∧ WTb X scope ifs σ2 H2 fun k H3 => Same H2 H3 ∧
        if k = true then WEb X scope elt σ2 H3 fun y H4 => Same H3 H4 ∧ P (i + 1) (acc ++ [y]) else P (i + 1) acc) ∧
      ∀ acc D H', acc.length ≤ n → P n acc → H1 D = none → Same H1 H' → H' D = some (.lst acc) → Q (.ref D) H')
    (hs : ∀ x, foldedSetIterable iter X.env x = pure x := by intro _; with_unfolding_all rfl) : WE X (.ListComp elt [⟨tg, iter, ifs, 0⟩] scope pos) σ H Q := by
  have hN : X.N.Nodup := by rw [c.names]; exact c.nd
  have ok' : BlkOk X.N X.env.scope scope own := by rw [c.names]; exact blkOk_by ok
  have p := pe_lc (X := X) (pos := pos) (g := WGb X scope tg) (tt := WTb X scope ifs) (te := WEb X scope elt) c.calm hN (pi_w (X := X) (tg := tg) (iter := iter)) ok'
    (fun s H C cl fp => ⟨fun pins s1 σ1 H1 v u R I r q => (q _ ⟨s, H, C, cl, fp, rfl⟩).run pins s1 u I r⟩)
    (fun s H C cl fp => ⟨fun pins s1 σ1 H1 R I q => (q _ ⟨s, H, C, cl, fp, rfl⟩).run pins s1 I⟩)
    (fun s H C cl fp => ⟨fun pins s1 σ1 H1 R I q => (q _ ⟨s, H, C, cl, fp, rfl⟩).run pins s1 I⟩) hs
  exact p.w (lc_ofT c P h)
theorem ws_setLcT {y : Str} {py spos : Pos} {D0 : Ends} {X : Cx} {N L S G B : List Str} {tg elt iter : Expr} {ifs : List Expr} {scope : Scope} {own : List (Str × Nat)} {σ : L2.St} {H : Hp} {pos : Pos} (c : Nm X N L S G B) (ok : blkC N X.env.scope scope own = true) (P : Nat → List V → Prop)
    (h : WI X tg iter σ H fun J H1 => ∃ n it, WlkT J n it H1 ∧ n < sizeLine ∧ P 0 [] ∧
      (∀ i acc H0 H' T, i < n → acc.length ≤ i → P i acc → Same H1 H0 → Same H0 H' → H' T = some (.tup (it i)) → WGb X scope tg (.ref T) (wipe σ (own.map (·.2))) H' fun σ2 H2 => H2 = H' ∧ wipe σ2 (own.map (·.2)) = wipe σ (own.map (·.2)) ∧ WTb X scope ifs σ2 H2 fun k H3 => Same H2 H3 ∧
        if k = true then WEb X scope elt σ2 H3 fun y H4 => Same H3 H4 ∧ P (i + 1) (acc ++ [y]) else P (i + 1) acc) ∧
      ∀ acc D H', acc.length ≤ n → P n acc → H1 D = none → Same H1 H' → H' D = some (.lst acc) → ∃ σ', Put N σ y (.ref D) σ' ∧ D0.nx σ' H')
    (hyl : X.env.scope.names.lookup y = some .local) (hsw : swapsWith (.ListComp elt [⟨tg, iter, ifs, 0⟩] scope pos) (some (.Name y py)) spos.line X.env = pure true)
    (hs : ∀ x, foldedSetIterable iter X.env x = pure x := by intro _; with_unfolding_all rfl) (iy : ∃ i : Nat, N[i]? = some y) : WS X (.Assign [.Name y py] (.ListComp elt [⟨tg, iter, ifs, 0⟩] scope pos) spos) D0 σ H := by
  have hN : X.N.Nodup := by rw [c.names]; exact c.nd
  have ok' : BlkOk X.N X.env.scope scope own := by rw [c.names]; exact blkOk_by ok
  obtain ⟨i, hi⟩ := iy
  have hi' : X.N[i]? = some y := by rw [c.names]; exact hi
  have p := ps_setLc (X := X) (pos := pos) (spos := spos) (py := py) (g := WGb X scope tg) (tt := WTb X scope ifs) (te := WEb X scope elt) c.calm hN hi' hyl hsw (pi_w (X := X) (tg := tg) (iter := iter)) ok'
    (fun s H C cl fp => ⟨fun pins s1 σ1 H1 v u R I r q => (q _ ⟨s, H, C, cl, fp, rfl⟩).run pins s1 u I r⟩)
    (fun s H C cl fp => ⟨fun pins s1 σ1 H1 R I q => (q _ ⟨s, H, C, cl, fp, rfl⟩).run pins s1 I⟩)
    (fun s H C cl fp => ⟨fun pins s1 σ1 H1 R I q => (q _ ⟨s, H, C, cl, fp, rfl⟩).run pins s1 I⟩) hs
  refine p.w ?_
  refine lc_ofT (Q := fun v H1 => D0.nx (σ.set i (some v)) H1) c P ⟨fun pins s I => thn (h.run pins s I) fun v s1 h1 => thn h1 fun itv s2 ⟨it, fp, tn, J, H1, e, I', T, t0, hf, n, itm, W, hz, p0, hst, hd⟩ => ⟨it, fp, tn, J, H1, e, I', T, t0, hf, n, itm, W, hz, p0, hst, fun acc D H' h1 h2 h3 h4 h5 => ?_⟩⟩
  obtain ⟨σ', hp, q⟩ := hd acc D H' h1 h2 h3 h4 h5
  obtain ⟨i', hi2, rfl⟩ := hp.ix
  have ei : i' = i := nodup_ix hN (by rw [c.names]; exact hi2) hi'
  rw [← ei]
  exact q

/-! ### calls -/
structure WC (X : Cx) (f : Value) (xs : List V) (σ : L2.St) (H : Hp) (Q : VK) : Prop where
  run : ∀ (pins : List (Addr × Obj)) (s : Shared) (us : List Value), Inv X pins σ H s → Vals xs us → wpAny (model X.prog X.w) X.A (call f us) (EP X pins σ Q) X.xe s
theorem cr_w {X : Cx} {f : Value} : CallR X f fun xs H Q => ∀ σ, WC X f xs σ H Q := fun pins s σ H xs us Q I r q => (q σ).run pins s us I r
theorem _root_.L2.CallR.w {X : Cx} {f : Value} {r : List V → Hp → VK → Prop} {xs : List V} {σ : L2.St} {H : Hp} {Q : VK} (h : CallR X f r) (q : r xs H Q) : WC X f xs σ H Q := ⟨fun pins s us I rv => h pins s σ H xs us Q I rv q⟩
section
variable {X : Cx} {N L S G B : List Str} {e o : Expr} {es : List Expr} {σ : L2.St} {H : Hp} {Q : VK} {x m : Str} {p pos apos : Pos} {id T : String}
/-- f(e, ..), f a built-in function; T(e, ..) a built-in type -/
theorem w_callB (c : Nm X N L S G B) (m : Mb x B) (hv : bootBuiltins x = some (.builtin id)) (h : WA X (e :: es) σ H fun vs H1 => WC X (.builtin id) vs σ H1 Q)
    (he : starEach (e :: es) X.env = (false, eval e X.env) :: starEach es X.env := by with_unfolding_all rfl) (hpl : (backTo pos (starEach es X.env)).any (·.1) = false := by with_unfolding_all rfl) : WE X (.Call (.Name x p) (e :: es) [] pos) σ H Q := by
  obtain ⟨a, b, d⟩ := c.bgl x m.mem
  refine ⟨fun pins s I => wpAny_Call_Name_kw (ld_blt I a (c.blt x m.mem) hv ?_ d b)⟩
  exact PyProof.Rows.callWith_builtin1 (thn (h.run pos pins s I) fun us s1 ⟨vs, H1, I1, r1, q1⟩ => q1.run pins s1 us I1 r1) he hpl
theorem w_callTy (c : Nm X N L S G B) (m : Mb x B) (hv : bootBuiltins x = some (.type T)) (h : WA X (e :: es) σ H fun vs H1 => WC X (.type T) vs σ H1 Q)
    (he : starEach (e :: es) X.env = (false, eval e X.env) :: starEach es X.env := by with_unfolding_all rfl) (hpl : (backTo pos (starEach es X.env)).any (·.1) = false := by with_unfolding_all rfl) : WE X (.Call (.Name x p) (e :: es) [] pos) σ H Q := by
  obtain ⟨a, b, d⟩ := c.bgl x m.mem
  refine ⟨fun pins s I => wpAny_Call_Name_kw (ld_blt I a (c.blt x m.mem) hv ?_ d b)⟩
  exact PyProof.Rows.callWith_type1 (thn (h.run pos pins s I) fun us s1 ⟨vs, H1, I1, r1, q1⟩ => q1.run pins s1 us I1 r1) he hpl
theorem c_len {x : V} {n : Nat} (h : LenV X.K x H n) (q : Q (.int n) H) : WC X (.builtin "len") [x] σ H Q := call_len.w ⟨x, n, rfl, h, q⟩
theorem c_abs {i : Int} (q : Q (.int (if i < 0 then -i else i)) H) : WC X (.builtin "abs") [.int i] σ H Q := call_abs.w ⟨i, rfl, q⟩
theorem c_max {i j : Int} (hc : X.calm = true) (q : Q (.int (if j > i then j else i)) H) : WC X (.builtin "max") [.int i, .int j] σ H Q := (call_max2 hc).w ⟨i, j, rfl, q⟩
theorem c_min {i j : Int} (hc : X.calm = true) (q : Q (.int (if j < i then j else i)) H) : WC X (.builtin "min") [.int i, .int j] σ H Q := (call_min2 hc).w ⟨i, j, rfl, q⟩
theorem c_intB {k : Bool} (q : Q (.int (if k then 1 else 0)) H) : WC X (.type "int") [.bl k] σ H Q := call_int1.w (.inr ⟨k, rfl, q⟩)
theorem c_divmod {i j : Int} (h : 0 < j ∧ j < 1073741824) (q : ∀ p H', H p = none → Same H H' → H' p = some (.tup [.int (i / j), .int (i % j)]) → Q (.ref p) H') : WC X (.builtin "divmod") [.int i, .int j] σ H Q :=
  call_divmod.w ⟨i, j, rfl, h, newly' (Q := fun p H' => Q (.ref p) H') q⟩
theorem c_all {a : Addr} {bs : List Bool} (hc : X.calm = true) (h : SqL X.K H a (bs.map V.bl)) (q : Q (.bl (bs.all fun k => k)) H) : WC X (.builtin "all") [.ref a] σ H Q := (cr_all hc).w ⟨a, bs, rfl, h, q⟩
theorem c_sum {a : Addr} {ns : List Int} (hc : X.calm = true) (h : SqL X.K H a (ns.map V.int)) (q : Q (.int ns.sum) H) : WC X (.builtin "sum") [.ref a] σ H Q := (cr_sum hc).w ⟨a, ns, rfl, h, q⟩
theorem c_list {a : Addr} {xs : List V} (h : SqL X.K H a xs ∨ SqT X.K H a xs) (q : ∀ p H', H p = none → Same H H' → H' p = some (.lst xs) → Q (.ref p) H') : WC X (.type "list") [.ref a] σ H Q :=
  call_list_of.w ⟨a, xs, rfl, h, newly' (Q := fun p H' => Q (.ref p) H') q⟩
theorem c_isi {x c : V} {t u : Value} {b : Bool} (hc : ClsV c u) (ht : TyX X.K H x t) (hk : PySem.W.kitOne X.K t u = some b) (q : Q (.bl b) H) : WC X (.builtin "isinstance") [x, c] σ H Q := call_isi.w ⟨x, c, t, u, b, rfl, hc, ht, hk, q⟩
/-- a set of ints -/
def SetI (P : Program) (w : World) (a : Addr) (S : Int → Bool) (n : Nat) : HO := .ext fun h => h.SetOf (intKind P w) a S n
theorem setI_at {P : Program} {w : World} {h h' : Heap} {a : Addr} {S : Int → Bool} {n : Nat} (R : h.SetOf (intKind P w) a S n) (k : ∀ o, h.get? a = some o → h'.get? a = some o) : h'.SetOf (intKind P w) a S n := by
  obtain ⟨o, es, ep, t, e, c⟩ := R
  exact ⟨o, es, ep, t, k _ e, c⟩
theorem c_set {a : Addr} {ns : List Int} (hc : X.calm = true) (h : SqL X.K H a (ns.map V.int)) (hz : ns.length + 1 < scanBound) (q : ∀ p H' n, H p = none → Same H H' → H' p = some (SetI X.prog X.w p (fun k => ns.any (· == k)) n) → Q (.ref p) H') : WC X (.type "set") [.ref a] σ H Q := by
  refine ⟨fun pins s us I rv => ?_⟩
  obtain ⟨its, rw', hl, hzl⟩ := I.list h
  rw [Vals.ref1 rv]
  have hi := rw'.ints
  have hlen : its.length = ns.length := by rw [← rw'.length, List.length_map]
  refine call_set_list (I.ok.hd hc) hl.isList (by simpa using hi) (by simpa [hlen] using hz) fun h' tk hS hk => ?_
  have hS' : h'.SetOf (intKind X.prog X.w) s.heap.objs.size (fun k => ns.any (· == k)) (firstMet (fun i => ns.getD i 0) its.toArray.size).length := by
    refine SetOf_congr hS (fun k => ?_) rfl
    rw [firstMet_any]
    have e : (List.range its.toArray.size).map (fun i => ns.getD i 0) = ns := by
      apply List.ext_getElem
      · simp [hlen]
      · intro i h1 h2
        simp [h2]
    rw [e]
  have hn : H s.heap.objs.size = none := I.fresh
  have new : ObjOk X.prog X.w (upd H s.heap.objs.size (SetI X.prog X.w s.heap.objs.size (fun k => ns.any (· == k)) (firstMet (fun i => ns.getD i 0) its.toArray.size).length)) h' s.heap.objs.size (SetI X.prog X.w s.heap.objs.size (fun k => ns.any (· == k)) (firstMet (fun i => ns.getD i 0) its.toArray.size).length) := by
    have hS2 := hS'
    obtain ⟨o, es, ep, t, e, c⟩ := hS2
    exact ⟨hS', ⟨o, e⟩, fun h1 h2 p k => setI_at p k⟩
  exact ⟨.ref s.heap.objs.size, _, I.laid (t' := tk) (fun b o e => hk b o (Heap.lt_size e) e) (Nat.le_refl _) new, rfl, q _ _ _ hn (same_new hn) upd_same⟩
theorem b_inSetI {k : Int} {a : Addr} {S : Int → Bool} {n : Nat} (h : H a = some (SetI X.prog X.w a S n)) (q : Q (.bl (S k)) H) : WB X (compareOp .In) (.int k) (.ref a) σ H Q :=
  ⟨fun pins s v u I rx ry => by
    obtain ⟨tk, rfl⟩ := rx
    cases ry
    exact wpAny_inSet_of (intKind_is _ _ _ _) rfl (I.hok a _ h).1 (show EP X pins σ Q _ _ from ⟨.bl (S k), H, I.tok _, rfl, q⟩)⟩
/-! ### the calls of the text's own -/
/-- the module's name x is a def with the positional promise sp -/
structure Fn (P : Program) (w : World) (K : PySem.W.Frag) (mg : Str → Option Value) (base : Heap) (x : Str) (k : Nat) (sp : Sp) : Prop where
  ex : ∃ f, mg x = some (.ref f) ∧ PySem.W.keepIn K (.ref f) = true ∧ FnR P w K mg base (L2.CX P w) k f sp
theorem w_call {k j : Nat} {sp : Sp} {E : XK} (c : Nm X N L S G B) (mm : Mb x G) (F : Fn X.prog X.w X.K X.mg X.base x k sp) (hr : Room j X.A) (hj : k ≤ j) (hx : Passes (L2.CX X.prog X.w) X E) (h : WA X (e :: es) σ H fun vs H1 => sp vs H1 Q E)
    (he : starEach (e :: es) X.env = (false, eval e X.env) :: starEach es X.env := by with_unfolding_all rfl) (hpl : (backTo pos (starEach es X.env)).any (·.1) = false := by with_unfolding_all rfl) : WE X (.Call (.Name x p) (e :: es) [] pos) σ H Q := by
  obtain ⟨f, hm, hk, F⟩ := F.ex
  obtain ⟨a, b, d⟩ := c.glo x mm.mem
  refine ⟨fun pins s I => wpAny_Call_Name_kw (ld_glob I a hm ?_ b)⟩
  refine PySem.W.callWith_K (h₀ := X.base) I.ok.mod.kin hk (thn (h.run pos pins s I) fun us s1 ⟨vs, H1, I1, r, q⟩ => ⟨I1.kIn, ?_⟩) he hpl
  exact wpAny_call (run_fnR F (hr.mono hj) hx I1 r q)
theorem w_call0 {k j : Nat} {sp : Sp} {E : XK} (c : Nm X N L S G B) (mm : Mb x G) (F : Fn X.prog X.w X.K X.mg X.base x k sp) (hr : Room j X.A) (hj : k ≤ j) (hx : Passes (L2.CX X.prog X.w) X E) (h : sp [] H Q E) : WE X (.Call (.Name x p) [] [] pos) σ H Q := by
  obtain ⟨f, hm, hk, F⟩ := F.ex
  obtain ⟨a, b, d⟩ := c.glo x mm.mem
  refine ⟨fun pins s I => wpAny_Call_Name_kw (ld_glob I a hm ?_ b)⟩
  exact PySem.W.callWith_K0 I.kIn hk (wpAny_call (run_fnR F (hr.mono hj) hx I .nil h))
/-- C(e, ..) -/
structure Mkr (P : Program) (w : World) (K : PySem.W.Frag) (mg : Str → Option Value) (base : Heap) (C : Addr) (k : Nat) (sp : Sp) : Prop where
  ex : ∃ f, Mk K C f ∧ FnR P w K mg base (L2.CX P w) k f sp
/-- what a new instance owes -/
def Made (C : Addr) (sp : Sp) (vs : List V) (H1 : Hp) (Q : VK) (E : XK) : Prop :=
  ∀ x dx H2, H1 x = none → H1 dx = none → dx ≠ x → Same H1 H2 → H2 dx = some (.own x) → H2 x = some (.ins C dx []) → sp (.ref x :: vs) H2 (fun v H3 => v = .non ∧ Q (.ref x) H3) E
theorem run_mkr {k j : Nat} {C : Addr} {sp : Sp} {E : XK} {pins : List (Addr × Obj)} {s : Shared} {us : List Value} {vs : List V} (F : Mkr X.prog X.w X.K X.mg X.base C k sp) (hr : Room j X.A) (hj : k + 1 ≤ j) (hx : Passes (L2.CX X.prog X.w) X E) (I : Inv X pins σ H s) (r : Vals vs us) (q : Made C sp vs H Q E) :
    wpAny (model X.prog X.w) X.A (call (.ref C) us) (EP X pins σ Q) X.xe s := by
  obtain ⟨f, M, F⟩ := F.ex
  exact StX.run_makeR M F (hr.mono hj) hx I r fun x dx nx nd ne => q x dx _ nx nd ne ((same_new nd).trans (same_new (by rw [upd_ne (Ne.symm ne)]; exact nx))) (by rw [upd_ne ne]; exact upd_same) upd_same
theorem w_make {k j : Nat} {C : Addr} {sp : Sp} {E : XK} (c : Nm X N L S G B) (mm : Mb x G) (hm : X.mg x = some (.ref C)) (F : Mkr X.prog X.w X.K X.mg X.base C k sp) (hr : Room j X.A) (hj : k + 1 ≤ j) (hx : Passes (L2.CX X.prog X.w) X E)
    (h : WA X (e :: es) σ H fun vs H1 => Made C sp vs H1 Q E)
    (he : starEach (e :: es) X.env = (false, eval e X.env) :: starEach es X.env := by with_unfolding_all rfl) (hpl : (backTo pos (starEach es X.env)).any (·.1) = false := by with_unfolding_all rfl) : WE X (.Call (.Name x p) (e :: es) [] pos) σ H Q := by
  have kp := F.ex
  obtain ⟨f, M, _⟩ := kp
  obtain ⟨a, b, d⟩ := c.glo x mm.mem
  refine ⟨fun pins s I => wpAny_Call_Name_kw (ld_glob I a hm ?_ b)⟩
  refine PySem.W.callWith_K (h₀ := X.base) I.ok.mod.kin M.kp (thn (h.run pos pins s I) fun us s1 ⟨vs, H1, I1, r, q⟩ => ⟨I1.kIn, ?_⟩) he hpl
  exact run_mkr F hr hj hx I1 r q
/-- x(e, ..) where the local x holds the class at C -/
theorem w_makeL {k j : Nat} {C : Addr} {sp : Sp} {E : XK} (c : Nm X N L S G B) (ha : At N σ x (.ref C)) (mm : Mb x L) (F : Mkr X.prog X.w X.K X.mg X.base C k sp) (hr : Room j X.A) (hj : k + 1 ≤ j) (hx : Passes (L2.CX X.prog X.w) X E)
    (h : WA X (e :: es) σ H fun vs H1 => Made C sp vs H1 Q E)
    (he : starEach (e :: es) X.env = (false, eval e X.env) :: starEach es X.env := by with_unfolding_all rfl) (hpl : (backTo pos (starEach es X.env)).any (·.1) = false := by with_unfolding_all rfl) : WE X (.Call (.Name x p) (e :: es) [] pos) σ H Q := by
  have kp := F.ex
  obtain ⟨f, M, _⟩ := kp
  refine ⟨fun pins s I => wpAny_Call_Name_kw ?_⟩
  refine thn ((w_name (Q := fun v H' => v = .ref C ∧ H' = H) c ha mm ⟨rfl, rfl⟩).run pins s I) fun u s1 ⟨v, H', I', rv, ev, eH⟩ => ?_
  subst ev eH
  obtain rfl : u = Value.ref C := rv
  refine PySem.W.callWith_K (h₀ := X.base) I'.ok.mod.kin M.kp (thn (h.run pos pins s1 I') fun us s1 ⟨vs, H1, I1, r, q⟩ => ⟨I1.kIn, ?_⟩) he hpl
  exact run_mkr F hr hj hx I1 r q
/-! ### attributes -/
structure WAt (X : Cx) (x : V) (f : Str) (σ : L2.St) (H : Hp) (Q : VK) : Prop where
  run : ∀ (pins : List (Addr × Obj)) (s : Shared) (v : Value), Inv X pins σ H s → RelV x v → wpAny (model X.prog X.w) X.A (getAttr v f true) (EP X pins σ Q) X.xe s
theorem w_attr {f : Str} (h : WE X e σ H fun x H1 => WAt X x f σ H1 Q) (hb : attributeBase e f X.env (eval e X.env) = eval e X.env := by with_unfolding_all rfl) : WE X (.Attribute e f pos) σ H Q :=
  ⟨fun pins s I => attr_of hb (thn (h.run pins s I) fun u s1 ⟨x, H1, I1, rx, q⟩ => q.run pins s1 u I1 rx)⟩
theorem a_fld {a C dx : Addr} {fs : List (Str × V)} {f : Str} {v : V} (hc : Cls X.K C) (hn : NoAttr X.K C f) (h : H a = some (.ins C dx fs)) (hl : fs.lookup f = some v) (q : Q v H) : WAt X (.ref a) f σ H Q :=
  ⟨fun pins s u I rx => by
    obtain rfl : u = Value.ref a := rx
    exact getattr_ok I h hc hn hl fun u' s2 I2 ru => ⟨v, H, I2, ru, q⟩⟩
theorem a_cval {C : Addr} {mc u : Value} {f : Str} {v : V} (r : ClX.CRead X.K C mc) (k : ClX.CVal X.K C mc f v u) (q : Q v H) : WAt X (.ref C) f σ H Q :=
  ⟨fun pins s u I rx => by
    obtain rfl : u = Value.ref C := rx
    exact ClX.getcval_ok I r k fun s2 I2 => ⟨v, H, I2, k.rel, q⟩⟩
/-- a property, by its getter's positional promise -/
theorem a_prop {C p' g a dx : Addr} {fs : List (Str × V)} {f : Str} {k : Nat} {sp : Sp} {E : XK} (c : Cls X.K C) (hp : PropOf X.K C f p' g) (F : FnR X.prog X.w X.K X.mg X.base (L2.CX X.prog X.w) k g sp) (hr : Room (k + 1) X.A) (ea : H a = some (.ins C dx fs))
    (h : sp [.ref a] H Q E0) : WAt X (.ref a) f σ H Q := by
  refine ⟨fun pins s u I rx => ?_⟩
  obtain rfl : u = Value.ref a := rx
  obtain ⟨mA, O, _, _, _, _⟩ := ins_get I.hok ea
  obtain ⟨od, J, _⟩ := O.look
  obtain ⟨rest, hrec⟩ := hp.rec_
  have I1 := I.tok (s.toks + 1)
  have hc : (PySem.W.clsIn X.K C).isSome = true := by
    obtain ⟨cd, hc, _⟩ := PySem.W.any_some c.hd
    rw [hc]
    rfl
  refine PySem.W.get_bind I.kIn J (PySem.W.plainGet_of (c.get f)).1 (PySem.W.findObj_data hc hp.at_ hp.get hp.tak) (PySem.W.plainGet_of (c.get f)).2 (wpAny_call (PySem.W.prop_get (s := { s with toks := s.toks + 1 }) I.kIn hrec ?_))
  refine codeAny_mono (F X.A.in1 X.stack { s with toks := s.toks + 1 } H [.ref a] [.ref a] Q E0 hr.in1 I1.env0.in1 (.cons rfl .nil) h) fun r s' hq => ?_
  cases r with
  | error er => exact False.elim (passL (X := X.nox) pins σ H { s with toks := s.toks + 1 } er s' (I1.wish _) hq)
  | ok fl =>
    cases fl with
    | ret u =>
      obtain ⟨v, H', I3, rv, q3⟩ := I1.after hq
      show wpAny _ _ (handedOut u) _ _ _
      rw [PySem.W.handedOut_of (handed_of rv)]
      exact wpAny_pure ⟨v, H', I3, rv, q3⟩
    | next => exact False.elim hq
    | brk => exact False.elim hq
    | cont => exact False.elim hq
/-! ### methods -/
/-- o.m(e, ..) of an instance of the class at C, by a positional promise -/
structure Mth (P : Program) (w : World) (K : PySem.W.Frag) (mg : Str → Option Value) (base : Heap) (C : Addr) (m : Str) (k : Nat) (sp : Sp) : Prop where
  ex : ∃ f, Cls K C ∧ Meth K C m f ∧ FnR P w K mg base (L2.CX P w) k f sp
theorem w_meth {C : Addr} {k j : Nat} {sp : Sp} {E : XK} {pl : Sem Bool} (F : Mth X.prog X.w X.K X.mg X.base C m k sp) (hr : Room j X.A) (hj : k ≤ j) (hx : Passes (L2.CX X.prog X.w) X E)
    (h : WE X o σ H fun x H1 => ∃ a dx fs, x = .ref a ∧ H1 a = some (.ins C dx fs) ∧ fs.lookup m = none ∧ WA X (e :: es) σ H1 fun vs H2 => sp (.ref a :: vs) H2 Q E)
    (hst : starEach (e :: es) X.env = (false, eval e X.env) :: starEach es X.env := by with_unfolding_all rfl) (hpl : (backTo pos (starEach es X.env)).any (·.1) = false := by with_unfolding_all rfl)
    (ht : eval (.Call (.Attribute o m apos) (e :: es) [] pos) X.env = (do
      let ov ← eval o X.env
      standAt apos.atName
      let (f, first) ← holding [ov] (getMethod ov m pl)
      callWith pos f first (backTo pos (starEach (e :: es) X.env)) (backToKw pos (keywordEach [] X.env))) := by with_unfolding_all rfl) : WE X (.Call (.Attribute o m apos) (e :: es) [] pos) σ H Q := by
  obtain ⟨f, c, hm, F⟩ := F.ex
  refine (pe_methR pe_w c hm F (hr.mono hj) hx pa_w hst hpl ht).w ?_
  exact WE.imp h fun x H1 ⟨a, dx, fs, e1, e2, e3, q⟩ => ⟨a, dx, fs, e1, e2, e3, by rw [e1]; exact q⟩
theorem w_meth0 {C : Addr} {k j : Nat} {sp : Sp} {E : XK} {pl : Sem Bool} (F : Mth X.prog X.w X.K X.mg X.base C m k sp) (hr : Room j X.A) (hj : k ≤ j) (hx : Passes (L2.CX X.prog X.w) X E)
    (h : WE X o σ H fun x H1 => ∃ a dx fs, x = .ref a ∧ H1 a = some (.ins C dx fs) ∧ fs.lookup m = none ∧ sp [.ref a] H1 Q E)
    (ht : eval (.Call (.Attribute o m apos) [] [] pos) X.env = (do
      let ov ← eval o X.env
      standAt apos.atName
      let (f, first) ← holding [ov] (getMethod ov m pl)
      callWith pos f first (backTo pos (starEach [] X.env)) (backToKw pos (keywordEach [] X.env))) := by with_unfolding_all rfl) : WE X (.Call (.Attribute o m apos) [] [] pos) σ H Q := by
  obtain ⟨f, c, hm, F⟩ := F.ex
  refine ⟨fun pins s I => ?_⟩
  refine PySem.W.methodCall_KW (pl := pl) (thn (h.run pins s I) fun u s1 ⟨x, H1, I1, rx, a, dx, fs, ex, ea, l, q⟩ => ?_) ht
  subst ex
  obtain rfl : u = Value.ref a := rx
  refine getmeth_ok I1 ea c hm l ?_
  exact PySem.W.callWith_K0 (first := [.ref a]) I1.kIn hm.kp (wpAny_call (run_fnR (us := [.ref a]) (vs := [.ref a]) F (hr.mono hj) hx I1 (.cons rfl .nil) q))
/-- C.m(e, ..), a static method -/
structure SMt (P : Program) (w : World) (K : PySem.W.Frag) (mg : Str → Option Value) (base : Heap) (C : Addr) (m : Str) (k : Nat) (sp : Sp) : Prop where
  ex : ∃ (p g : Addr) (rest : List Value), ClX.CRead K C (.type "type") ∧ PySem.W.findCls K (.ref C) (.type "type") m = some (.get (.builtin "staticmethod.__get__") (.ref p) .none (.ref C)) ∧ PySem.W.recIn K p "staticmethod" = some (.ref g :: rest) ∧
    PySem.W.keepIn K (.ref g) = true ∧ FnR P w K mg base (L2.CX P w) k g sp
theorem w_smeth {C : Addr} {k j : Nat} {sp : Sp} {E : XK} {pl : Sem Bool} (F : SMt X.prog X.w X.K X.mg X.base C m k sp) (hr : Room j X.A) (hj : k ≤ j) (hx : Passes (L2.CX X.prog X.w) X E)
    (h : WE X o σ H fun x H1 => x = .ref C ∧ WA X (e :: es) σ H1 fun vs H2 => sp vs H2 Q E)
    (hst : starEach (e :: es) X.env = (false, eval e X.env) :: starEach es X.env := by with_unfolding_all rfl) (hpl : (backTo pos (starEach es X.env)).any (·.1) = false := by with_unfolding_all rfl)
    (ht : eval (.Call (.Attribute o m apos) (e :: es) [] pos) X.env = (do
      let ov ← eval o X.env
      standAt apos.atName
      let (f, first) ← holding [ov] (getMethod ov m pl)
      callWith pos f first (backTo pos (starEach (e :: es) X.env)) (backToKw pos (keywordEach [] X.env))) := by with_unfolding_all rfl) : WE X (.Call (.Attribute o m apos) (e :: es) [] pos) σ H Q := by
  obtain ⟨p', g, rest, r, fc, rc, kp, F⟩ := F.ex
  refine ⟨fun pins s I => ?_⟩
  refine PySem.W.methodCall_KW (pl := pl) (thn (h.run pins s I) fun u s1 ⟨x, H1, I1, rx, ex, q⟩ => ?_) ht
  subst ex
  obtain rfl : u = Value.ref C := rx
  refine PySem.W.method_cls I1.kIn r.ga (PySem.W.cls_bind I1.kIn r.rd fc ?_)
  refine wpAny_call (PySem.W.sm_get (s := { s1 with toks := s1.toks + 1 }) I1.kIn rc (PySem.W.handed_on rfl ?_))
  have I2 := I1.tok (s1.toks + 1)
  refine PySem.W.callWith_K (first := []) (h₀ := X.base) I.ok.mod.kin kp (thn (q.run pos pins _ I2) fun us s2 ⟨vs, H2, I3, rv, q2⟩ => ⟨I3.kIn, ?_⟩) hst hpl
  exact wpAny_call (run_fnR (us := us) (vs := vs) F (hr.mono hj) hx I3 rv q2)
/-- C.m(), C.m(e, ..), a classmethod: its promise is of the class ahead of the arguments -/
structure CMt (P : Program) (w : World) (K : PySem.W.Frag) (mg : Str → Option Value) (base : Heap) (C : Addr) (m : Str) (k : Nat) (sp : Sp) : Prop where
  ex : ∃ (p g : Addr), ClX.CRead K C (.type "type") ∧ ClX.CMet K C (.type "type") m p g ∧ FnR P w K mg base (L2.CX P w) k g sp
theorem w_cmeth {C : Addr} {k j : Nat} {sp : Sp} {E : XK} {pl : Sem Bool} (F : CMt X.prog X.w X.K X.mg X.base C m k sp) (hr : Room j X.A) (hj : k ≤ j) (hx : Passes (L2.CX X.prog X.w) X E)
    (h : WE X o σ H fun x H1 => x = .ref C ∧ WA X (e :: es) σ H1 fun vs H2 => sp (.ref C :: vs) H2 Q E)
    (hst : starEach (e :: es) X.env = (false, eval e X.env) :: starEach es X.env := by with_unfolding_all rfl) (hpl : (backTo pos (starEach es X.env)).any (·.1) = false := by with_unfolding_all rfl)
    (ht : eval (.Call (.Attribute o m apos) (e :: es) [] pos) X.env = (do
      let ov ← eval o X.env
      standAt apos.atName
      let (f, first) ← holding [ov] (getMethod ov m pl)
      callWith pos f first (backTo pos (starEach (e :: es) X.env)) (backToKw pos (keywordEach [] X.env))) := by with_unfolding_all rfl) : WE X (.Call (.Attribute o m apos) (e :: es) [] pos) σ H Q := by
  obtain ⟨p', g, r, c, F⟩ := F.ex
  exact (ClX.pe_cmeth pe_w r c F (hr.mono hj) hx pa_w hst hpl ht).w h
theorem w_cmeth0 {C : Addr} {k j : Nat} {sp : Sp} {E : XK} {pl : Sem Bool} (F : CMt X.prog X.w X.K X.mg X.base C m k sp) (hr : Room j X.A) (hj : k ≤ j) (hx : Passes (L2.CX X.prog X.w) X E)
    (h : WE X o σ H fun x H1 => x = .ref C ∧ sp [.ref C] H1 Q E)
    (ht : eval (.Call (.Attribute o m apos) [] [] pos) X.env = (do
      let ov ← eval o X.env
      standAt apos.atName
      let (f, first) ← holding [ov] (getMethod ov m pl)
      callWith pos f first (backTo pos (starEach [] X.env)) (backToKw pos (keywordEach [] X.env))) := by with_unfolding_all rfl) : WE X (.Call (.Attribute o m apos) [] [] pos) σ H Q := by
  obtain ⟨p', g, r, c, F⟩ := F.ex
  refine ⟨fun pins s I => ?_⟩
  refine PySem.W.methodCall_KW (pl := pl) (thn (h.run pins s I) fun u s1 ⟨x, H1, I1, rx, ex, q⟩ => ?_) ht
  subst ex
  obtain rfl : u = Value.ref C := rx
  refine ClX.getmethcm_ok I1 r c fun s2 I2 => ?_
  have hq := ClX.pin_at I2
  refine PySem.W.callWith_M0 (first := []) ⟨hq, I2.kIn⟩ c.fi ?_
  exact ClX.run_cm (us := []) (vs := []) F (hr.mono hj) hx I2 .nil q
end
end Sv

namespace Sv
open PySem PySem.Spec PyProof.Rows L2

/-! ### == and != by an own __eq__ -/
/-- the class at C has __eq__ at f and no __ne__ -/
structure EqC (K : PySem.W.Frag) (C f : Addr) : Prop where
  eq : PySem.W.findIn K (.ref C) "__eq__" = some (some (.ref f))
  fn : PySem.W.isFn K (.ref f) = true
  ne : ∃ (nm q : Str) (N : Addr) (bs : List Value) (hdct : Bool) (sn : List Str) (sub : List Value) (ab : Bool) (col : Option Bool) (dd : Option Addr) (k0 k1 k2 k3 k5 : Option Value) (newId : String) (oN : Obj) (es : Array DictEntry) (ep : Nat) (of : Obj),
    K.lookup C = some (excClassObj nm q C N bs [.type "object"] hdct sn sub ab col dd k0 k1 k2 k3 k5 newId) ∧ K.lookup N = some oN ∧ oN.data = .dict es ep ∧ StrKeys es ∧ nsFind es "__eq__" = some (.ref f) ∧ nsFind es "__ne__" = none ∧
    K.lookup f = some of ∧ of.cls = .type "function"
/-- the promise of that __eq__, of two instances -/
structure EqM (P : Program) (w : World) (K : PySem.W.Frag) (mg : Str → Option Value) (base : Heap) (C : Addr) (k : Nat) (sp : Sp) : Prop where
  ex : ∃ f, EqC K C f ∧ FnR P w K mg base (L2.CX P w) k f sp
theorem bl_of {v : V} {u : Value} (r : RelV v u) {b : Bool} (e : v = .bl b) : u = .bool b := by
  subst e
  exact r
section
variable {X : Cx} {σ : L2.St} {H : Hp} {Q : VK} {a b C dx dy : Addr} {fs gs : List (Str × V)} {k j : Nat} {sp : Sp}
theorem b_eqO (F : EqM X.prog X.w X.K X.mg X.base C k sp) (hr : Room j X.A) (hj : k + 1 ≤ j) (ha : H a = some (.ins C dx fs)) (hb : H b = some (.ins C dy gs)) (q : sp [.ref a, .ref b] H (fun v H' => ∃ r, v = .bl r ∧ Q (.bl r) H') E0) :
    WB X (compareOp .Eq) (.ref a) (.ref b) σ H Q := by
  obtain ⟨f, c, F⟩ := F.ex
  refine ⟨fun pins s v u I rx ry => ?_⟩
  cases rx
  cases ry
  obtain ⟨mA, O, _⟩ := ins_get I.hok ha
  obtain ⟨mB, O', _⟩ := ins_get I.hok hb
  obtain ⟨od, J, _⟩ := O.look
  obtain ⟨od', J', _⟩ := O'.look
  obtain ⟨m, hF⟩ := I.fr
  refine PySem.W.cmp_K (op := .Eq) (tb := .ref C) hr.units0 hF I.ok.mod.kin J J'.type (by simp [PySem.W.notFirst]) c.eq c.fn ?_
  refine wpAny_mono (wpAny_call (run_fnR (us := [.ref a, .ref b]) (vs := [.ref a, .ref b]) F (hr.mono (by omega)) passL I (.cons rfl (.cons rfl .nil)) q)) (fun w s' z => ?_) fun _ _ x => x
  obtain ⟨z', H', I', rz, r, ez, qz⟩ := z
  subst ez
  cases rz
  exact ⟨.bl r, H', I', rfl, qz⟩
theorem b_neO (F : EqM X.prog X.w X.K X.mg X.base C k sp) (hr : Room j X.A) (hj : k + 1 ≤ j) (ha : H a = some (.ins C dx fs)) (hb : H b = some (.ins C dy gs)) (q : sp [.ref a, .ref b] H (fun v H' => ∃ r, v = .bl r ∧ Q (.bl (!r)) H') E0) :
    WB X (compareOp .NotEq) (.ref a) (.ref b) σ H Q := by
  obtain ⟨f, c, F⟩ := F.ex
  refine ⟨fun pins s v u I rx ry => ?_⟩
  cases rx
  cases ry
  obtain ⟨mA, O, _⟩ := ins_get I.hok ha
  obtain ⟨mB, O', _⟩ := ins_get I.hok hb
  obtain ⟨nm, qn, N, bs, hdct, sn, sub, ab, col, dd, k0, k1, k2, k3, k5, newId, oN, es, ep, of, lC, lN, dN, hk, he, hne, lf, cf⟩ := c.ne
  have X1 := I.kIn
  have own : s.heap.OwnEqNoNe a C f "object" [.type "object"] := ⟨_, of, nm, qn, N, bs, hdct, sn, sub, ab, col, dd, k0, k1, k2, k3, k5, newId, fun z => nsFind es z, some (.builtin "object.__eq__"), O.obj, rfl, X1 _ _ lC, ⟨oN, es, ep, X1 _ _ lN, dN, hk, fun _ => rfl⟩, he, X1 _ _ lf, cf, PySem.F.cmp_object.mro, PySem.F.cmp_object.eq.lookup, hne⟩
  have hr1 : Room k X.A.in1 := (hr.mono hj).in1
  have hu : X.A.units + 1 < cLine := by have := hr.un; omega
  refine compareOp_ne_ownEq PySem.F.cmp_object own O'.obj rfl hu ?_
  refine wpAny_mono (wpAny_call (codeAny_mono (F X.A.in1 X.stack s H [.ref a, .ref b] [.ref a, .ref b] _ E0 hr1 I.env0.in1 (.cons rfl (.cons rfl .nil)) q) fun r s' hq => ?_)) (fun v s' z => z) fun _ _ x => x
  cases r with
  | error er => exact False.elim (passL (X := X.nox) pins σ H s er s' (I.wish _) hq)
  | ok fl =>
    cases fl with
    | ret u =>
      obtain ⟨v, H', I3, rv, r, ev, q3⟩ := I.after hq
      subst ev
      cases rv
      exact ⟨r, rfl, .bl (!r), H', I3, rfl, q3⟩
    | next => exact False.elim hq
    | brk => exact False.elim hq
    | cont => exact False.elim hq
end

/-! ### methods of built-in values -/
section
variable {X : Cx} {o e : Expr} {es : List Expr} {σ : L2.St} {H : Hp} {Q : VK} {apos pos : Pos}
/-- xs.append(e) -/
theorem w_append (h : WE X o σ H fun x H1 => ∃ l, x = .ref l ∧ (∃ xs, SqL X.K H1 l xs) ∧ WE X e σ H1 fun y H2 => ∃ xs, H2 l = some (.lst xs) ∧ xs.length < sizeLine ∧ Q .non (upd H2 l (.lst (xs ++ [y]))))
    (hbase : attributeBase o "append" X.env (eval o X.env) = eval o X.env := by with_unfolding_all rfl)
    (hfew : ((backTo pos (starEach [e] X.env)).all (fun x => !x.1) && (backToKw pos (keywordEach [] X.env)).all (fun x => x.1.isSome)
      && decide ([e].length + ([] : List Keyword).length + (if ([] : List Keyword).isEmpty then 0 else 1) < 30)) = true := by with_unfolding_all rfl)
    (hline : (apos.endLine == pos.line) = true := by with_unfolding_all rfl) (hs : starEach [e] X.env = (false, eval e X.env) :: starEach [] X.env := by with_unfolding_all rfl) : WE X (.Call (.Attribute o "append" apos) [e] [] pos) σ H Q := by
  refine (pe_bm PySem.F.plainAttrs_list PySem.F.slot_list_append PySem.F.type_list_append mt_append pe_w (pa_cons pe_w pa_nil hs) hbase hfew hline hs rfl).w ?_
  exact WE.imp h fun x H1 ⟨l, e1, ⟨xs, hx⟩, q⟩ => ⟨by rw [e1]; exact Or.inl ⟨rfl, xs, hx⟩, WE.imp q fun y H2 ⟨xs, h2, hz, q⟩ => ⟨l, xs, y, e1, rfl, h2, hz, q⟩⟩
/-- sep.join(xs) of a list of texts -/
theorem w_join (h : WE X o σ H fun x H1 => ∃ a, x = .str a ∧ WE X e σ H1 fun y H2 => ∃ p, ∃ ys : List Str, y = .ref p ∧ (SqL X.K H2 p (ys.map V.str) ∨ SqT X.K H2 p (ys.map V.str)) ∧ (ys.map fun x => x.length).sum + ys.length * a.length ≤ 16777216 ∧ Q (.str (Txt.join a ys)) H2)
    (hs : starEach [e] X.env = [(false, eval e X.env)] := by with_unfolding_all rfl) (hbase : attributeBase o "join" X.env (eval o X.env) = eval o X.env := by with_unfolding_all rfl) (hline : (apos.endLine == pos.line) = true := by with_unfolding_all rfl) : WE X (.Call (.Attribute o "join" apos) [e] [] pos) σ H Q :=
  (pe_join pe_w pe_w hs hbase hline).w (WE.imp h fun x H1 ⟨a, e1, q⟩ => ⟨⟨a, e1⟩, WE.imp q fun y H2 ⟨p, ys, e2, h2, hz, q⟩ => ⟨a, p, ys, e1, by rw [e2], h2, hz, q⟩⟩)
/-- s.count(t) -/
theorem w_count (h : WE X o σ H fun x H1 => ∃ a, x = .str a ∧ WE X e σ H1 fun y H2 => ∃ b, y = .str b ∧ Q (.int (Txt.count a b)) H2)
    (hs : starEach [e] X.env = [(false, eval e X.env)] := by with_unfolding_all rfl) (hbase : attributeBase o "count" X.env (eval o X.env) = eval o X.env := by with_unfolding_all rfl) (hline : (apos.endLine == pos.line) = true := by with_unfolding_all rfl) : WE X (.Call (.Attribute o "count" apos) [e] [] pos) σ H Q :=
  (pe_m1 PySem.F.slot_str_count PySem.F.type_str_count mt_count pe_w pe_w hs hbase hline).w (WE.imp h fun x H1 ⟨a, e1, q⟩ => ⟨⟨a, e1⟩, WE.imp q fun y H2 ⟨b, e2, q⟩ => ⟨a, b, e1, by rw [e2], q⟩⟩)
end

/-! ### a def's names -/
def visB (sc : Scope) (x : Str) : Bool := match sc.names.lookup x with
  | some .local | some .cell | some .free => true
  | _ => false
def locB (sc : Scope) (x : Str) : Bool := match sc.names.lookup x with
  | some .local | some .cell => true
  | _ => false
def gloB (sc : Scope) (x : Str) : Bool := match sc.names.lookup x with
  | some .globalImplicit => true
  | _ => false
theorem visB_ok {sc : Scope} {x : Str} (h : visB sc x = true) : Vis sc x := by
  unfold visB at h
  split at h
  · exact .inl (by assumption)
  · exact .inr (.inl (by assumption))
  · exact .inr (.inr (by assumption))
  · cases h
theorem locB_ok {sc : Scope} {x : Str} (h : locB sc x = true) : Loc sc x := by
  unfold locB at h
  split at h
  · exact .inl (by assumption)
  · exact .inr (by assumption)
  · cases h
theorem gloB_ok {sc : Scope} {x : Str} (h : gloB sc x = true) : sc.names.lookup x = some .globalImplicit := by
  unfold gloB at h
  split at h
  · assumption
  · cases h
/-- names: N all slots (the parameters ps first), L the def's own, G the module's, B the built-in ones -/
def scB (N ps L G B : List Str) (sc : Scope) : Bool :=
  (match sc.kind with | .function => true | _ => false) && !sc.isCoroutine && !sc.isGenerator && decide N.Nodup && decide (N.take ps.length = ps) && ps.all (locB sc) && (sc.names.all fun y => match y.2 with | .free => false | _ => true) &&
  (L.all fun x => locB sc x && !(x == ("__debug__" : Str)) && !(x == ("__classdict__" : Str))) && (G.all fun x => gloB sc x && !(x == ("__debug__" : Str)) && decide (x ≠ "__name__")) && (B.all fun x => gloB sc x && !(x == ("__debug__" : Str)) && decide (x ≠ "__name__"))
theorem scB_ok {N ps L G B : List Str} {sc : Scope} (h : scB N ps L G B sc = true) : FnScope N ps sc ∧ (∀ x ∈ L, Loc sc x ∧ (x == ("__debug__" : Str)) = false ∧ (x == ("__classdict__" : Str)) = false) ∧
    (∀ x ∈ G, sc.names.lookup x = some .globalImplicit ∧ (x == ("__debug__" : Str)) = false ∧ x ≠ "__name__") ∧ (∀ x ∈ B, sc.names.lookup x = some .globalImplicit ∧ (x == ("__debug__" : Str)) = false ∧ x ≠ "__name__") := by
  unfold scB at h
  simp only [Bool.and_eq_true, List.all_eq_true, decide_eq_true_eq, Bool.not_eq_true'] at h
  obtain ⟨⟨⟨⟨⟨⟨⟨⟨⟨h1, h2⟩, h3⟩, h4⟩, h5⟩, h6⟩, h7⟩, h8⟩, h9⟩, h10⟩ := h
  refine ⟨⟨?_, h2, h3, h4, h5, fun x hx => locB_ok (h6 x hx), fun y hy e => ?_⟩, fun x hx => ⟨locB_ok (h8 x hx).1.1, (h8 x hx).1.2, (h8 x hx).2⟩, fun x hx => ⟨gloB_ok (h9 x hx).1.1, (h9 x hx).1.2, (h9 x hx).2⟩, fun x hx => ⟨gloB_ok (h10 x hx).1.1, (h10 x hx).1.2, (h10 x hx).2⟩⟩
  · split at h1
    · assumption
    · cases h1
  · have := h7 y hy
    rw [e] at this
    cases this
theorem nm_of {CX : CXT} {P : Program} {w : World} {K : PySem.W.Frag} {mg : Str → Option Value} {base : Heap} {N ps L G B : List Str} {qual : Str} {sc : Scope} {f : Addr} {cd : Value} {A : Around} {outer : List Env} {s : Shared} {H : Hp} {E : XK} (h : scB N ps L G B sc = true) (hb : ∀ x ∈ B, mg x = none) :
    Nm (cxOf CX P w K mg base N qual sc f cd A outer s H E) N L L G B := by
  obtain ⟨F, hL, hG, hB⟩ := scB_ok h
  exact ⟨rfl, F.nd, fun x hx => ⟨by rcases (hL x hx).1 with z | z; exact .inl z; exact .inr (.inl z), (hL x hx).2⟩, fun x hx => ⟨(hL x hx).1, .inl rfl⟩, hG, hb, hB, rfl⟩
theorem nm_nox {X : Cx} {N L S G B : List Str} (c : Nm X N L S G B) : Nm X.nox N L S G B := ⟨c.names, c.nd, c.vis, c.sto, c.glo, c.blt, c.bgl, c.calm⟩
/-- .. of a block: L the visible ones, S its own -/
def bkB (sc scope : Scope) (L S G B : List Str) : Bool :=
  (L.all fun x => visB (relS scope sc) x && !(x == ("__debug__" : Str)) && !(x == ("__classdict__" : Str))) && (S.all fun x => locB (relS scope sc) x && (match (relS scope sc).names.lookup x, scope.names.lookup x with | some .local, _ => true | _, some .cell => true | _, _ => false)) &&
  (G.all fun x => gloB (relS scope sc) x && !(x == ("__debug__" : Str)) && decide (x ≠ "__name__")) && (B.all fun x => gloB (relS scope sc) x && !(x == ("__debug__" : Str)) && decide (x ≠ "__name__"))
theorem nm_blk {X X' : Cx} {N L S G B L' S' G' B' : List Str} {scope : Scope} (b : Blk X scope X') (c : Nm X N L S G B) (h : bkB X.env.scope scope L' S' G' B' = true) (hb : ∀ x ∈ B', X.mg x = none) : Nm X' N L' S' G' B' := by
  obtain ⟨s, H, C, cl, fp, rfl⟩ := b
  unfold bkB at h
  simp only [Bool.and_eq_true, List.all_eq_true, decide_eq_true_eq, Bool.not_eq_true'] at h
  obtain ⟨⟨⟨h8, h6⟩, h9⟩, h10⟩ := h
  refine ⟨c.names, c.nd, fun x hx => ⟨visB_ok (h8 x hx).1.1, (h8 x hx).1.2, (h8 x hx).2⟩, fun x hx => ⟨locB_ok (h6 x hx).1, ?_⟩, fun x hx => ⟨gloB_ok (h9 x hx).1.1, (h9 x hx).1.2, (h9 x hx).2⟩, hb, fun x hx => ⟨gloB_ok (h10 x hx).1.1, (h10 x hx).1.2, (h10 x hx).2⟩, c.calm⟩
  have z := (h6 x hx).2
  split at z
  · exact .inr (by assumption)
  · refine .inl ?_
    show (scope.names.lookup x == some .cell) = true
    simp [*]
  · cases z

/-! ### what the top has written: defs by where they stand, facts as Bools -/
open He in
structure DefY where
  at_ : PySem.W.Frag → Addr
  name : Str
  qual : Str
  params : Arguments
  body : List Stmt
  scope : Scope
  dfl : List Dv := []
  cells : List Str := []
open He in
def fnY (K : PySem.W.Frag) (a : Addr) : FnW := match K.lookup a with
  | some ⟨_, _, .func fd, _⟩ => some (fd.name, fd.qualname, fd.params, fd.body, fd.scope, fd.globals, fd.closure.map fun p => (p.1, 0), fd.builtins)
  | _ => none
open He in
def DefY.val (d : DefY) : FnW := some (d.name, d.qual, d.params, .stmts d.body, d.scope, mainGlobals, d.cells.map fun x => (x, 0), builtinsNs)
open He in
def DefY.ok (K : PySem.W.Frag) (d : DefY) : Bool := PySem.W.keepIn K (.ref (d.at_ K)) && (match K.lookup (d.at_ K) with
  | some ⟨_, _, .func fd, _⟩ => PySem.W.codeIn K fd.code d.qual && dflB K fd.defaults (d.dfl.map (Dv.v K))
  | _ => false)
open He in
theorem DefY.funD {K : PySem.W.Frag} {d : DefY} (hcl : d.cells = []) (e : fnY K (d.at_ K) = d.val) (c : d.ok K = true) : ∃ fd, FunD K d.name d.qual d.params d.body d.scope (d.dfl.map (Dv.v K)) [] (d.at_ K) fd := by
  obtain ⟨kp, c2⟩ := ba c
  unfold fnY at e
  cases q : K.lookup (d.at_ K) with
  | none =>
    rw [q] at c2
    cases c2
  | some o =>
    obtain ⟨oc, od, dt, osl⟩ := o
    rw [q] at c2 e
    cases dt with
    | func fd =>
      obtain ⟨n1, n2, n3, n4, n5, n6, n7, n8, n9, n10, n11, n12, n13, n14, n15⟩ := fd
      have e2 : (some (n1, n2, n3, n4, n5, n6, n7.map (fun p => (p.1, 0)), n15) : FnW) = some (d.name, d.qual, d.params, .stmts d.body, d.scope, mainGlobals, d.cells.map (fun x => (x, 0)), builtinsNs) := e
      rw [hcl] at e2
      simp only [Option.some.injEq, Prod.mk.injEq, List.map_nil, List.map_eq_nil_iff] at e2
      obtain ⟨h1, h2, h3, h4, h5, h6, h7, h8⟩ := e2
      subst h1 h2 h3 h4 h5 h6 h7 h8
      have c3 : (PySem.W.codeIn K n13 d.qual && dflB K n8 (d.dfl.map (Dv.v K))) = true := c2
      obtain ⟨k1, k2⟩ := ba c3
      exact ⟨_, ⟨oc, od, n8, n9, n10, n11, n12, n13, n14, osl, rfl, q, k1, dflB_ok k2, .inl rfl⟩, kp⟩
    | _ => cases c2
open He in
abbrev AlY : Type := Bool × List FnW
open He in
def obsY (fs : List (PySem.W.Frag → Bool)) (fn : List DefY) (K : PySem.W.Frag) : AlY := ((fs.all fun f => f K) && fn.all fun d => d.ok K, fn.map fun d => fnY K (d.at_ K))
open He in
def valY (fn : List DefY) : AlY := (true, fn.map DefY.val)
def SaysY (fs : List (PySem.W.Frag → Bool)) (fn : List DefY) (K : PySem.W.Frag) : Prop := obsY fs fn K = valY fn
open He in
def obsYG (n : Nat) (fs : List (PySem.W.Frag → Bool)) (fn : List DefY) (g : Addr → Option Obj) : AlY := obsY fs fn (frG g (PySem.sysModules :: PySem.cStatics :: asD g n))
open He in
def hookY (n : Nat) (fs : List (PySem.W.Frag → Bool)) (fn : List DefY) : PySem.W.Hook where
  α := AlY
  obs := fun s => obsYG n fs fn s.heap.get?
  val := fun _ => valY fn
  says := fun _ h => ∃ K : PySem.W.Frag, K.In h ∧ SaysY fs fn K
  of := fun _ _ e => ⟨_, frG_in, e⟩
  keeps := fun _ _ _ ⟨K, hK, c⟩ k => ⟨K, PySem.W.Frag.In.keeps hK k, c⟩
theorem obsYG_eq {n : Nat} {fs : List (PySem.W.Frag → Bool)} {fn : List DefY} {g : Addr → Option Obj} {s : Shared} (h : ∀ a, g a = s.heap.get? a) : obsYG n fs fn g = (hookY n fs fn).obs s := by
  have e : g = s.heap.get? := funext h
  rw [e] <;> rfl
section
variable {fs : List (PySem.W.Frag → Bool)} {fn : List DefY} {K : PySem.W.Frag}
open He in
theorem SaysY.fact (c : SaysY fs fn K) (i : Nat) {f : PySem.W.Frag → Bool} (h : fs[i]? = some f := by with_unfolding_all rfl) : f K = true := by
  have c1 := (ba (show ((fs.all fun f => f K) && fn.all fun d => d.ok K) = true from congrArg (fun z : AlY => z.1) c)).1
  exact List.all_eq_true.mp c1 f (List.mem_of_getElem? h)
open He in
theorem SaysY.mem (c : SaysY fs fn K) {f : PySem.W.Frag → Bool} (h : f ∈ fs) : f K = true := by
  have c1 := (ba (show ((fs.all fun f => f K) && fn.all fun d => d.ok K) = true from congrArg (fun z : AlY => z.1) c)).1
  exact List.all_eq_true.mp c1 f h
open He in
theorem SaysY.def_ (c : SaysY fs fn K) (i : Nat) {d : DefY} (h : fn[i]? = some d := by with_unfolding_all rfl) (hcl : d.cells = [] := by rfl) : ∃ fd, FunD K d.name d.qual d.params d.body d.scope (d.dfl.map (Dv.v K)) [] (d.at_ K) fd := by
  have c2 := (ba (show ((fs.all fun f => f K) && fn.all fun d => d.ok K) = true from congrArg (fun z : AlY => z.1) c)).2
  have e : fn.map (fun d => fnY K (d.at_ K)) = fn.map DefY.val := congrArg (fun z : AlY => z.2) c
  have e2 : (fn.map fun d => fnY K (d.at_ K))[i]? = (fn.map DefY.val)[i]? := by rw [e]
  rw [List.getElem?_map, List.getElem?_map, h] at e2
  exact DefY.funD hcl (Option.some.inj e2) (List.all_eq_true.mp c2 d (List.mem_of_getElem? h))
end

section
variable {fs : List (PySem.W.Frag → Bool)} {fn : List DefY} {K : PySem.W.Frag}
open He in
theorem SaysY.defR (c : SaysY fs fn K) (i : Nat) {d : DefY} (h : fn[i]? = some d := by with_unfolding_all rfl) : fnY K (d.at_ K) = d.val ∧ d.ok K = true := by
  have c2 := (ba (show ((fs.all fun f => f K) && fn.all fun d => d.ok K) = true from congrArg (fun z : AlY => z.1) c)).2
  have e : fn.map (fun d => fnY K (d.at_ K)) = fn.map DefY.val := congrArg (fun z : AlY => z.2) c
  have e2 : (fn.map fun d => fnY K (d.at_ K))[i]? = (fn.map DefY.val)[i]? := by rw [e]
  rw [List.getElem?_map, List.getElem?_map, h] at e2
  exact ⟨Option.some.inj e2, List.all_eq_true.mp c2 d (List.mem_of_getElem? h)⟩
end

/-! ### facts of classes -/
open He in
/-- what a record of that kind (property, staticmethod, classmethod) at a class's name holds -/
def rcA (kind : String) (C m : Str) (K : PySem.W.Frag) : Addr := match PySem.W.recIn K (ma K (ga K C) m) kind with
  | some (.ref g :: _) => g
  | _ => 0
theorem rcA_ok {kind : String} {C m : Str} {K : PySem.W.Frag} (h : (match PySem.W.recIn K (He.ma K (He.ga K C) m) kind with | some (.ref _ :: _) => true | _ => false) = true) : ∃ rest, PySem.W.recIn K (He.ma K (He.ga K C) m) kind = some (.ref (rcA kind C m K) :: rest) := by
  unfold rcA
  split at h
  · rename_i g r q
    rw [q]
    exact ⟨r, rfl⟩
  · cases h
open He in
def propB (C f : Str) (K : PySem.W.Frag) : Bool := eqO (PySem.W.findIn K (.ref (ga K C)) f) (some (some (.ref (ma K (ga K C) f)))) && eqO (PySem.W.specialIn K (.ref (ma K (ga K C) f)) "__get__") (some (some (.builtin "property.__get__"))) &&
  decide (PySem.W.takesIn K (.ref (ma K (ga K C) f)) = some true) && (match PySem.W.recIn K (ma K (ga K C) f) "property" with | some (.ref _ :: _) => true | _ => false)
open He in
theorem propB_ok {C f : Str} {K : PySem.W.Frag} (h : propB C f K = true) : PropOf K (ga K C) f (ma K (ga K C) f) (rcA "property" C f K) := by
  obtain ⟨h1, h4⟩ := ba h
  obtain ⟨h1, h3⟩ := ba h1
  obtain ⟨h1, h2⟩ := ba h1
  exact ⟨eqO_ok h1, eqO_ok h2, of_decide_eq_true h3, rcA_ok h4⟩
open He in
def creadB (C : Str) (K : PySem.W.Frag) : Bool := PySem.W.readsIn K (ga K C) (.type "type") && eqO (PySem.W.specialIn K (.ref (ga K C)) "__getattribute__") (some (some (.builtin "type.__getattribute__")))
open He in
theorem creadB_ok {C : Str} {K : PySem.W.Frag} (h : creadB C K = true) : ClX.CRead K (ga K C) (.type "type") := by
  obtain ⟨h1, h2⟩ := ba h
  exact ⟨h1, eqO_ok h2⟩
open He in
def cvalB (C f : Str) (v : Dv) (K : PySem.W.Frag) : Bool := match PySem.W.findCls K (.ref (ga K C)) (.type "type") f with
  | some (.val u) => relB (v.v K) u
  | _ => false
open He in
theorem cvalB_ok {C f : Str} {v : Dv} {K : PySem.W.Frag} (h : cvalB C f v K = true) : ∃ u, ClX.CVal K (ga K C) (.type "type") f (v.v K) u := by
  unfold cvalB at h
  split at h
  · rename_i u q
    exact ⟨u, q, relB_ok h⟩
  · cases h
open He in
def getB (C m : Str) (kind : String) (g : String) (K : PySem.W.Frag) : Bool := (match PySem.W.findCls K (.ref (ga K C)) (.type "type") m with
  | some (.get (.builtin g') (.ref p) .none (.ref c)) => decide (g' = g) && decide (p = ma K (ga K C) m) && decide (c = ga K C)
  | _ => false) && (match PySem.W.recIn K (ma K (ga K C) m) kind with | some (.ref _ :: _) => true | _ => false)
open He in
theorem getB_ok {C m : Str} {kind g : String} {K : PySem.W.Frag} (h : getB C m kind g K = true) :
    PySem.W.findCls K (.ref (ga K C)) (.type "type") m = some (.get (.builtin g) (.ref (ma K (ga K C) m)) .none (.ref (ga K C))) ∧ ∃ rest, PySem.W.recIn K (ma K (ga K C) m) kind = some (.ref (rcA kind C m K) :: rest) := by
  obtain ⟨h1, h2⟩ := ba h
  refine ⟨?_, rcA_ok h2⟩
  split at h1
  · rename_i g' p c q
    obtain ⟨h1, e3⟩ := ba h1
    obtain ⟨e1, e2⟩ := ba h1
    rw [q, of_decide_eq_true e1, of_decide_eq_true e2, of_decide_eq_true e3]
  · cases h1
open He in
def fnInB (a : PySem.W.Frag → Addr) (K : PySem.W.Frag) : Bool := PySem.W.fnIn K (a K)
open He in
def keepB (a : PySem.W.Frag → Addr) (K : PySem.W.Frag) : Bool := PySem.W.keepIn K (.ref (a K))
open He in
/-- an instance of C, asked for its class -/
def tyB (C : Str) (K : PySem.W.Frag) : Bool := eqO (PySem.W.findIn K (.ref (ga K C)) "__class__") (some (some (.builtin "object.__class__"))) && eqO (PySem.W.specialIn K (.builtin "object.__class__") "__get__") (some (some (.builtin "getset_descriptor.__get__"))) &&
  decide (PySem.W.takesIn K (.builtin "object.__class__") = some true) && decide (PySem.W.mroIn K (ga K C) (.type "object") = some true)
open He in
theorem tyB_ok {C : Str} {K : PySem.W.Frag} (h : tyB C K = true) (cl : Cls K (ga K C)) {H : Hp} {a dx : Addr} {fs : List (Str × V)} (e : H a = some (.ins (ga K C) dx fs)) : TyX K H (.ref a) (.ref (ga K C)) := by
  obtain ⟨h1, h4⟩ := ba h
  obtain ⟨h1, h3⟩ := ba h1
  obtain ⟨h1, h2⟩ := ba h1
  exact .base (.ins e cl (eqO_ok h1) (eqO_ok h2) (of_decide_eq_true h3) (of_decide_eq_true h4))
open He in
/-- isinstance of what has the type t, by the class of the text -/
def kitC (t : PySem.W.Frag → Value) (C : Str) (b : Bool) (K : PySem.W.Frag) : Bool := decide (PySem.W.kitOne K (t K) (.ref (ga K C)) = some b)
open He in
def eqcB (C : Str) (K : PySem.W.Frag) : Bool := eqO (PySem.W.findIn K (.ref (ga K C)) "__eq__") (some (some (.ref (ma K (ga K C) "__eq__")))) && PySem.W.isFn K (.ref (ma K (ga K C) "__eq__")) && (match K.lookup (ga K C) with
  | some ⟨.type t, _, .cls cd, sl⟩ => (match sl.toList with | [_, _, _, _, some (.builtin _), _] => true | _ => false) && decide (t = "type") && decide (cd.mro = [.ref (ga K C), .type "object"]) && !cd.hasDel && (match K.lookup cd.ns with
    | some ⟨_, _, .dict es _, _⟩ => (es.toList.all fun e => match e.key with | .str _ _ => true | _ => false) && decide (nsFind es "__eq__" = some (.ref (ma K (ga K C) "__eq__"))) && decide (nsFind es "__ne__" = none)
    | _ => false)
  | _ => false) && (match K.lookup (ma K (ga K C) "__eq__") with
  | some ⟨.type t, _, _, _⟩ => decide (t = "function")
  | _ => false)
open He in
theorem eqcB_ok {C : Str} {K : PySem.W.Frag} (h : eqcB C K = true) : EqC K (ga K C) (ma K (ga K C) "__eq__") := by
  obtain ⟨h, h4⟩ := ba h
  obtain ⟨h, h3⟩ := ba h
  obtain ⟨h1, h2⟩ := ba h
  refine ⟨eqO_ok h1, h2, ?_⟩
  split at h3
  · rename_i t dd cd sl q
    obtain ⟨h3, h8⟩ := ba h3
    obtain ⟨h3, h7⟩ := ba h3
    obtain ⟨h3, h6⟩ := ba h3
    obtain ⟨h12, h5⟩ := ba h3
    obtain ⟨sl⟩ := sl
    split at h12
    case h_2 => cases h12
    rename_i k0 k1 k2 k3 nid k5 es
    have es' : sl = [k0, k1, k2, k3, some (.builtin nid), k5] := es
    subst es'
    split at h8
    · rename_i oc od es ep osl qn
      obtain ⟨h8, h11⟩ := ba h8
      obtain ⟨h9, h10⟩ := ba h8
      split at h4
      · rename_i t' od' dt' sl' qf
        refine ⟨cd.name, cd.qualname, cd.ns, cd.bases, cd.hasDict, cd.slotNames, cd.subclasses, cd.abstract, cd.collection, dd, k0, k1, k2, k3, k5, nid, _, es, ep, _, ?_, qn, rfl, ?_, of_decide_eq_true h10, of_decide_eq_true h11, qf, ?_⟩
        · rw [q]
          obtain ⟨n1, n2, n3, n4, n5, n6, n7, n8, n9, n10, n11⟩ := cd
          have e1 : n3 = [.ref (ga K C), .type "object"] := of_decide_eq_true h6
          have e2 : n11 = false := by
            have z : (!n11) = true := h7
            simpa using z
          have e3 : t = "type" := of_decide_eq_true h5
          subst e1 e2 e3
          rfl
        · intro e he
          have z := List.all_eq_true.mp h9 e (Array.mem_toList_iff.mpr he)
          split at z
          · rename_i n tk qk
            exact ⟨n, tk, qk⟩
          · cases z
        · exact congrArg Value.type (of_decide_eq_true h4)
      · cases h4
    · cases h8
  · cases h3
end Sv

namespace Sv
open PySem PySem.Spec PyProof.Rows L2

/-- the context of a def's body -/
abbrev cx (P : Program) (w : World) (K : PySem.W.Frag) (mg : Str → Option Value) (base : Heap) (N : List Str) (qual : Str) (sc : Scope) (f : Addr) (cd : Value) (A : Around) (outer : List Env) (s : Shared) (H : Hp) (E : XK) : Cx := cxOf (L2.CX P w) P w K mg base N qual sc f cd A outer s H E
section
variable {P : Program} {w : World} {K : PySem.W.Frag} {mg : Str → Option Value} {base : Heap} {N ps L G B : List Str} {k : Nat} {x qual : Str} {params : Arguments} {body : List Stmt} {sc : Scope} {f : Addr} {fd : FuncData} {sp : Sp}
theorem takes_cx {cd : Value} {A : Around} {outer : List Env} {s : Shared} {H : Hp} {E : XK} : Takes (cx P w K mg base N qual sc f cd A outer s H E) (fun cls d _ H' => E cls d H') := takes_of rfl rfl rfl rfl
theorem owns_cx {cd : Value} {A : Around} {outer : List Env} {s : Shared} {H : Hp} {E : XK} : PassesOwn (model P w) (cx P w K mg base N qual sc f cd A outer s H E).A (cx P w K mg base N qual sc f cd A outer s H E).env (cx P w K mg base N qual sc f cd A outer s H E).xe := passes_of (X := cx P w K mg base N qual sc f cd A outer s H E) rfl
/-- THE RULE for a def without defaults -/
theorem fnr_of (F : FunD K x qual params body sc [] [] f fd) (S : scB N ps L G B sc = true) (len : ∀ vs H Q E, sp vs H Q E → vs.length = ps.length)
    (hbind : ∀ (kV doc pm : Value) (an : Option Addr) (cdv ct : Value) (us : List Value), us.length = ps.length → bindArgs (PySem.W.fnOf x qual params body sc .none kV doc pm an cdv ct) ⟨us, []⟩ = pure (ps.zip us))
    (hb : ∀ x ∈ B, mg x = none)
    (hbody : ∀ (cd : Value) (A : Around) (outer : List Env) (s : Shared) (H : Hp) (vs : List V) (Q : VK) (E : XK), Room k (cx P w K mg base N qual sc f cd A outer s H E).A → Nm (cx P w K mg base N qual sc f cd A outer s H E) N L L G B → sp vs H Q E →
      WL (cx P w K mg base N qual sc f cd A outer s H E) body { nx := fun _ H' => Q .non H', rt := Q } (start N vs) H) : FnR P w K mg base (L2.CX P w) (k + 1) f sp := by
  have S' := (scB_ok S).1
  have G := F.ok (P := P) (w := w) (mg := mg) (base := base) (CX := L2.CX P w) (k := k) (sp := sp) S' len fun cdv A outer s H vs Q E hr h => ⟨WL (cx P w K mg base N qual sc f cdv A outer s H E) body, pss_w, hbody cdv A outer s H vs Q E hr (nm_of S hb) h⟩
  have R := G.raw (F.bindsN hbind) (dvs := []) .nil
  exact R.imp fun vs H Q E h => by rw [List.append_nil]; exact h
/-- THE RULE for a def with defaults dvs behind n parameters: the promise is of all parameters; called with n + j of them -/
theorem fnr_ofD {dvs : List V} (F : FunD K x qual params body sc dvs [] f fd) (S : scB N ps L G B sc = true) (len : ∀ vs H Q E, sp vs H Q E → vs.length = ps.length)
    (hb : ∀ x ∈ B, mg x = none)
    (hbody : ∀ (cd : Value) (A : Around) (outer : List Env) (s : Shared) (H : Hp) (vs : List V) (Q : VK) (E : XK), Room k (cx P w K mg base N qual sc f cd A outer s H E).A → Nm (cx P w K mg base N qual sc f cd A outer s H E) N L L G B → sp vs H Q E →
      WL (cx P w K mg base N qual sc f cd A outer s H E) body { nx := fun _ H' => Q .non H', rt := Q } (start N vs) H) : FnOk P w K mg base (L2.CX P w) (k + 1) f fd ps sp :=
  F.ok (P := P) (w := w) (mg := mg) (base := base) (CX := L2.CX P w) (k := k) (sp := sp) (scB_ok S).1 len fun cdv A outer s H vs Q E hr h => ⟨WL (cx P w K mg base N qual sc f cdv A outer s H E) body, pss_w, hbody cdv A outer s H vs Q E hr (nm_of S hb) h⟩
/-- THE RULE for a def with a star parameter -/
theorem fnr_star {pv : Str} (F : FunD K x qual params body sc [] [] f fd) (S : scB N (ps ++ [pv]) L G B sc = true)
    (hbind : ∀ (kV doc pm : Value) (an : Option Addr) (cdv ct : Value) (us rest : List Value), us.length = ps.length → bindArgs (PySem.W.fnOf x qual params body sc .none kV doc pm an cdv ct) ⟨us ++ rest, []⟩ = (newTuple rest >>= fun t => pure (ps.zip us ++ [(pv, t)])))
    (hb : ∀ x ∈ B, mg x = none)
    (hbody : ∀ (cd : Value) (A : Around) (outer : List Env) (s : Shared) (H : Hp) (vs : List V) (Q : VK) (E : XK), Room k (cx P w K mg base N qual sc f cd A outer s H E).A → Nm (cx P w K mg base N qual sc f cd A outer s H E) N L L G B → sp vs H Q E →
      WL (cx P w K mg base N qual sc f cd A outer s H E) body { nx := fun _ H' => Q .non H', rt := Q } (start N vs) H) :
    FnR P w K mg base (L2.CX P w) (k + 1) f (fun vs H Q E => ∃ ws rest, vs = ws ++ rest ∧ ws.length = ps.length ∧ rest.length ≤ sizeLine ∧ ∀ p, H p = Option.none → sp (ws ++ [V.ref p]) (upd H p (.tup rest)) Q E) := by
  obtain ⟨oc, od, dV, kV, doc, pm, an, cdv, ct, osl, rfl, lk, hcd, hD, _⟩ := F.ex
  have eD : dV = .none := by
    rcases hD with ⟨_, e⟩ | ⟨e, _⟩
    · exact e
    · exact absurd rfl e
  subst eD
  exact StX.fn_star lk hcd (scB_ok S).1 StX.cxUp (hbind kV doc pm an cdv ct) fun A outer s H vs Q E hr hsp => ⟨WL (cx P w K mg base N qual sc f cdv A outer s H E) body, pss_w, hbody cdv A outer s H vs Q E hr (nm_of S hb) hsp⟩
end

/-! ### a list of two numbers that are drawn from: what stands there is not told -/
def poolP (p : Addr) (h : Heap) : Prop := ∃ (i j : Int) (t u : Tok) (n : Nat), 0 ≤ i ∧ 0 ≤ j ∧ h.get? p = some { cls := .type "list", data := .seq #[.int i t, .int j u] n }
def pool (p : Addr) : HO := .ext (poolP p)
/-- the same state, told otherwise -/
def Abs (H H' : Hp) : Prop := ∀ (X : Cx) (pins : List (Addr × Obj)) (σ : L2.St) (s : Shared), Inv X pins σ H s → Inv X pins σ H' s
def plainHO : HO → Bool
  | .lst _ => true
  | .ext _ => true
  | _ => false
theorem swap_ho {X : Cx} {pins : List (Addr × Obj)} {σ : L2.St} {H : Hp} {s : Shared} {p : Addr} {o o' : HO} (I : Inv X pins σ H s) (h : H p = some o) (ho : plainHO o = true) (new : ObjOk X.prog X.w (upd H p o') s.heap p o') : Inv X pins σ (upd H p o') s := by
  have ne : ∀ b u, H b = some u → plainHO u = false → b ≠ p := fun b u e z q => by
    rw [q, h] at e
    cases e
    rw [ho] at z
    cases z
  have nn : ∀ b, H b = none → b ≠ p := fun b e q => by
    rw [q, h] at e
    cases e
  refine ⟨I.ok, I.os, I.bare, ⟨I.base.keep, I.base.slot, fun b ob e n hx => ?_, I.base.there, fun b xs e => ?_, fun b ob u e => ?_, fun b ps e => ?_⟩, I.loc, I.cell, ?_, fun x c e => ?_, fun q hq => ?_, fun a u e => ?_, I.len⟩
  · have z := I.base.free b ob e n hx
    rw [upd_ne (nn b z)]; exact z
  · have z := I.base.tups b xs e
    rw [upd_ne (ne b _ z rfl)]; exact z
  · have z := I.base.frzs b ob u e
    rw [upd_ne (ne b _ z rfl)]; exact z
  · obtain ⟨more, z⟩ := I.base.tbls b ps e
    exact ⟨more, by rw [upd_ne (ne b _ z rfl)]; exact z⟩
  · rw [upd_ne (nn _ I.free)]; exact I.free
  · rw [upd_ne (nn _ (I.freeC x c e))]; exact I.freeC x c e
  · obtain ⟨a1, a2, a3, a4, a5⟩ := I.pin q hq
    exact ⟨a1, by rw [upd_ne (nn _ a2)]; exact a2, a3, a4, a5⟩
  · by_cases z : a = p
    · subst z
      rw [upd_same] at e
      cases e
      exact new
    · rw [upd_ne z] at e
      exact (I.hok a u e).stay (fun b ob _ q => q) (fun b q => by rw [upd_ne (ne b _ q rfl)]; exact q) fun b xs q => by rw [upd_ne (ne b _ q rfl)]; exact q
theorem vals_ii {i j : Int} {us : List Value} (r : Vals [V.int i, V.int j] us) : ∃ t u, us = [.int i t, .int j u] := r.int2
theorem pool_abs {H : Hp} {p : Addr} {i j : Int} (h : H p = some (.lst [.int i, .int j])) (hi : 0 ≤ i) (hj : 0 ≤ j) : Abs H (upd H p (pool p)) := fun X pins σ s I => by
  obtain ⟨_, its, n, rv, e⟩ := (show ObjOk X.prog X.w H s.heap p (.lst [.int i, .int j]) from I.hok p _ h)
  obtain ⟨t, u, rfl⟩ := vals_ii rv
  exact swap_ho I h rfl ⟨⟨i, j, t, u, n, hi, hj, e⟩, ⟨_, e⟩, fun h1 h2 ⟨i, j, t, u, n, a, b, e⟩ k => ⟨i, j, t, u, n, a, b, k _ e⟩⟩
theorem pool_open {X : Cx} {pins : List (Addr × Obj)} {σ : L2.St} {H : Hp} {s : Shared} {p : Addr} (I : Inv X pins σ H s) (h : H p = some (pool p)) : ∃ i j, 0 ≤ i ∧ 0 ≤ j ∧ Inv X pins σ (upd H p (.lst [.int i, .int j])) s := by
  obtain ⟨⟨i, j, t, u, n, hi, hj, e⟩, _, _⟩ := (show ObjOk X.prog X.w H s.heap p (pool p) from I.hok p _ h)
  exact ⟨i, j, hi, hj, swap_ho I h rfl ⟨by show 2 ≤ sizeLine; decide, [.int i t, .int j u], n, .cons ⟨_, rfl⟩ (.cons ⟨_, rfl⟩ .nil), e⟩⟩
section
variable {X : Cx} {sts : List Stmt} {e : Expr} {σ : L2.St} {H : Hp} {D : Ends} {Q : VK} {p : Addr}
theorem wl_pool (h : H p = some (pool p)) (q : ∀ i j, 0 ≤ i → 0 ≤ j → WL X sts D σ (upd H p (.lst [.int i, .int j]))) : WL X sts D σ H := ⟨fun pins s I => by
  obtain ⟨i, j, hi, hj, I'⟩ := pool_open I h
  exact (q i j hi hj).run pins s I'⟩
theorem we_abs (h : WE X e σ H fun v H1 => ∃ H2, Abs H1 H2 ∧ Q v H2) : WE X e σ H Q := ⟨fun pins s I => thn (h.run pins s I) fun u s' ⟨v, H1, I1, r, H2, a, q⟩ => ⟨v, H2, a X pins σ s' I1, r, q⟩⟩
theorem wl_abs {H' : Hp} (a : Abs H H') (h : WL X sts D σ H') : WL X sts D σ H := ⟨fun pins s I => h.run pins s (a X pins σ s I)⟩
end
/-- back to what stood: p told as a pool again -/
theorem pool_back {H : Hp} {p : Addr} {o : HO} (h : H p = some (pool p)) : upd (upd H p o) p (pool p) = H := by
  rw [upd_upd]
  funext b
  by_cases z : b = p
  · subst z; rw [upd_same, h]
  · rw [upd_ne z]
end Sv

namespace Sv
open PySem PySem.Spec PyProof.Rows L2

/-! ### patterns as lists of marks -/
def sgn (b : Bool) : Nat := if b then 43 else 45
def sOf (l : List Bool) : Str := ⟨(l.map sgn).toArray⟩
def kp (l : List Bool) (n : Nat) : Bool := l.getD (n % l.length) false
/-- how many below n -/
def ct (f : Nat → Bool) : Nat → Nat
  | 0 => 0
  | n + 1 => ct f n + if f n then 1 else 0
def marks (l : List Bool) : List Nat := (List.range l.length).filter fun i => l.getD i false
def Prim (l : List Bool) : Prop := ∀ d, 0 < d → d < l.length → d ∣ l.length → ¬ ∀ i, kp l (i + d) = kp l i
structure Pat (l : List Bool) : Prop where
  one : 0 < l.length
  most : l.length ≤ 10000
  plus : true ∈ l
structure Good (l : List Bool) : Prop extends Pat l where
  prim : Prim l
theorem sgn_inj {a b : Bool} (h : sgn a = sgn b) : a = b := by
  cases a <;> cases b <;> first | rfl | (exact absurd h (by decide))
theorem sOf_len (l : List Bool) : (sOf l).length = l.length := by
  show ((l.map sgn).toArray).size = l.length
  simp
theorem sOf_list (l : List Bool) : (sOf l).cps.toList = l.map sgn := by
  show ((l.map sgn).toArray).toList = _
  simp
theorem sOf_inj {l m : List Bool} (h : sOf l = sOf m) : l = m := by
  have e : l.map sgn = m.map sgn := by rw [← sOf_list, ← sOf_list, h]
  exact List.map_inj_right (fun _ _ => sgn_inj) |>.mp e
theorem sOf_eq {l m : List Bool} : sOf l = sOf m ↔ l = m := ⟨sOf_inj, fun h => by rw [h]⟩
theorem sOf_app (l m : List Bool) : sOf l ++ sOf m = sOf (l ++ m) := by
  show (⟨(l.map sgn).toArray ++ (m.map sgn).toArray⟩ : Str) = ⟨((l ++ m).map sgn).toArray⟩
  simp
theorem str_ext {x y : Str} (h : x.cps.toList = y.cps.toList) : x = y := by
  obtain ⟨a⟩ := x
  obtain ⟨b⟩ := y
  exact congrArg Str.mk (Array.toList_inj.mp h)
theorem mem_plus {l : List Bool} : (43 ∈ l.map sgn) ↔ true ∈ l := by
  constructor
  · intro h
    obtain ⟨b, hb, e⟩ := List.mem_map.mp h
    cases b with
    | true => exact hb
    | false => exact absurd e (by decide)
  · intro h
    exact List.mem_map.mpr ⟨true, h, rfl⟩
theorem sgn_dec (b : Bool) : decide (sgn b = 43) = b := by cases b <;> rfl

/-! ### periodic predicates -/
/-- d is a period of f -/
def Per (f : Nat → Bool) (d : Nat) : Prop := ∀ i, f (i + d) = f i
theorem Per.mul {f : Nat → Bool} {d : Nat} (h : Per f d) : ∀ q i, f (i + q * d) = f i
  | 0, i => by simp
  | q + 1, i => by rw [Nat.succ_mul, ← Nat.add_assoc, h, h.mul q i]
theorem Per.times {f : Nat → Bool} {d : Nat} (h : Per f d) (q : Nat) : Per f (q * d) := fun i => h.mul q i
theorem Per.dvd {f : Nat → Bool} {d e : Nat} (h : Per f d) (k : d ∣ e) : Per f e := by
  obtain ⟨q, rfl⟩ := k
  rw [Nat.mul_comm]
  exact h.times q
theorem Per.mod {f : Nat → Bool} {d : Nat} (h : Per f d) (i : Nat) : f (i % d) = f i := by
  have := h.mul (i / d) (i % d)
  rw [← this, Nat.mul_comm, Nat.mod_add_div]
theorem Per.sub {f : Nat → Bool} {a b : Nat} (ha : Per f a) (hb : Per f b) (h : b ≤ a) : Per f (a - b) := fun i => by
  have e : i + (a - b) + b = i + a := by omega
  rw [← hb (i + (a - b)), e, ha]
theorem Per.gcd {f : Nat → Bool} {a b : Nat} (ha : Per f a) (hb : Per f b) : Per f (Nat.gcd a b) := by
  induction a, b using Nat.gcd.induction with
  | H0 n => rw [Nat.gcd_zero_left]; exact hb
  | H1 m n _ ih =>
    rw [Nat.gcd_rec]
    refine ih ?_ ha
    intro i
    have e : n % m + n / m * m = n := by rw [Nat.mul_comm]; exact Nat.mod_add_div n m
    rw [← ha.mul (n / m) (i + n % m), Nat.add_assoc, e, hb]
theorem kp_per (l : List Bool) : Per (kp l) l.length := fun i => by
  unfold kp
  rw [Nat.add_mod_right]
theorem kp_lt {l : List Bool} {i : Nat} (h : i < l.length) : kp l i = l[i] := by
  unfold kp
  rw [Nat.mod_eq_of_lt h, List.getD_eq_getElem?_getD, List.getElem?_eq_getElem h]
  rfl
theorem kp_ext {l m : List Bool} (hl : l.length = m.length) (h : ∀ i, i < l.length → kp l i = kp m i) : l = m := by
  apply List.ext_getElem hl
  intro i h1 h2
  rw [← kp_lt h1, ← kp_lt h2, h i h1]
/-- the list of a predicate's first n -/
def lof (f : Nat → Bool) (n : Nat) : List Bool := (List.range n).map f
theorem lof_len (f : Nat → Bool) (n : Nat) : (lof f n).length = n := by simp [lof]
theorem kp_lof {f : Nat → Bool} {n : Nat} (h : Per f n) (h0 : 0 < n) (i : Nat) : kp (lof f n) i = f i := by
  unfold kp
  rw [lof_len, List.getD_eq_getElem?_getD]
  have hi : i % n < n := Nat.mod_lt _ h0
  simp [lof, hi]
  exact h.mod i
theorem lof_kp (l : List Bool) : lof (kp l) l.length = l := by
  apply kp_ext (lof_len _ _)
  intro i h
  by_cases h0 : 0 < l.length
  · exact kp_lof (kp_per l) h0 i
  · rw [lof_len] at h; omega
theorem Good.period {l : List Bool} (g : Good l) {d : Nat} (h0 : 0 < d) (h : Per (kp l) d) : l.length ∣ d := by
  have hg := (kp_per l).gcd h
  have h1 : Nat.gcd l.length d ∣ l.length := Nat.gcd_dvd_left _ _
  have h2 : Nat.gcd l.length d ≤ l.length := Nat.le_of_dvd g.one h1
  have h3 : 0 < Nat.gcd l.length d := Nat.gcd_pos_of_pos_left _ g.one
  by_cases e : Nat.gcd l.length d = l.length
  · rw [← e]; exact Nat.gcd_dvd_right _ _
  · exact absurd hg (g.prim _ h3 (by omega) h1)
theorem Good.uniq {l m : List Bool} (g : Good l) (k : Good m) (h : ∀ n, kp l n = kp m n) : l = m := by
  have e1 : l.length ∣ m.length := g.period k.one (fun i => by rw [h, h]; exact kp_per m i)
  have e2 : m.length ∣ l.length := k.period g.one (fun i => by rw [← h, ← h]; exact kp_per l i)
  exact kp_ext (Nat.dvd_antisymm e1 e2) fun i _ => h i
theorem plus_kp {l : List Bool} (h : true ∈ l) : ∃ i, i < l.length ∧ kp l i = true := by
  obtain ⟨i, hi, e⟩ := List.getElem_of_mem h
  exact ⟨i, hi, by rw [kp_lt hi, e]⟩
theorem kp_plus {l : List Bool} (h0 : 0 < l.length) {i : Nat} (h : kp l i = true) : true ∈ l := by
  have hi : i % l.length < l.length := Nat.mod_lt _ h0
  have e : kp l (i % l.length) = true := by rw [(kp_per l).mod]; exact h
  rw [kp_lt hi] at e
  rw [← e]
  exact List.getElem_mem hi

/-! ### the least pattern -/
/-- d cuts l into equal parts -/
def Cuts (l : List Bool) (d : Nat) : Prop := d ∣ l.length ∧ Per (kp l) d
theorem take_kp {l : List Bool} {d : Nat} (h0 : 0 < d) (hd : d ≤ l.length) (h : Per (kp l) d) (i : Nat) : kp (l.take d) i = kp l i := by
  have e : (l.take d).length = d := by rw [List.length_take]; omega
  have hi : i % d < d := Nat.mod_lt _ h0
  have : kp (l.take d) i = kp l (i % d) := by
    have e1 : kp (l.take d) i = kp (l.take d) (i % d) := by
      have := ((kp_per (l.take d)).mod i)
      rw [e] at this
      exact this.symm
    rw [e1, kp_lt (by rw [e]; exact hi), kp_lt (by omega), List.getElem_take]
  rw [this, h.mod]
theorem rep_getD {xs : List Bool} {k i : Nat} (h : i < k * xs.length) : ((List.replicate k xs).flatten).getD i false = xs.getD (i % xs.length) false := by
  induction k generalizing i with
  | zero => simp at h
  | succ k ih =>
    rw [List.replicate_succ, List.flatten_cons, List.getD_eq_getElem?_getD]
    by_cases hi : i < xs.length
    · rw [List.getElem?_append_left hi, Nat.mod_eq_of_lt hi, List.getD_eq_getElem?_getD]
    · rw [List.getElem?_append_right (by omega), ← List.getD_eq_getElem?_getD, ih (by rw [Nat.succ_mul] at h; omega)]
      rw [← Nat.mod_eq_sub_mod (by omega)]
theorem rep_len (k : Nat) (xs : List Bool) : ((List.replicate k xs).flatten).length = k * xs.length := by simp
theorem cuts_iff {l : List Bool} {d : Nat} (h0 : 0 < d) (hd : d ≤ l.length) (hm : l.length % d = 0) : l = (List.replicate (l.length / d) (l.take d)).flatten ↔ Per (kp l) d := by
  have et : (l.take d).length = d := by rw [List.length_take]; omega
  have el : l.length / d * d = l.length := Nat.div_mul_cancel (Nat.dvd_of_mod_eq_zero hm)
  have elen : ((List.replicate (l.length / d) (l.take d)).flatten).length = l.length := by rw [rep_len, et, el]
  have key : ∀ i, i < l.length → kp ((List.replicate (l.length / d) (l.take d)).flatten) i = (l.take d).getD (i % d) false := fun i hi => by
    unfold kp
    rw [elen, Nat.mod_eq_of_lt hi, rep_getD (by rw [et, el]; exact hi), et]
  constructor
  · intro e i
    have z : ∀ j, kp l j = (l.take d).getD (j % d) false := fun j => by
      have hj : j % l.length < l.length := Nat.mod_lt _ (by omega)
      rw [← (kp_per l).mod j]
      have := key _ hj
      rw [← e] at this
      rw [this]
      congr 1
      exact Nat.mod_mod_of_dvd j (Nat.dvd_of_mod_eq_zero hm)
    rw [z, z, Nat.add_mod_right]
  · intro h
    apply kp_ext elen.symm
    intro i hi
    rw [key i hi]
    rw [← take_kp h0 hd h i]
    unfold kp
    rw [et]
theorem least_good {l : List Bool} {d : Nat} (p : Pat l) (h0 : 0 < d) (hd : d ≤ l.length) (hc : Cuts l d) (hn : ∀ e, 0 < e → e < d → ¬ Cuts l e) : Good (l.take d) ∧ (∀ n, kp (l.take d) n = kp l n) ∧ (l.take d).length ∣ l.length := by
  have et : (l.take d).length = d := by rw [List.length_take]; omega
  have hk := take_kp h0 hd hc.2
  refine ⟨⟨⟨by rw [et]; exact h0, by rw [et]; have := p.most; omega, ?_⟩, ?_⟩, hk, by rw [et]; exact hc.1⟩
  · obtain ⟨i, _, e⟩ := plus_kp p.plus
    exact kp_plus (by rw [et]; exact h0) (by rw [hk]; exact e)
  · intro e h1 h2 h3 h4
    rw [et] at h2 h3
    exact hn e h1 h2 ⟨Nat.dvd_trans h3 hc.1, fun i => by rw [← hk, ← hk]; exact h4 i⟩

/-! ### counting -/
theorem ct_le (f : Nat → Bool) (n : Nat) : ct f n ≤ n := by
  induction n with
  | zero => exact Nat.le_refl _
  | succ n ih => rw [ct]; split <;> omega
theorem ct_mono (f : Nat → Bool) {a b : Nat} (h : a ≤ b) : ct f a ≤ ct f b := by
  induction h with
  | refl => exact Nat.le_refl _
  | step _ ih => rw [ct]; omega
theorem ct_succ (f : Nat → Bool) (n : Nat) : ct f (n + 1) = ct f n + if f n then 1 else 0 := rfl
theorem ct_succ_t {f : Nat → Bool} {n : Nat} (h : f n = true) : ct f (n + 1) = ct f n + 1 := by rw [ct, h]; rfl
theorem ct_succ_f {f : Nat → Bool} {n : Nat} (h : f n = false) : ct f (n + 1) = ct f n := by rw [ct, h]; rfl
theorem ct_add {f : Nat → Bool} {p : Nat} (h : Per f p) (r : Nat) : ct f (p + r) = ct f p + ct f r := by
  induction r with
  | zero => rfl
  | succ r ih => rw [← Nat.add_assoc, ct, ct, ih, Nat.add_comm p r, h]; omega
theorem ct_mul {f : Nat → Bool} {p : Nat} (h : Per f p) (q r : Nat) : ct f (q * p + r) = q * ct f p + ct f r := by
  induction q with
  | zero => simp
  | succ q ih =>
    have e : (q + 1) * p + r = p + (q * p + r) := by rw [Nat.succ_mul]; omega
    rw [e, ct_add h, ih, Nat.succ_mul]; omega
theorem ct_mod {f : Nat → Bool} {p : Nat} (h : Per f p) (n : Nat) : ct f n = n / p * ct f p + ct f (n % p) := by
  rw [← ct_mul h, Nat.mul_comm, Nat.div_add_mod]
theorem ct_congr {f g : Nat → Bool} {n : Nat} (h : ∀ i, i < n → f i = g i) : ct f n = ct g n := by
  induction n with
  | zero => rfl
  | succ n ih => rw [ct, ct, ih (fun i hi => h i (by omega)), h n (by omega)]
/-- strictly: two kept numbers with one count are one -/
theorem ct_inj {f : Nat → Bool} {a b : Nat} (ha : f a = true) (hb : f b = true) (h : ct f a = ct f b) : a = b := by
  rcases Nat.lt_trichotomy a b with l | l | l
  · have := ct_mono f (show a + 1 ≤ b from l)
    rw [ct_succ_t ha] at this; omega
  · exact l
  · have := ct_mono f (show b + 1 ≤ a from l)
    rw [ct_succ_t hb] at this; omega
theorem ct_lt {f : Nat → Bool} {a b : Nat} (ha : f a = true) (h : a < b) : ct f a < ct f b := by
  have := ct_mono f (show a + 1 ≤ b from h)
  rw [ct_succ_t ha] at this; omega
theorem ct_lof (f : Nat → Bool) (n : Nat) : ((List.range n).filter f).length = ct f n := by
  induction n with
  | zero => rfl
  | succ n ih =>
    rw [List.range_succ, List.filter_append, List.length_append, ih, ct]
    cases h : f n <;> simp [h]
/-- the k-th below n -/
theorem filter_range {f : Nat → Bool} {n k : Nat} (h : k < ct f n) : ∃ m, ((List.range n).filter f)[k]? = some m ∧ m < n ∧ f m = true ∧ ct f m = k := by
  induction n with
  | zero => simp [ct] at h
  | succ n ih =>
    rw [List.range_succ, List.filter_append]
    by_cases hk : k < ct f n
    · obtain ⟨m, e, h1, h2, h3⟩ := ih hk
      exact ⟨m, by rw [List.getElem?_append_left (by rw [ct_lof]; exact hk)]; exact e, by omega, h2, h3⟩
    · cases hf : f n with
      | false => rw [ct_succ_f hf] at h; exact absurd h hk
      | true =>
        rw [ct_succ_t hf] at h
        have ek : k = ct f n := by omega
        refine ⟨n, ?_, by omega, hf, ek.symm⟩
        rw [List.getElem?_append_right (by rw [ct_lof]; omega), ct_lof, ek]
        simp [hf]
/-- sieves with something have an element of each index -/
theorem ct_pos {f : Nat → Bool} {p : Nat} (h : ∃ i, i < p ∧ f i = true) : 0 < ct f p := by
  obtain ⟨i, hi, e⟩ := h
  have := ct_lt e hi
  omega
theorem nth_ex {f : Nat → Bool} {p : Nat} (h : Per f p) (hp : 0 < ct f p) (i : Nat) : ∃ n, f n = true ∧ ct f n = i ∧ n / p = i / ct f p ∧ ct f (n % p) = i % ct f p ∧ n % p < p := by
  have hr : i % ct f p < ct f p := Nat.mod_lt _ hp
  obtain ⟨m, _, h1, h2, h3⟩ := filter_range hr
  have p0 : 0 < p := by omega
  refine ⟨i / ct f p * p + m, by rw [Nat.add_comm, h.mul]; exact h2, by rw [ct_mul h, h3, Nat.mul_comm, Nat.div_add_mod], ?_, ?_, Nat.mod_lt _ p0⟩
  · rw [Nat.mul_comm, Nat.mul_add_div p0, Nat.div_eq_of_lt h1, Nat.add_zero]
  · rw [Nat.mul_comm, Nat.mul_add_mod, Nat.mod_eq_of_lt h1, h3]
theorem marks_eq (l : List Bool) : marks l = (List.range l.length).filter (kp l) := by
  unfold marks
  apply List.filter_congr
  intro i hi
  have := List.mem_range.mp hi
  rw [kp_lt this, List.getD_eq_getElem?_getD, List.getElem?_eq_getElem this]; rfl
theorem marks_step {m : List Bool} {i : Nat} (h : i < m.length) : (List.range (i + 1)).filter (fun i => m.getD i false) = (List.range i).filter (fun i => m.getD i false) ++ if m[i] then [i] else [] := by
  rw [List.range_succ, List.filter_append]
  congr 1
  cases e : m[i] <;> simp [List.getElem?_eq_getElem h, e]
theorem marks_len (l : List Bool) : (marks l).length = ct (kp l) l.length := by rw [marks_eq, ct_lof]
theorem Pat.size {l : List Bool} (p : Pat l) : 0 < ct (kp l) l.length := ct_pos (plus_kp p.plus)
/-! ### composition -/
/-- what the second keeps of what the first keeps -/
def cmp (f g : Nat → Bool) (n : Nat) : Bool := f n && g (ct f n)
theorem ct_cmp (f g : Nat → Bool) (n : Nat) : ct (cmp f g) n = ct g (ct f n) := by
  induction n with
  | zero => rfl
  | succ n ih =>
    cases h : f n with
    | false => rw [ct_succ_f h, ← ih, ct_succ_f (by unfold cmp; rw [h]; rfl)]
    | true =>
      rw [ct_succ_t h]
      cases h2 : g (ct f n) with
      | false => rw [ct_succ_f h2, ← ih, ct_succ_f (by unfold cmp; rw [h, h2]; rfl)]
      | true => rw [ct_succ_t h2, ← ih, ct_succ_t (by unfold cmp; rw [h, h2]; rfl)]
theorem cmp_assoc (f g h : Nat → Bool) (n : Nat) : cmp (cmp f g) h n = cmp f (cmp g h) n := by
  show (cmp f g n && h (ct (cmp f g) n)) = (f n && (g (ct f n) && h (ct g (ct f n))))
  rw [ct_cmp]
  unfold cmp
  rw [Bool.and_assoc]
/-- lengths: p1 numbers of which s1 are kept; L is a multiple of s1 and of p2 -/
theorem cmp_per {f g : Nat → Bool} {p1 p2 L : Nat} (hf : Per f p1) (hg : Per g p2) (hs : 0 < ct f p1) (h1 : ct f p1 ∣ L) (h2 : p2 ∣ L) : Per (cmp f g) (p1 * (L / ct f p1)) := by
  intro n
  have e1 : Per f (p1 * (L / ct f p1)) := hf.dvd (Nat.dvd_mul_right _ _)
  have e2 : ct f (n + p1 * (L / ct f p1)) = ct f n + L := by
    have := ct_mul hf (L / ct f p1) n
    rw [Nat.mul_comm p1, Nat.add_comm n, this, Nat.div_mul_cancel h1, Nat.add_comm]
  show (f (n + _) && g (ct f (n + _))) = (f n && g (ct f n))
  rw [e1, e2, hg.dvd h2]
theorem ct_top {f : Nat → Bool} {p1 L : Nat} (hf : Per f p1) (h1 : ct f p1 ∣ L) : ct f (p1 * (L / ct f p1)) = L := by
  have := ct_mul hf (L / ct f p1) 0
  rw [Nat.add_zero] at this
  rw [Nat.mul_comm, this]
  show L / ct f p1 * ct f p1 + 0 = L
  rw [Nat.add_zero, Nat.div_mul_cancel h1]
/-- a number with f of each count -/
theorem nth_of {f : Nat → Bool} {p : Nat} (h : Per f p) (hp : 0 < ct f p) (i : Nat) : ∃ n, f n = true ∧ ct f n = i := by
  obtain ⟨n, a, b, _⟩ := nth_ex h hp i
  exact ⟨n, a, b⟩
theorem cmp_ex {f g : Nat → Bool} {p : Nat} (h : Per f p) (hp : 0 < ct f p) (hg : ∃ i, g i = true) : ∃ n, cmp f g n = true := by
  obtain ⟨i, hi⟩ := hg
  obtain ⟨n, a, b⟩ := nth_of h hp i
  exact ⟨n, by unfold cmp; rw [a, b, hi]; rfl⟩
/-- how many the composition keeps -/
theorem cmp_size {f g : Nat → Bool} {p1 p2 L : Nat} (hf : Per f p1) (hg : Per g p2) (h1 : ct f p1 ∣ L) (h2 : p2 ∣ L) : ct (cmp f g) (p1 * (L / ct f p1)) = L / p2 * ct g p2 := by
  rw [ct_cmp, ct_top hf h1]
  obtain ⟨q, rfl⟩ := h2
  have := ct_mul hg q 0
  rw [Nat.add_zero, Nat.mul_comm q] at this
  by_cases hp : 0 < p2
  · rw [this, Nat.mul_div_cancel_left q hp]; rfl
  · have : p2 = 0 := by omega
    subst this
    simp [ct]
/-! ### densities -/
theorem per_ratio {f : Nat → Bool} {a b : Nat} (ha : Per f a) (hb : Per f b) : ct f a * b = ct f b * a := by
  have e1 := ct_mul ha b 0
  have e2 := ct_mul hb a 0
  rw [Nat.add_zero] at e1 e2
  rw [Nat.mul_comm b a] at e1
  rw [e1] at e2
  have e3 : b * ct f a = a * ct f b := by simpa [ct] using e2
  rw [Nat.mul_comm, e3, Nat.mul_comm]
/-- the density of a composition is the product -/
theorem cmp_dens {f g : Nat → Bool} {p1 p2 p3 : Nat} (hf : Per f p1) (hg : Per g p2) (h3 : Per (cmp f g) p3) (hs : 0 < ct f p1) (h2 : 0 < p2) (h0 : 0 < p1) : ct f p1 * ct g p2 * p3 = p1 * p2 * ct (cmp f g) p3 := by
  -- over p1 * p2 numbers
  have hL1 : ct f p1 ∣ ct f p1 * p2 := Nat.dvd_mul_right _ _
  have hL2 : p2 ∣ ct f p1 * p2 := Nat.dvd_mul_left _ _
  have hP := cmp_per hf hg hs hL1 hL2
  have hS := cmp_size hf hg hL1 hL2
  rw [Nat.mul_div_cancel_left p2 hs] at hP hS
  rw [Nat.mul_div_cancel _ h2] at hS
  have e := per_ratio hP h3
  rw [hS] at e
  rw [e, Nat.mul_comm]
/-- reduced fractions multiply -/
theorem red_mul {s1 p1 s2 p2 s3 p3 g1 g2 g3 : Nat} (h : s1 * s2 * p3 = p1 * p2 * s3) (d1 : g1 ∣ s1) (e1 : g1 ∣ p1) (d2 : g2 ∣ s2) (e2 : g2 ∣ p2) (d3 : g3 ∣ s3) (e3 : g3 ∣ p3) (q1 : 0 < g1) (q2 : 0 < g2) (q3 : 0 < g3) :
    (s1 / g1) * (s2 / g2) * (p3 / g3) = (p1 / g1) * (p2 / g2) * (s3 / g3) := by
  obtain ⟨a1, rfl⟩ := d1
  obtain ⟨b1, rfl⟩ := e1
  obtain ⟨a2, rfl⟩ := d2
  obtain ⟨b2, rfl⟩ := e2
  obtain ⟨a3, rfl⟩ := d3
  obtain ⟨b3, rfl⟩ := e3
  rw [Nat.mul_div_cancel_left _ q1, Nat.mul_div_cancel_left _ q1, Nat.mul_div_cancel_left _ q2, Nat.mul_div_cancel_left _ q2, Nat.mul_div_cancel_left _ q3, Nat.mul_div_cancel_left _ q3]
  have q : 0 < g1 * g2 * g3 := Nat.mul_pos (Nat.mul_pos q1 q2) q3
  apply Nat.eq_of_mul_eq_mul_left q
  have l : g1 * g2 * g3 * (a1 * a2 * b3) = g1 * a1 * (g2 * a2) * (g3 * b3) := by
    simp only [Nat.mul_assoc, Nat.mul_comm, Nat.mul_left_comm]
  have r : g1 * g2 * g3 * (b1 * b2 * a3) = g1 * b1 * (g2 * b2) * (g3 * a3) := by
    simp only [Nat.mul_assoc, Nat.mul_comm, Nat.mul_left_comm]
  rw [l, r, h]
/-- the survivors of a composition -/
theorem cmp_nth {f g : Nat → Bool} {i a b c : Nat} (h1 : cmp f g a = true) (h2 : ct (cmp f g) a = i) (h3 : g b = true) (h4 : ct g b = i) (h5 : f c = true) (h6 : ct f c = b) : a = c := by
  have k1 : cmp f g c = true := by unfold cmp; rw [h5, h6, h3]; rfl
  have k2 : ct (cmp f g) c = i := by rw [ct_cmp, h6, h4]
  exact ct_inj h1 k1 (by rw [h2, k2])
theorem comp_small {l m : List Bool} {a b : Nat} (gl : Pat l) (gm : Pat m) (ha : l.length ≤ a) (hb : m.length ≤ b) (h1 : a * b ≤ 10000) (h2 : a * b < 4090) : l.length * (Nat.lcm (ct (kp l) l.length) m.length / ct (kp l) l.length) ≤ 10000 ∧ ct (kp m) (Nat.lcm (ct (kp l) l.length) m.length) < 4090 := by
  have s1 := gl.size
  have s2 := ct_le (kp l) l.length
  have hab : l.length * m.length ≤ a * b := Nat.mul_le_mul ha hb
  have hd : Nat.lcm (ct (kp l) l.length) m.length ∣ ct (kp l) l.length * m.length := Nat.lcm_dvd_mul _ _
  have hle : Nat.lcm (ct (kp l) l.length) m.length ≤ ct (kp l) l.length * m.length := Nat.le_of_dvd (Nat.mul_pos s1 gm.one) hd
  constructor
  · have h3 : Nat.lcm (ct (kp l) l.length) m.length / ct (kp l) l.length ≤ m.length := by
      refine Nat.div_le_of_le_mul hle
    have := Nat.mul_le_mul_left l.length h3
    omega
  · have h3 := ct_le (kp m) (Nat.lcm (ct (kp l) l.length) m.length)
    have := Nat.mul_le_mul_right m.length s2
    omega
theorem ct_true (n : Nat) : ct (fun _ => true) n = n := by
  induction n with
  | zero => rfl
  | succ n ih => rw [ct_succ, ih]; rfl
theorem cmp_top (f : Nat → Bool) : cmp (fun _ => true) f = f := funext fun n => by
  unfold cmp
  rw [ct_true]; rfl
theorem cmp_all (f : Nat → Bool) : cmp f (fun _ => true) = f := funext fun n => by
  unfold cmp
  exact Bool.and_true _
theorem cmp_assoc' (f g h : Nat → Bool) : cmp (cmp f g) h = cmp f (cmp g h) := funext fun n => cmp_assoc f g h n
theorem kp_one : kp [true] = fun _ => true := funext fun k => by
  unfold kp
  rw [show k % [true].length = 0 from Nat.mod_one k]; rfl
/-- a period of a composition, by those of the parts -/
theorem cmp_small {f g : Nat → Bool} {p q a b : Nat} (hf : Per f p) (hg : Per g q) (hs : 0 < ct f p) (h0 : 0 < q) (ha : p ≤ a) (hb : q ≤ b) : ∃ r, 0 < r ∧ r ≤ a * b ∧ Per (cmp f g) r := by
  have h1 : ct f p ∣ ct f p * q := Nat.dvd_mul_right _ _
  have h2 : q ∣ ct f p * q := Nat.dvd_mul_left _ _
  have hP := cmp_per hf hg hs h1 h2
  rw [Nat.mul_div_cancel_left q hs] at hP
  have hp : 0 < p := by
    by_cases z : p = 0
    · rw [z] at hs; simp [ct] at hs
    · omega
  exact ⟨p * q, Nat.mul_pos hp h0, Nat.mul_le_mul ha hb, hP⟩
theorem Good.le {l : List Bool} (g : Good l) {r : Nat} (h0 : 0 < r) (h : Per (kp l) r) : l.length ≤ r := Nat.le_of_dvd h0 (g.period h0 h)
theorem cmp_good {l m r : List Bool} (gl : Pat l) (gm : Pat m) (gr : Good r) (h : ∀ n, kp r n = cmp (kp l) (kp m) n) {a b : Nat} (ha : l.length ≤ a) (hb : m.length ≤ b) : r.length ≤ a * b := by
  obtain ⟨q, h0, h1, h2⟩ := cmp_small (kp_per l) (kp_per m) gl.size gm.one ha hb
  have e : kp r = cmp (kp l) (kp m) := funext h
  exact Nat.le_trans (gr.le h0 (by rw [e]; exact h2)) h1
end Sv

namespace Sv
open PySem PySem.Spec PyProof.Rows L2
section
variable {X : Cx} {σ : L2.St} {H : Hp} {Q : VK}
/-- s * n -/
def repS (x : Str) (n : Nat) : Str := ⟨(List.replicate n x.cps.toList).flatten.toArray⟩
theorem fold_rep (x : Array Nat) : ∀ (n : Nat) (a : Array Nat), ((List.replicate n x).foldl (· ++ ·) a).toList = a.toList ++ (List.replicate n x.toList).flatten
  | 0, a => by simp
  | n + 1, a => by
    rw [List.replicate_succ, List.foldl_cons, fold_rep x n (a ++ x), List.replicate_succ, List.flatten_cons, Array.toList_append, List.append_assoc]
theorem fold_repS (x : Str) (n : Nat) : (⟨(List.replicate n x.cps).foldl (· ++ ·) #[]⟩ : Str) = repS x n := by
  apply str_ext
  show ((List.replicate n x.cps).foldl (· ++ ·) #[]).toList = ((List.replicate n x.cps.toList).flatten.toArray).toList
  rw [fold_rep]
  simp
theorem b_mulS {x : Str} {n : Int} (h0 : 0 ≤ n) (hn : n ≤ 16777216) (hz : x.length * n.toNat ≤ 16777216) (q : Q (.str (repS x n.toNat)) H) : WB X (binaryOp .Mult) (.str x) (.int n) σ H Q := by
  refine ⟨fun pins s v u I rx ry => ?_⟩
  obtain ⟨t, rfl⟩ := rx
  obtain ⟨t', rfl⟩ := ry
  have hsz : (repS x n.toNat).length = x.length * n.toNat := by
    show ((List.replicate n.toNat x.cps.toList).flatten.toArray).size = x.cps.size * n.toNat
    simp [Nat.mul_comm]
  refine P.mul_str ?_ (fun h1 h2 h3 => ?_) (fun h1 h2 => ?_) ?_
  · have h1 : ¬ n < -(2 ^ 63 : Int) := by omega
    have h2 : ¬ n ≥ 2 ^ 63 := by omega
    rw [decide_eq_false h1, decide_eq_false h2]; rfl
  · have n1 : 1 ≤ n := by omega
    have h5 : (x.length : Int) ≤ 16777216 := by
      have : x.length ≤ x.length * n.toNat := Nat.le_mul_of_pos_right _ (by omega)
      omega
    have h4 : (1000000000 : Int) ≤ (2 ^ 63 - 1) / n := by
      rw [Int.le_ediv_iff_mul_le (by omega)]
      omega
    omega
  · show decide (x.length * n.toNat > sizeLine) = false
    rw [sizeLine_eq]
    exact decide_eq_false (by omega)
  · by_cases hc : n < 1
    · rw [if_pos hc]
      have e : n.toNat = 0 := by omega
      have e2 : repS x n.toNat = Str.empty := by rw [e]; rfl
      rw [e2] at q
      exact ⟨by show 0 ≤ sizeLine; decide, .str Str.empty, H, I.tok _, ⟨_, rfl⟩, q⟩
    · rw [if_neg hc]
      by_cases h2 : (n == 1 || x.length == 0) = true
      · rw [if_pos h2]
        have e2 : repS x n.toNat = x := by
          apply str_ext
          show ((List.replicate n.toNat x.cps.toList).flatten.toArray).toList = _
          rw [Bool.or_eq_true] at h2
          rcases h2 with h2 | h2
          · have : n = 1 := by simpa using h2
            rw [this]; simp
          · have h3 : x.length = 0 := by simpa using h2
            have e3 : x.cps = #[] := Array.eq_empty_of_size_eq_zero h3
            rw [e3]; simp
        rw [e2] at q
        exact ⟨.str x, H, I, ⟨_, rfl⟩, q⟩
      · rw [if_neg h2, fold_repS]
        exact ⟨by rw [hsz, sizeLine_eq]; exact hz, .str _, H, I.tok _, ⟨_, rfl⟩, q⟩
theorem rep_sOf (l : List Bool) (n : Nat) : repS (sOf l) n = sOf ((List.replicate n l).flatten) := by
  apply str_ext
  rw [sOf_list]
  show ((List.replicate n (sOf l).cps.toList).flatten.toArray).toList = _
  rw [sOf_list]
  simp
theorem cut_sOf (l : List Bool) (a b : Option Int) : cutS (sOf l) a b = sOf ((l.drop (HT.sIx l.length 0 a)).take (HT.sIx l.length l.length b - HT.sIx l.length 0 a)) := by
  apply str_ext
  rw [sOf_list]
  show (((sOf l).cps.toList.drop (HT.sIx (sOf l).length 0 a)).take (HT.sIx (sOf l).length (sOf l).length b - HT.sIx (sOf l).length 0 a)).toArray.toList = _
  rw [sOf_list, sOf_len]
  simp [List.map_take, List.map_drop]
theorem cut_to (l : List Bool) {d : Nat} {i : Int} (e : i = d) (h : d ≤ l.length) : cutS (sOf l) none (some i) = sOf (l.take d) := by
  rw [cut_sOf, e, HT.sIx_nat, HT.sIx_none]
  simp
  rw [Nat.min_eq_left h]
theorem cut_from (l : List Bool) {d : Nat} {i : Int} (e : i = d) (h : d ≤ l.length) : cutS (sOf l) (some i) none = sOf (l.drop d) := by
  rw [cut_sOf, e, HT.sIx_nat, HT.sIx_none, Nat.min_eq_left h]
  congr 1
  rw [List.take_of_length_le (by simp)]
/-- the sign at a place -/
theorem signAt_sOf {l : List Bool} {i : Nat} (h : i < l.length) : signAt (sOf l) i = .str ⟨#[sgn l[i]]⟩ := by
  unfold signAt
  rw [Array.getD_eq_getD_getElem?]
  have : (sOf l).cps[i]? = some (sgn l[i]) := by
    rw [← Array.getElem?_toList, sOf_list]
    simp [h]
  rw [this]; rfl
theorem sOf_at {l : List Bool} {i : Nat} {k : Int} (e : k = i) (h : i < l.length) : atI (sOf l).cps.toList k = some (sgn l[i]) := by
  unfold atI ixN
  rw [sOf_list, List.length_map, e, if_pos (by omega), if_pos (by omega)]
  simp [h]
theorem at_of {α : Type} {xs : List α} {i : Nat} {k : Int} {v : α} (e : k = i) (h : xs[i]? = some v) : atI xs k = some v := by
  have hi : i < xs.length := (List.getElem?_eq_some_iff.mp h).1
  unfold atI ixN
  rw [e, if_pos (by omega), if_pos (by omega)]
  simpa using h
theorem plus_str : ("+" : Str) = ⟨#[43]⟩ := by decide +kernel
theorem minus_str : ("-" : Str) = ⟨#[45]⟩ := by decide +kernel
theorem pm_str : ("+-" : Str) = ⟨#[43, 45]⟩ := by decide +kernel
theorem plus_sOf : ("+" : Str) = sOf [true] := by decide +kernel
theorem minus_sOf : ("-" : Str) = sOf [false] := by decide +kernel
theorem one_eq {a b : Nat} : decide ((⟨#[a]⟩ : Str) = ⟨#[b]⟩) = decide (a = b) := by
  by_cases h : a = b
  · rw [h]; simp
  · rw [decide_eq_false h]
    refine decide_eq_false fun e => h ?_
    have : (#[a] : Array Nat) = #[b] := congrArg Str.cps e
    simpa using this
theorem join_sOf (bs : List Bool) : Txt.join ("" : Str) (bs.map fun b => sOf [b]) = sOf bs := by
  have e0 : ("" : Str) = sOf [] := by decide +kernel
  show Builtin.Str.glued ("" : Str) _ = _
  rw [StrLaws.glued_eq_join]
  induction bs with
  | nil => rfl
  | cons b r ih =>
    cases r with
    | nil => rfl
    | cons c r =>
      show sOf [b] ++ ("" : Str) ++ Str.join ("" : Str) ((c :: r).map fun b => sOf [b]) = _
      rw [ih, e0, sOf_app, sOf_app]
      simp
theorem cnt_sgn (l : List Bool) : PyProof.Rows.cnt 43 (l.map sgn) = (l.countP (fun b => b) : Nat) := by
  induction l with
  | nil => rfl
  | cons b r ih =>
    rw [List.map_cons, cnt_cons, ih, List.countP_cons]
    cases b <;> simp [sgn] <;> omega
theorem countP_ct (l : List Bool) : l.countP (fun b => b) = ct (kp l) l.length := by
  have key : ∀ n, n ≤ l.length → (l.take n).countP (fun b => b) = ct (kp l) n := by
    intro n
    induction n with
    | zero => intro _; simp [ct]
    | succ n ih =>
      intro h
      rw [List.take_succ_eq_append_getElem (by omega), List.countP_append, ih (by omega), ct, kp_lt (show n < l.length by omega)]
      simp [List.countP_cons]
  have := key l.length (Nat.le_refl _)
  rwa [List.take_length] at this
theorem count_sOf (l : List Bool) : Txt.count (sOf l) ("+" : Str) = (l.countP (fun b => b) : Nat) := by
  rw [plus_str, count_cnt, sOf_list, cnt_sgn]
theorem countP_take {l : List Bool} {n : Nat} (h : n ≤ l.length) : (l.take n).countP (fun b => b) = ct (kp l) n := by
  rw [countP_ct]
  have e : (l.take n).length = n := by rw [List.length_take]; omega
  rw [e]
  exact ct_congr fun i hi => by rw [kp_lt (by omega), kp_lt (by omega), List.getElem_take]
end
end Sv

namespace Sv
open PySem PySem.Spec PyProof.Rows L2
section
variable {X : Cx} {N L S G B : List Str} {e e2 : Expr} {σ : L2.St} {H : Hp} {Q : VK} {p p2 pos : Pos} {x : Str}
theorem bt_all : bootBuiltins "all" = some (.builtin "all") := by decide +kernel
theorem bt_abs : bootBuiltins "abs" = some (.builtin "abs") := by decide +kernel
theorem bt_sum : bootBuiltins "sum" = some (.builtin "sum") := by decide +kernel
theorem bt_max : bootBuiltins "max" = some (.builtin "max") := by decide +kernel
theorem bt_min : bootBuiltins "min" = some (.builtin "min") := by decide +kernel
theorem bt_len : bootBuiltins "len" = some (.builtin "len") := by decide +kernel
theorem bt_int : bootBuiltins "int" = some (.type "int") := by decide +kernel
theorem bt_bool : bootBuiltins "bool" = some (.type "bool") := by decide +kernel
theorem bt_str : bootBuiltins "str" = some (.type "str") := by decide +kernel
theorem bt_set : bootBuiltins "set" = some (.type "set") := by decide +kernel
theorem bt_list : bootBuiltins "list" = some (.type "list") := by decide +kernel
theorem bt_tuple : bootBuiltins "tuple" = some (.type "tuple") := by decide +kernel
theorem bt_isi : bootBuiltins "isinstance" = some (.builtin "isinstance") := by decide +kernel
theorem bt_dm : bootBuiltins "divmod" = some (.builtin "divmod") := by decide +kernel
theorem x_len (c : Nm X N L S G B) (m : Mb "len" B) (h : WE X e σ H fun x H1 => ∃ n : Nat, LenV X.K x H1 n ∧ Q (.int n) H1) (hs : starEach [e] X.env = (false, eval e X.env) :: starEach [] X.env := by with_unfolding_all rfl) (hpl : (backTo pos (starEach [] X.env)).any (·.1) = false := by with_unfolding_all rfl) : WE X (.Call (.Name "len" p) [e] [] pos) σ H Q :=
  w_callB c m bt_len (wa_cons (WE.imp h fun x H1 ⟨n, l, q⟩ => wa_nil (c_len l q)) hs) hs hpl
theorem x_abs (c : Nm X N L S G B) (m : Mb "abs" B) (h : WE X e σ H fun x H1 => ∃ i, x = .int i ∧ Q (.int (if i < 0 then -i else i)) H1) (hs : starEach [e] X.env = (false, eval e X.env) :: starEach [] X.env := by with_unfolding_all rfl) (hpl : (backTo pos (starEach [] X.env)).any (·.1) = false := by with_unfolding_all rfl) : WE X (.Call (.Name "abs" p) [e] [] pos) σ H Q :=
  w_callB c m bt_abs (wa_cons (WE.imp h fun x H1 ⟨i, ex, q⟩ => wa_nil (by rw [ex]; exact c_abs q)) hs) hs hpl
theorem x_all (c : Nm X N L S G B) (m : Mb "all" B) (h : WE X e σ H fun x H1 => ∃ a, ∃ bs : List Bool, x = .ref a ∧ SqL X.K H1 a (bs.map V.bl) ∧ Q (.bl (bs.all fun k => k)) H1) (hs : starEach [e] X.env = (false, eval e X.env) :: starEach [] X.env := by with_unfolding_all rfl) (hpl : (backTo pos (starEach [] X.env)).any (·.1) = false := by with_unfolding_all rfl) : WE X (.Call (.Name "all" p) [e] [] pos) σ H Q :=
  w_callB c m bt_all (wa_cons (WE.imp h fun x H1 ⟨a, bs, ex, l, q⟩ => wa_nil (by rw [ex]; exact c_all c.calm l q)) hs) hs hpl
theorem x_sum (c : Nm X N L S G B) (m : Mb "sum" B) (h : WE X e σ H fun x H1 => ∃ a, ∃ ns : List Int, x = .ref a ∧ SqL X.K H1 a (ns.map V.int) ∧ Q (.int ns.sum) H1) (hs : starEach [e] X.env = (false, eval e X.env) :: starEach [] X.env := by with_unfolding_all rfl) (hpl : (backTo pos (starEach [] X.env)).any (·.1) = false := by with_unfolding_all rfl) : WE X (.Call (.Name "sum" p) [e] [] pos) σ H Q :=
  w_callB c m bt_sum (wa_cons (WE.imp h fun x H1 ⟨a, ns, ex, l, q⟩ => wa_nil (by rw [ex]; exact c_sum c.calm l q)) hs) hs hpl
theorem x_int (c : Nm X N L S G B) (m : Mb "int" B) (h : WE X e σ H fun x H1 => ∃ k, x = .bl k ∧ Q (.int (if k then 1 else 0)) H1) (hs : starEach [e] X.env = (false, eval e X.env) :: starEach [] X.env := by with_unfolding_all rfl) (hpl : (backTo pos (starEach [] X.env)).any (·.1) = false := by with_unfolding_all rfl) : WE X (.Call (.Name "int" p) [e] [] pos) σ H Q :=
  w_callTy c m bt_int (wa_cons (WE.imp h fun x H1 ⟨k, ex, q⟩ => wa_nil (by rw [ex]; exact c_intB q)) hs) hs hpl
theorem x_set (c : Nm X N L S G B) (m : Mb "set" B) (h : WE X e σ H fun x H1 => ∃ a, ∃ ns : List Int, x = .ref a ∧ SqL X.K H1 a (ns.map V.int) ∧ ns.length + 1 < scanBound ∧ ∀ p H' n, H1 p = none → Same H1 H' → H' p = some (SetI X.prog X.w p (fun k => ns.any (· == k)) n) → Q (.ref p) H') (hs : starEach [e] X.env = (false, eval e X.env) :: starEach [] X.env := by with_unfolding_all rfl) (hpl : (backTo pos (starEach [] X.env)).any (·.1) = false := by with_unfolding_all rfl) : WE X (.Call (.Name "set" p) [e] [] pos) σ H Q :=
  w_callTy c m bt_set (wa_cons (WE.imp h fun x H1 ⟨a, ns, ex, l, hz, q⟩ => wa_nil (by rw [ex]; exact c_set c.calm l hz q)) hs) hs hpl
theorem x_list (c : Nm X N L S G B) (m : Mb "list" B) (h : WE X e σ H fun x H1 => ∃ a xs, x = .ref a ∧ (SqL X.K H1 a xs ∨ SqT X.K H1 a xs) ∧ ∀ p H', H1 p = none → Same H1 H' → H' p = some (.lst xs) → Q (.ref p) H') (hs : starEach [e] X.env = (false, eval e X.env) :: starEach [] X.env := by with_unfolding_all rfl) (hpl : (backTo pos (starEach [] X.env)).any (·.1) = false := by with_unfolding_all rfl) : WE X (.Call (.Name "list" p) [e] [] pos) σ H Q :=
  w_callTy c m bt_list (wa_cons (WE.imp h fun x H1 ⟨a, xs, ex, l, q⟩ => wa_nil (by rw [ex]; exact c_list l q)) hs) hs hpl
theorem x_max (c : Nm X N L S G B) (m : Mb "max" B) (h : WE X e σ H fun x H1 => WE X e2 σ H1 fun y H2 => ∃ i j, x = .int i ∧ y = .int j ∧ Q (.int (if j > i then j else i)) H2) (hs : starEach [e, e2] X.env = (false, eval e X.env) :: starEach [e2] X.env := by with_unfolding_all rfl) (hs2 : starEach [e2] X.env = (false, eval e2 X.env) :: starEach [] X.env := by with_unfolding_all rfl) (hpl : (backTo pos (starEach [e2] X.env)).any (·.1) = false := by with_unfolding_all rfl) : WE X (.Call (.Name "max" p) [e, e2] [] pos) σ H Q :=
  w_callB c m bt_max (wa_cons (WE.imp h fun x H1 h2 => wa_cons (WE.imp h2 fun y H2 ⟨i, j, e1, e3, q⟩ => wa_nil (by rw [e1, e3]; exact c_max c.calm q)) hs2) hs) hs hpl
theorem x_min (c : Nm X N L S G B) (m : Mb "min" B) (h : WE X e σ H fun x H1 => WE X e2 σ H1 fun y H2 => ∃ i j, x = .int i ∧ y = .int j ∧ Q (.int (if j < i then j else i)) H2) (hs : starEach [e, e2] X.env = (false, eval e X.env) :: starEach [e2] X.env := by with_unfolding_all rfl) (hs2 : starEach [e2] X.env = (false, eval e2 X.env) :: starEach [] X.env := by with_unfolding_all rfl) (hpl : (backTo pos (starEach [e2] X.env)).any (·.1) = false := by with_unfolding_all rfl) : WE X (.Call (.Name "min" p) [e, e2] [] pos) σ H Q :=
  w_callB c m bt_min (wa_cons (WE.imp h fun x H1 h2 => wa_cons (WE.imp h2 fun y H2 ⟨i, j, e1, e3, q⟩ => wa_nil (by rw [e1, e3]; exact c_min c.calm q)) hs2) hs) hs hpl
theorem x_dm (c : Nm X N L S G B) (m : Mb "divmod" B) (h : WE X e σ H fun x H1 => WE X e2 σ H1 fun y H2 => ∃ i j, x = .int i ∧ y = .int j ∧ (0 < j ∧ j < 1073741824) ∧ ∀ p H', H2 p = none → Same H2 H' → H' p = some (.tup [.int (i / j), .int (i % j)]) → Q (.ref p) H') (hs : starEach [e, e2] X.env = (false, eval e X.env) :: starEach [e2] X.env := by with_unfolding_all rfl) (hs2 : starEach [e2] X.env = (false, eval e2 X.env) :: starEach [] X.env := by with_unfolding_all rfl) (hpl : (backTo pos (starEach [e2] X.env)).any (·.1) = false := by with_unfolding_all rfl) : WE X (.Call (.Name "divmod" p) [e, e2] [] pos) σ H Q :=
  w_callB c m bt_dm (wa_cons (WE.imp h fun x H1 h2 => wa_cons (WE.imp h2 fun y H2 ⟨i, j, e1, e3, hj, q⟩ => wa_nil (by rw [e1, e3]; exact c_divmod hj q)) hs2) hs) hs hpl
/-- isinstance(e, T), T built in -/
theorem x_isi {T : String} (c : Nm X N L S G B) (m : Mb "isinstance" B) (m2 : Mb x B) (hT : bootBuiltins x = some (.type T)) (h : WE X e σ H fun y H1 => ∃ t b, TyX X.K H1 y t ∧ PySem.W.kitOne X.K t (.type T) = some b ∧ Q (.bl b) H1) (hs : starEach [e, .Name x p2] X.env = (false, eval e X.env) :: starEach [.Name x p2] X.env := by with_unfolding_all rfl) (hs2 : starEach [.Name x p2] X.env = (false, eval (.Name x p2) X.env) :: starEach [] X.env := by with_unfolding_all rfl) (hpl : (backTo pos (starEach [.Name x p2] X.env)).any (·.1) = false := by with_unfolding_all rfl) : WE X (.Call (.Name "isinstance" p) [e, .Name x p2] [] pos) σ H Q :=
  w_callB c m bt_isi (wa_cons (WE.imp h fun y H1 ⟨t, b, ht, hk, q⟩ => wa_cons (w_bname (v := .ty T) c m2 hT rfl (wa_nil (c_isi (.ty T) ht hk q))) hs2) hs) hs hpl
/-- isinstance(e, C), C the text's own -/
theorem x_isiC {C : Addr} (c : Nm X N L S G B) (m : Mb "isinstance" B) (m2 : Mb x G) (hC : X.mg x = some (.ref C)) (h : WE X e σ H fun y H1 => ∃ t b, TyX X.K H1 y t ∧ PySem.W.kitOne X.K t (.ref C) = some b ∧ Q (.bl b) H1) (hs : starEach [e, .Name x p2] X.env = (false, eval e X.env) :: starEach [.Name x p2] X.env := by with_unfolding_all rfl) (hs2 : starEach [.Name x p2] X.env = (false, eval (.Name x p2) X.env) :: starEach [] X.env := by with_unfolding_all rfl) (hpl : (backTo pos (starEach [.Name x p2] X.env)).any (·.1) = false := by with_unfolding_all rfl) : WE X (.Call (.Name "isinstance" p) [e, .Name x p2] [] pos) σ H Q :=
  w_callB c m bt_isi (wa_cons (WE.imp h fun y H1 ⟨t, b, ht, hk, q⟩ => wa_cons (w_gname (v := .ref C) c m2 hC rfl (wa_nil (c_isi (.own C) ht hk q))) hs2) hs) hs hpl
theorem tru_bl {K : PySem.W.Frag} {H : Hp} {b : Bool} : TruV K (.bl b) H b := rfl
theorem ite_t {A B : Prop} (h : A) : if true = true then A else B := by rw [if_pos rfl]; exact h
theorem ite_nf {A B : Prop} (h : A) : if (!false) = true then A else B := h
theorem ite_nt {A B : Prop} (h : B) : if (!true) = true then A else B := h
theorem ite_f {A B : Prop} (h : B) : if false = true then A else B := by rw [if_neg (by decide)]; exact h
/-- the kinds of simple values, asked with isinstance -/
theorem kit_self {K : PySem.W.Frag} {t : String} : PySem.W.kitOne K (.type t) (.type t) = some true := by
  unfold PySem.W.kitOne
  rw [if_pos (beq_self_eq_true _)]
theorem kit_own {K : PySem.W.Frag} {C : Addr} : PySem.W.kitOne K (.ref C) (.ref C) = some true := by
  unfold PySem.W.kitOne
  rw [if_pos (beq_self_eq_true _)]
theorem kit_int_bool {K : PySem.W.Frag} : PySem.W.kitOne K (.type "int") (.type "bool") = some false := by
  unfold PySem.W.kitOne
  rw [if_neg (by decide)]
  kernel_rfl
theorem kit_bool_int {K : PySem.W.Frag} : PySem.W.kitOne K (.type "bool") (.type "int") = some true := by
  unfold PySem.W.kitOne
  rw [if_neg (by decide)]
  kernel_rfl
theorem kit_str_int {K : PySem.W.Frag} : PySem.W.kitOne K (.type "str") (.type "int") = some false := by
  unfold PySem.W.kitOne
  rw [if_neg (by decide)]
  kernel_rfl
theorem kit_int_str {K : PySem.W.Frag} : PySem.W.kitOne K (.type "int") (.type "str") = some false := by
  unfold PySem.W.kitOne
  rw [if_neg (by decide)]
  kernel_rfl
theorem tInt {K : PySem.W.Frag} {H : Hp} {i : Int} : TyX K H (.int i) (.type "int") := .base (.int i)
theorem tBl {K : PySem.W.Frag} {H : Hp} {i : Bool} : TyX K H (.bl i) (.type "bool") := .base (.bl i)
theorem tStr {K : PySem.W.Frag} {H : Hp} {i : Str} : TyX K H (.str i) (.type "str") := .base (.str i)
end
section
variable {P : Program} {w : World} {K : PySem.W.Frag} {mg : Str → Option Value} {base : Heap} {CX : CXT} {k : Nat} {f : Addr} {sp sp' : Sp}
theorem fnr_or (F : FnR P w K mg base CX k f sp) (F' : FnR P w K mg base CX k f sp') : FnR P w K mg base CX k f fun vs H Q E => sp vs H Q E ∨ sp' vs H Q E := fun A outer s H us vs Q E hr e0 r hs => by
  rcases hs with h | h
  · exact F A outer s H us vs Q E hr e0 r h
  · exact F' A outer s H us vs Q E hr e0 r h
theorem wl_start {X : Cx} {sts : List Stmt} {D : Ends} {σ σ' : L2.St} {H : Hp} (e : σ = σ') (h : WL X sts D σ' H) : WL X sts D σ H := e ▸ h
end
end Sv
namespace Sv
open PySem PySem.Spec PyProof.Rows L2
/-! guards: what kind of goal -/
section
variable {X : Cx} {e : Expr} {st : Stmt} {sts : List Stmt} {es : List Expr} {σ : L2.St} {H : Hp} {Q : VK} {D : Ends} {T : Bool → Hp → Prop} {R : List V → Hp → Prop} {v x y : V} {G : L2.St → Hp → Prop} {F : Value → Value → Sem Value} {U : Value → Sem Value}
theorem gWE (h : WE X e σ H Q) : WE X e σ H Q := h
theorem gWT (h : WT X e σ H T) : WT X e σ H T := h
theorem gWW (h : WW X e σ H T) : WW X e σ H T := h
theorem gWA (h : WA X es σ H R) : WA X es σ H R := h
theorem gWS (h : WS X st D σ H) : WS X st D σ H := h
theorem gWL (h : WL X sts D σ H) : WL X sts D σ H := h
theorem gWG (h : WG X e v σ H G) : WG X e v σ H G := h
theorem gWGs {vs : List V} (h : WGs X es vs σ H G) : WGs X es vs σ H G := h
theorem gWB (h : WB X F x y σ H Q) : WB X F x y σ H Q := h
theorem gWU (h : WU X U x σ H Q) : WU X U x σ H Q := h
theorem gBo {o : Operator} {x y : V} (h : WB X (binaryOp o) x y σ H Q) : WB X (binaryOp o) x y σ H Q := h
theorem gCo {o : CmpOp} {x y : V} (h : WB X (compareOp o) x y σ H Q) : WB X (compareOp o) x y σ H Q := h
theorem gCall {f : Expr} {es : List Expr} {ks : List Keyword} {p : Pos} (h : WE X (.Call f es ks p) σ H Q) : WE X (.Call f es ks p) σ H Q := h
theorem gNm {x : Str} {p : Pos} (h : WE X (.Name x p) σ H Q) : WE X (.Name x p) σ H Q := h
theorem gCn {c : Const} {j : Nat} {p : Pos} (h : WE X (.Constant c j p) σ H Q) : WE X (.Constant c j p) σ H Q := h
end
section
variable {X : Cx} {σ : L2.St} {H : Hp} {Q : VK}
theorem w_gref {N L S G B : List Str} {x : Str} {pos : Pos} {C : Addr} (c : Nm X N L S G B) (m : Mb x G) (hm : X.mg x = some (.ref C)) (q : Q (.ref C) H) : WE X (.Name x pos) σ H Q := w_gname (v := .ref C) c m hm rfl q
/-- "+" in a pattern -/
theorem b_inPlus {l : List Bool} (q : Q (.bl (decide (true ∈ l))) H) : WB X (compareOp .In) (.str "+") (.str (sOf l)) σ H Q := by
  rw [plus_str]
  refine b_inS ?_
  rw [sOf_list]
  have e : decide (43 ∈ l.map sgn) = decide (true ∈ l) := by
    by_cases h : true ∈ l
    · rw [decide_eq_true h, decide_eq_true (mem_plus.mpr h)]
    · rw [decide_eq_false h, decide_eq_false (fun z => h (mem_plus.mp z))]
  rw [e]
  exact q
theorem b_inPM {b : Bool} (q : Q (.bl true) H) : WB X (compareOp .In) (.str ⟨#[sgn b]⟩) (.str "+-") σ H Q := by
  rw [pm_str]
  refine b_inS ?_
  cases b <;> exact q
/-- a sign == "+" -/
theorem b_eqPlus {b : Bool} (q : Q (.bl b) H) : WB X (compareOp .Eq) (.str ⟨#[sgn b]⟩) (.str "+") σ H Q := by
  refine b_eqS ?_
  rw [plus_str, one_eq, sgn_dec]
  exact q
theorem dec_plus {b : Bool} : decide ((⟨#[sgn b]⟩ : Str) = "+") = b := by rw [plus_str, one_eq, sgn_dec]
end
/-! ### loops that change what stands: only the walked is asked to stand -/
/-- a heap that tells p alone -/
def one (H : Hp) (p : Addr) : Hp := fun b => if b = p then H p else none
theorem one_same {H H' : Hp} {p : Addr} (h : ∀ o, H p = some o → H' p = some o) : Same (one H p) H' := fun b o e => by
  unfold one at e
  by_cases z : b = p
  · rw [if_pos z] at e
    rw [z]
    exact h o e
  · rw [if_neg z] at e
    cases e
theorem one_at {H : Hp} {p : Addr} {o : HO} (h : H p = some o) : one H p p = some o := by
  unfold one
  rw [if_pos rfl, h]
theorem none_same {H' : Hp} : Same (fun _ => none) H' := fun b o e => nomatch e
section
variable {X : Cx} {N L S G B : List Str} {tg iter c : Expr} {body : List Stmt} {σ : L2.St} {H : Hp} {D : Ends} {pos : Pos}
theorem ws_forM (hp : PassesOwn (model X.prog X.w) X.A X.env X.xe) (hc : Nm X N L S G B)
    (h : WI X tg iter σ H fun J H1 => ∃ n it Hw, Wlk J n it Hw ∧ ∃ Pv : Nat → L2.St → Hp → Prop, Pv 0 σ H1 ∧ (∀ i σ' H', Pv i σ' H' → Same Hw H') ∧
      (∀ i σ' H', i < n → Pv i σ' H' → WG X tg (it i) σ' H' fun σ2 H2 => WL X body { D with nx := Pv (i + 1), ct := Pv (i + 1), bk := D.nx } σ2 H2) ∧ ∀ σ' H', Pv n σ' H' → D.nx σ' H')
    (hs : ∀ x, foldedSetIterable iter X.env x = pure x := by intro _; with_unfolding_all rfl) : WS X (.For tg iter body [] pos) D σ H := by
  refine (ps_for hp hc.calm pi_w pg_w pss_w hs).w ?_
  refine ⟨fun pins s I => thn (h.run pins s I) fun v s1 h1 => thn h1 fun itv s2 ⟨it, fp, tn, J, H', e, I', T, t0, hf, n, itm, Hw, W, Pv, p0, hsm, hst, hd⟩ => ⟨it, fp, tn, J, H', e, I', T, t0, hf, ?_⟩⟩
  refine ⟨fun i m σ' H'' => m = n - i ∧ i ≤ n ∧ Pv i σ' H'', ⟨n, by simp, Nat.zero_le _, p0⟩, ?_⟩
  rintro i m σ' H'' ⟨rfl, hi, p⟩
  by_cases hlt : i < n
  · refine .inr ⟨W.go i H'' hlt (hsm _ _ _ p), Pv (i + 1), fun σ2 H2 p' => ⟨n - (i + 1), by omega, rfl, hlt, p'⟩, fun x H3 y => ?_⟩
    obtain ⟨rfl, rfl⟩ := W.yld i H'' x H3 hlt (hsm _ _ _ p) y
    exact hst i σ' _ hlt p
  · have e : i = n := by omega
    subst e
    exact .inl ⟨W.stop _ _ (Nat.le_refl _) (hsm _ _ _ p), hd _ _ p⟩
end
section
variable {X : Cx} {N L S G B : List Str} {σ : L2.St} {H : Hp} {D : Ends} {pos : Pos}
/-- a, b, c = e, f, g with plain local names -/
theorem ws_par3 {x y z : Str} {ea eb ec : Expr} {px py pz pt : Pos} {kt k2 pt2} (c : Nm X N L S G B) (hx : X.env.scope.names.lookup x = some .local) (hy : X.env.scope.names.lookup y = some .local) (hz : X.env.scope.names.lookup z = some .local)
    (h : WE X ea σ H fun v H1 => WE X eb σ H1 fun w H2 => WE X ec σ H2 fun u H3 => ∃ σ1 σ2 σ3, Put N σ x v σ1 ∧ Put N σ1 y w σ2 ∧ Put N σ2 z u σ3 ∧ D.nx σ3 H3)
    (hw : swappedStores [.Tuple [.Name x px, .Name y py, .Name z pz] kt pt] (.Tuple [ea, eb, ec] k2 pt2) X.env = pure (some [x, y, z]))
    (hs : swapsWithSole [.Tuple [.Name x px, .Name y py, .Name z pz] kt pt] (.Tuple [ea, eb, ec] k2 pt2) pos.line X.env = pure false := by with_unfolding_all rfl)
    (h1 : starEach [ea, eb, ec] X.env = (false, eval ea X.env) :: starEach [eb, ec] X.env := by with_unfolding_all rfl) (h2 : starEach [eb, ec] X.env = (false, eval eb X.env) :: starEach [ec] X.env := by with_unfolding_all rfl) (h3 : starEach [ec] X.env = (false, eval ec X.env) :: starEach [] X.env := by with_unfolding_all rfl)
    (ix : ∃ i j l : Nat, N[i]? = some x ∧ N[j]? = some y ∧ N[l]? = some z ∧ i ≠ j ∧ i ≠ l ∧ j ≠ l) :
    WS X (.Assign [.Tuple [.Name x px, .Name y py, .Name z pz] kt pt] (.Tuple [ea, eb, ec] k2 pt2) pos) D σ H := by
  obtain ⟨i, j, l, hi, hj, hl, n1, n2, n3⟩ := ix
  have nd : X.N.Nodup := by rw [c.names]; exact c.nd
  have hi' : X.N[i]? = some x := by rw [c.names]; exact hi
  have hj' : X.N[j]? = some y := by rw [c.names]; exact hj
  have hl' : X.N[l]? = some z := by rw [c.names]; exact hl
  refine (L2.ps_par3 c.calm nd hi' hj' hl' n1 n2 n3 hx hy hz (pa_cons pe_w (pa_cons pe_w (pa_cons pe_w pa_nil h3) h2) h1) hw hs).w ?_
  refine WE.imp h fun v H1 h1 => WE.imp h1 fun w H2 h2 => WE.imp h2 fun u H3 ⟨σ1, σ2, σ3, p1, p2, p3, q⟩ => ⟨v, w, u, rfl, ?_⟩
  obtain ⟨i', hi2, rfl⟩ := p1.ix
  obtain ⟨j', hj2, rfl⟩ := p2.ix
  obtain ⟨l', hl2, rfl⟩ := p3.ix
  have ei : i' = i := nodup_ix nd (by rw [c.names]; exact hi2) hi'
  have ej : j' = j := nodup_ix nd (by rw [c.names]; exact hj2) hj'
  have el : l' = l := nodup_ix nd (by rw [c.names]; exact hl2) hl'
  subst ei ej el
  exact q
end
/-! ### comprehensions whose items are new objects -/
theorem lc_ofH {X : Cx} {N L S G B : List Str} {tg elt iter : Expr} {ifs : List Expr} {scope : Scope} {own : List (Str × Nat)} {σ : L2.St} {H : Hp} {Q : VK} (c : Nm X N L S G B) (P : Nat → List V → Hp → Prop)
    (h : WI X tg iter σ H fun J H1 => ∃ n it, Wlk J n it H1 ∧ n < sizeLine ∧ (∀ D, H1 D = none → P 0 [] (upd H1 D (.lst []))) ∧ (∀ i acc acc' H' D, i < n → H1 D = none → Same H1 H' → H' D = some (.lst acc') → P i acc' H' → P (i + 1) acc H' → P (i + 1) acc (upd H' D (.lst acc))) ∧
      (∀ i acc H', i < n → acc.length ≤ i → P i acc H' → Same H1 H' → WGb X scope tg (it i) (wipe σ (own.map (·.2))) H' fun σ2 H2 => H2 = H' ∧ wipe σ2 (own.map (·.2)) = wipe σ (own.map (·.2)) ∧ WTb X scope ifs σ2 H2 fun k H3 => Same H2 H3 ∧
        if k = true then WEb X scope elt σ2 H3 fun y H4 => Same H3 H4 ∧ P i acc H4 ∧ P (i + 1) (acc ++ [y]) H4 else P (i + 1) acc H3) ∧
      ∀ acc D H', acc.length ≤ n → P n acc H' → H1 D = none → Same H1 H' → H' D = some (.lst acc) → Q (.ref D) H') :
    tLc (WI X tg iter) (WGb X scope tg) (WTb X scope ifs) (WEb X scope elt) (own.map (·.2)) σ H Q := by
  refine ⟨fun pins s I => thn (h.run pins s I) fun v s1 h1 => thn h1 fun itv s2 ⟨it, fp, tn, J, H1, e, I', T, t0, hf, n, itm, W, hz, p0, hfr, hst, hd⟩ => ⟨it, fp, tn, J, H1, e, I', T, t0, hf, fun D hD => ?_⟩⟩
  refine ⟨fun i m H' => m = n - i ∧ i ≤ n ∧ ∃ acc, acc.length ≤ i ∧ P i acc H' ∧ Same H1 H' ∧ H' D = some (.lst acc), ⟨n, by simp, Nat.zero_le _, [], Nat.le_refl _, p0 D hD, same_new hD, upd_same⟩, ?_⟩
  rintro i m H' ⟨rfl, hi, acc, hl, hp, hsm, hDa⟩
  by_cases hlt : i < n
  · refine .inr ⟨W.go i H' hlt hsm, fun H2 => i + 1 ≤ n ∧ ∃ acc, acc.length ≤ i + 1 ∧ P (i + 1) acc H2 ∧ Same H1 H2 ∧ H2 D = some (.lst acc), fun H2 q => ⟨n - (i + 1), by omega, rfl, q⟩, fun x H3 y => ?_⟩
    obtain ⟨rfl, rfl⟩ := W.yld i H' x H3 hlt hsm y
    intro X' bX
    refine ⟨fun pins' s' u I' r => thn ((hst i acc H3 hlt hl hp hsm X' bX).run pins' s' u I' r) fun _ s2 ⟨σ2, H2, I2, e2, ew, q2⟩ => ⟨σ2, H2, I2, ew, fun X2 b2 => ?_⟩⟩
    subst e2
    refine ⟨fun pins3 s3 I3 => thn ((q2 X2 b2).run pins3 s3 I3) fun k s4 ⟨H4, I4, e4, q4⟩ => ⟨H4, I4, ?_⟩⟩
    cases k with
    | false =>
      rw [if_neg (by decide)] at q4 ⊢
      exact ⟨hlt, acc, Nat.le_succ_of_le hl, q4, hsm.trans e4, e4 _ _ hDa⟩
    | true =>
      rw [if_pos rfl] at q4 ⊢
      intro X5 b5
      refine WE.imp (q4 X5 b5) fun y H5 ⟨e5, q50, q5⟩ => ⟨acc, e5 _ _ (e4 _ _ hDa), by omega, hlt, acc ++ [y], by rw [List.length_append]; show acc.length + 1 ≤ i + 1; omega, hfr i _ _ _ _ hlt hD (hsm.trans (e4.trans e5)) (e5 _ _ (e4 _ _ hDa)) q50 q5, same_mut (hsm.trans (e4.trans e5)) hD, upd_same⟩
  · have e : i = n := by omega
    subst e
    exact .inl ⟨W.stop _ _ (Nat.le_refl _) hsm, hd acc D H' hl hp hD hsm hDa⟩
theorem w_lcH {X : Cx} {N L S G B : List Str} {tg elt iter : Expr} {ifs : List Expr} {scope : Scope} {own : List (Str × Nat)} {σ : L2.St} {H : Hp} {Q : VK} {pos : Pos} (c : Nm X N L S G B) (ok : blkC N X.env.scope scope own = true) (P : Nat → List V → Hp → Prop)
    (h : WI X tg iter σ H fun J H1 => ∃ n it, Wlk J n it H1 ∧ n < sizeLine ∧ (∀ D, H1 D = none → P 0 [] (upd H1 D (.lst []))) ∧ (∀ i acc acc' H' D, i < n → H1 D = none → Same H1 H' → H' D = some (.lst acc') → P i acc' H' → P (i + 1) acc H' → P (i + 1) acc (upd H' D (.lst acc))) ∧
      (∀ i acc H', i < n → acc.length ≤ i → P i acc H' → Same H1 H' → WGb X scope tg (it i) (wipe σ (own.map (·.2))) H' fun σ2 H2 => H2 = H' ∧ wipe σ2 (own.map (·.2)) = wipe σ (own.map (·.2)) ∧ WTb X scope ifs σ2 H2 fun k H3 => Same H2 H3 ∧
        if k = true then WEb X scope elt σ2 H3 fun y H4 => Same H3 H4 ∧ P i acc H4 ∧ P (i + 1) (acc ++ [y]) H4 else P (i + 1) acc H3) ∧
      ∀ acc D H', acc.length ≤ n → P n acc H' → H1 D = none → Same H1 H' → H' D = some (.lst acc) → Q (.ref D) H')
    (hs : ∀ x, foldedSetIterable iter X.env x = pure x := by intro _; with_unfolding_all rfl) : WE X (.ListComp elt [⟨tg, iter, ifs, 0⟩] scope pos) σ H Q := by
  have hN : X.N.Nodup := by rw [c.names]; exact c.nd
  have ok' : BlkOk X.N X.env.scope scope own := by rw [c.names]; exact blkOk_by ok
  have p := pe_lc (X := X) (pos := pos) (g := WGb X scope tg) (tt := WTb X scope ifs) (te := WEb X scope elt) c.calm hN (pi_w (X := X) (tg := tg) (iter := iter)) ok'
    (fun s H C cl fp => ⟨fun pins s1 σ1 H1 v u R I r q => (q _ ⟨s, H, C, cl, fp, rfl⟩).run pins s1 u I r⟩)
    (fun s H C cl fp => ⟨fun pins s1 σ1 H1 R I q => (q _ ⟨s, H, C, cl, fp, rfl⟩).run pins s1 I⟩)
    (fun s H C cl fp => ⟨fun pins s1 σ1 H1 R I q => (q _ ⟨s, H, C, cl, fp, rfl⟩).run pins s1 I⟩) hs
  exact p.w (lc_ofH c P h)
theorem ws_setLcH {y : Str} {py spos : Pos} {D0 : Ends} {X : Cx} {N L S G B : List Str} {tg elt iter : Expr} {ifs : List Expr} {scope : Scope} {own : List (Str × Nat)} {σ : L2.St} {H : Hp} {pos : Pos} (c : Nm X N L S G B) (ok : blkC N X.env.scope scope own = true) (P : Nat → List V → Hp → Prop)
    (h : WI X tg iter σ H fun J H1 => ∃ n it, Wlk J n it H1 ∧ n < sizeLine ∧ (∀ D, H1 D = none → P 0 [] (upd H1 D (.lst []))) ∧ (∀ i acc acc' H' D, i < n → H1 D = none → Same H1 H' → H' D = some (.lst acc') → P i acc' H' → P (i + 1) acc H' → P (i + 1) acc (upd H' D (.lst acc))) ∧
      (∀ i acc H', i < n → acc.length ≤ i → P i acc H' → Same H1 H' → WGb X scope tg (it i) (wipe σ (own.map (·.2))) H' fun σ2 H2 => H2 = H' ∧ wipe σ2 (own.map (·.2)) = wipe σ (own.map (·.2)) ∧ WTb X scope ifs σ2 H2 fun k H3 => Same H2 H3 ∧
        if k = true then WEb X scope elt σ2 H3 fun y H4 => Same H3 H4 ∧ P i acc H4 ∧ P (i + 1) (acc ++ [y]) H4 else P (i + 1) acc H3) ∧
      ∀ acc D H', acc.length ≤ n → P n acc H' → H1 D = none → Same H1 H' → H' D = some (.lst acc) → ∃ σ', Put N σ y (.ref D) σ' ∧ D0.nx σ' H')
    (hyl : X.env.scope.names.lookup y = some .local) (hsw : swapsWith (.ListComp elt [⟨tg, iter, ifs, 0⟩] scope pos) (some (.Name y py)) spos.line X.env = pure true)
    (hs : ∀ x, foldedSetIterable iter X.env x = pure x := by intro _; with_unfolding_all rfl) (iy : ∃ i : Nat, N[i]? = some y) : WS X (.Assign [.Name y py] (.ListComp elt [⟨tg, iter, ifs, 0⟩] scope pos) spos) D0 σ H := by
  have hN : X.N.Nodup := by rw [c.names]; exact c.nd
  have ok' : BlkOk X.N X.env.scope scope own := by rw [c.names]; exact blkOk_by ok
  obtain ⟨i, hi⟩ := iy
  have hi' : X.N[i]? = some y := by rw [c.names]; exact hi
  have p := ps_setLc (X := X) (pos := pos) (spos := spos) (py := py) (g := WGb X scope tg) (tt := WTb X scope ifs) (te := WEb X scope elt) c.calm hN hi' hyl hsw (pi_w (X := X) (tg := tg) (iter := iter)) ok'
    (fun s H C cl fp => ⟨fun pins s1 σ1 H1 v u R I r q => (q _ ⟨s, H, C, cl, fp, rfl⟩).run pins s1 u I r⟩)
    (fun s H C cl fp => ⟨fun pins s1 σ1 H1 R I q => (q _ ⟨s, H, C, cl, fp, rfl⟩).run pins s1 I⟩)
    (fun s H C cl fp => ⟨fun pins s1 σ1 H1 R I q => (q _ ⟨s, H, C, cl, fp, rfl⟩).run pins s1 I⟩) hs
  refine p.w ?_
  refine lc_ofH (Q := fun v H1 => D0.nx (σ.set i (some v)) H1) c P ⟨fun pins s I => thn (h.run pins s I) fun v s1 h1 => thn h1 fun itv s2 ⟨it, fp, tn, J, H1, e, I', T, t0, hf, n, itm, W, hz, p0, hfr, hst, hd⟩ => ⟨it, fp, tn, J, H1, e, I', T, t0, hf, n, itm, W, hz, p0, hfr, hst, fun acc D H' h1 h2 h3 h4 h5 => ?_⟩⟩
  obtain ⟨σ', hp, q⟩ := hd acc D H' h1 h2 h3 h4 h5
  obtain ⟨i', hi2, rfl⟩ := hp.ix
  have ei : i' = i := nodup_ix hN (by rw [c.names]; exact hi2) hi'
  rw [← ei]
  exact q
end Sv

namespace Sv
open PySem PySem.Spec PyProof.Rows L2
section
variable {X : Cx} {σ : L2.St} {H : Hp} {Q : VK}
theorem b_gtB {x y : Bool} (q : Q (.bl (x && !y)) H) : WB X (compareOp .Gt) (.bl x) (.bl y) σ H Q := by
  refine ⟨fun pins s v u I rx ry => ?_⟩
  obtain rfl : v = Value.bool x := rx
  obtain rfl : u = Value.bool y := ry
  refine gt_bool ?_
  have e : decide (b2i x > b2i y) = (x && !y) := by cases x <;> cases y <;> rfl
  rw [e]
  exact ⟨.bl (x && !y), H, I, rfl, q⟩
end
/-- the numbers below p with f -/
def sel (f : Nat → Bool) (p : Nat) : List Nat := (List.range p).filter f
theorem sel_step (f : Nat → Bool) (i : Nat) : sel f (i + 1) = sel f i ++ if f i then [i] else [] := by
  unfold sel
  rw [List.range_succ, List.filter_append]
  congr 1
  cases h : f i <;> simp [h]
theorem sel_len (f : Nat → Bool) (p : Nat) : (sel f p).length = ct f p := ct_lof f p
theorem sel_mem {f : Nat → Bool} {p n : Nat} : n ∈ sel f p ↔ n < p ∧ f n = true := by
  unfold sel
  rw [List.mem_filter, List.mem_range]
theorem sel_any (f : Nat → Bool) (p : Nat) {i : Nat} (h : i < p) : ((sel f p).map fun n => ((n : Nat) : Int)).any (· == ((i : Nat) : Int)) = f i := by
  rw [Bool.eq_iff_iff, List.any_eq_true]
  constructor
  · rintro ⟨x, hx, e⟩
    obtain ⟨n, hn, rfl⟩ := List.mem_map.mp hx
    have e3 : ((n : Nat) : Int) = ((i : Nat) : Int) := eq_of_beq e
    have : n = i := by omega
    rw [← this]
    exact (sel_mem.mp hn).2
  · intro hf
    exact ⟨_, List.mem_map.mpr ⟨i, sel_mem.mpr ⟨h, hf⟩, rfl⟩, by simp⟩
/-- a law's end, where what may fly depends on the world -/
theorem walk_ofW {L : PySem.W.OpenLaw} {m j : Nat} {q' : Program} {lo : List Str} {XQ : (Str → Option Value) → Heap → Prop} {YQ : World → Heap → Prop} {dr : DefRec} {par : Str} (h1 : L.most = some m) (h2 : m ≤ sizeLine) (h3 : dr.params.defaults = []) (h4 : Room j callerA)
    (go : ∀ (ww : World) (gm : Str → Option Value) (ad : Addr) (hp : Heap), YQ ww hp → hp.Ns mainGlobals gm → gm dr.name = some (.ref ad) → ∃ (KK : PySem.W.Frag) (fdd : FuncData) (spp : Sp), KK.In hp ∧ (∀ (z : Shared) (u : Value), BindsTo z fdd ⟨[u], []⟩ [(par, u)]) ∧
      (∀ (HH : Hp) (aa : Addr) (xs : List Int), xs.length ≤ m → Only HH → SqL KK HH aa (xs.map V.int) → spp [.ref aa] HH (fun v _ => v = .bl true) fun _ _ _ => False) ∧
      ∀ bs : Heap, KK.In bs → bs.Ns mainGlobals gm → FnOk L.prog ww KK gm bs (L2.CX L.prog ww) j ad fdd [par] spp) :
    PySem.W.WalkO q' lo XQ YQ L.row.toRowW dr [] (fun g us => PySem.call g us) := by
  refine Att.attach_call h1 h3 ?_
  intro ww t0 t1 gm bm ad ob pm' cd' dc aa us xs GG YY e1 e2 e3 e4 e5 e6 e7 e8
  obtain ⟨KK, fdd, spp, k1, k2, k3, k4⟩ := go ww gm ad _ YY GG.T.g e4
  refine law_call k1 GG.T.g GG.T.b GG.T.builtins GG.T.nolimit e8 e5 e6 (Nat.le_trans e7 h2) h4 k4 k2 (fun HH o1 o2 => k3 HH aa xs e7 o1 o2) ?_
  intro HH e s'
  rintro ⟨_, _, _, _, _, _, _, _, _, _, _, _, no⟩
  exact no
end Sv

namespace Sv
open PySem PySem.Spec PyProof.Rows L2
/-! ### for, in a generator -/
section
variable {M : Model} {A : Around} {R : GenEnd} {Y : Protocol} {n : Nat} {s₀ s : Shared} {c : Code} {fs : List Frame}
theorem seg_bw {α β : Type} {m : Sem α} {k : α → Sem β} {K : β → Sem PySem.Fin} {J : Value → Sem PySem.Fin} {gd : Bool → Bool} {lv : List Value → List Value}
    (h : wpAny M (A.over c fs) m (fun v s' => Seg M A R Y n s₀ c ((k v).wrap K J gd lv) fs s') (fun x s' => Seg M A R Y n s₀ c (J x) fs s') s) : Seg M A R Y n s₀ c ((m >>= k).wrap K J gd lv) fs s := by
  rw [Sem.bind_eq_wrap', Sem.wrap_wrap]
  exact seg_wrap (wpAny_mono h (fun _ _ x => x) fun _ _ x => x)
end
section
variable {prog : Program} {w : World} {A : Around} {R : GenEnd} {Y : Protocol} {n : Nat} {s₀ s : Shared} {fs : List Frame} {env : Env} {tg : Expr} {it : Value} {body : List Stmt}
theorem seg_forLoop (h : wpAny (model prog w) (A.over (.forLoop tg it body [] env) fs) (pyNext it) (fun r s1 => match r with
      | none => Seg (model prog w) A R Y n s₀ (.forLoop tg it body [] env) (.pure (.again (.block [] env))) fs s1
      | some v => wpAny (model prog w) (A.over (.forLoop tg it body [] env) fs) (letOwnedTupleGo tg it v) (fun _ s2 => wpAny (model prog w) (A.over (.forLoop tg it body [] env) fs) (assign tg env v) (fun _ s3 =>
          Seg (model prog w) A R Y n s₀ (.forLoop tg it body [] env) ((execs body env).wrap (fun f => match f with
            | .next | .cont => .pure (.again (.forLoop tg it body [] env))
            | .brk => .pure (.done .next)
            | .ret v => .pure (.done (.ret v))) (fun e => (do noteFrame e env; theTreesLotGoes e : Sem Unit).wrap (fun _ => .raise e) .raise id id) id id) fs s3)
          (fun x s' => Seg (model prog w) A R Y n s₀ (.forLoop tg it body [] env) ((do noteFrame x env; theTreesLotGoes x : Sem Unit).wrap (fun _ => .raise x) .raise id id) fs s') s2)
          (fun x s' => Seg (model prog w) A R Y n s₀ (.forLoop tg it body [] env) ((do noteFrame x env; theTreesLotGoes x : Sem Unit).wrap (fun _ => .raise x) .raise id id) fs s') s1)
      (fun x s' => Seg (model prog w) A R Y n s₀ (.forLoop tg it body [] env) ((do noteFrame x env; theTreesLotGoes x : Sem Unit).wrap (fun _ => .raise x) .raise id id) fs s') s) :
    Seg (model prog w) A R Y n s₀ (.forLoop tg it body [] env) ((model prog w).den (.forLoop tg it body [] env)) fs s := by
  show Seg _ A R Y n s₀ _ ((forTurn tg it body [] env).onRaise (fun x => do noteFrame x env; theTreesLotGoes x)) fs s
  rw [Sem.onRaise_eq_wrap]
  have fix : ∀ (x : Value) (s' : Shared), Seg (model prog w) A R Y n s₀ (.forLoop tg it body [] env) ((do noteFrame x env; theTreesLotGoes x : Sem Unit).wrap (fun _ => .raise x) .raise id id) fs s' →
      Seg (model prog w) A R Y n s₀ (.forLoop tg it body [] env) ((do noteFrame x env; theTreesLotGoes x : Sem Unit).bind (fun _ => .raise x)) fs s' := fun x s' hx => by
    rw [Sem.bind_eq_wrap]; exact hx
  unfold forTurn
  refine seg_bw (wpAny_standAt ?_)
  refine seg_bw (wpAny_onRaise (wpAny_mono h (fun r s1 h1 => ?_) fun x s' hx => wpAny_standAt (fix x s' hx)))
  cases r with
  | none => exact h1
  | some v =>
    refine seg_bw (wpAny_mono h1 (fun _ s2 h2 => ?_) fun x s' hx => fix x s' hx)
    refine seg_bw (wpAny_mono h2 (fun _ s3 h3 => ?_) fun x s' hx => fix x s' hx)
    rw [Sem.bind_eq_wrap', Sem.wrap_wrap]
    rw [Sem.wrap_congr (execs body env) _ _ (K' := fun f => match f with
            | .next | .cont => .pure (.again (.forLoop tg it body [] env))
            | .brk => .pure (.done .next)
            | .ret v => .pure (.done (.ret v))) (H' := (fun e => (do noteFrame e env; theTreesLotGoes e : Sem Unit).wrap (fun _ => .raise e) .raise id id))
        (fun f => by cases f <;> rfl)
        (fun e => by show (do noteFrame e env; theTreesLotGoes e : Sem Unit).bind (fun _ => .raise e) = _; rw [Sem.bind_eq_wrap])]
    exact h3
end
section
variable {X : Cx} {tg iter : Expr} {body : List Stmt} {pos : Pos}
theorem seg_For {A : Around} {R : GenEnd} {Y : Protocol} {n : Nat} {s₀ s : Shared} {c : Code} {fs : List Frame} {env : Env} {K : Flow → Sem PySem.Fin} {J : Value → Sem PySem.Fin} {gd : Bool → Bool} {lv : List Value → List Value} {P : Program} {w : World}
    (h : wpAny (model P w) (A.over c fs) (eval iter env) (fun x s1 => wpAny (model P w) (A.over c fs) (pyIter x) (fun it s2 => ∀ p, Seg (model P w) A R Y n s₀ (.forLoop tg it body [] env) ((model P w).den (.forLoop tg it body [] env))
      (.ret (fun r => ((match r with | .ok f => (.pure f : Sem Flow) | .error e => .raise e).onRaise (cameBack env)).wrap K J gd lv) none (gd false) (lv []) c p [] :: fs) s2) (fun x s' => Seg (model P w) A R Y n s₀ c (J x) fs s') s1) (fun x s' => Seg (model P w) A R Y n s₀ c (J x) fs s') s)
    (hs : ∀ x, foldedSetIterable iter env x = pure x) : Seg (model P w) A R Y n s₀ c ((exec (.For tg iter body [] pos) env).wrap K J gd lv) fs s := by
  rw [exec_For]
  refine seg_bw (wpAny_standAt ?_)
  refine seg_bw (wpAny_mono h (fun x s1 h1 => ?_) fun _ _ z => z)
  refine seg_bw (wpAny_of_eq (hs x) ?_)
  refine seg_bw (wpAny_standAt ?_)
  refine seg_bw (wpAny_holding (wpAny_mono h1 (fun it s2 h2 => ?_) fun _ _ z => z))
  exact seg_call h2
def tGFor (wi : TI) (g : TG) (tb : TGn) : TGn := fun D ys σ H => wi σ H fun J H1 => ∃ W : Nat → Nat → List V → L2.St → Hp → Prop, (∃ m, W 0 m ys σ H1) ∧ ∀ i m ys σ H, W i m ys σ H →
  (J.stop i H ∧ D.nx ys σ H) ∨ (J.go i H ∧ ∃ N : List V → L2.St → Hp → Prop, (∀ ys' σ' H', N ys' σ' H' → ∃ m', m' < m ∧ W (i + 1) m' ys' σ' H') ∧ ∀ x H', J.yld i H x H' → g x σ H' fun σ2 H2 => tb { D with nx := N, ct := N, bk := D.nx } ys σ2 H2)
theorem gs_for {wi : TI} {g : TG} {tb : TGn} (hp : PassesOwn (model X.prog X.w) X.A X.env X.xe) (hc : X.calm = true) (hi : PI X tg iter wi) (hg : PG X tg g) (hb : GSs X body tb)
    (hs : ∀ x, foldedSetIterable iter X.env x = pure x := by intro _; with_unfolding_all rfl) : GS X (.For tg iter body [] pos) (tGFor wi g tb) := by
  refine ⟨fun A S ip R n ys s₀ c fs K J gd lv s σ H D gc hn k hI ht => ?_⟩
  obtain ⟨acc0, c0, r0, I0⟩ := hI
  refine seg_For ?_ hs
  rw [gc.over]
  refine wpAny_mono (hi.run _ s σ H _ I0 ht) (fun v s1 h1 => wpAny_mono h1 (fun itv s2 h2 => ?_) fun x s' hx => k.exc n s₀ x s' hx) fun x s' hx => k.exc n s₀ x s' hx
  obtain ⟨it, fp, tn, Jt, H2, e, I2, T, st2, f2, W, ⟨m0, w0⟩, turn⟩ := h2
  subst e
  intro p
  have gl := fun (kk : Result → Sem PySem.Fin) => gc_loop (k := kk) (c' := .forLoop tg (.ref it) body [] X.env) (l := lv []) (kp := []) (p := p) gc rfl rfl
  have hfS : ∀ b ∈ fp, b ≠ S := fun b hb z => by
    obtain ⟨_, _, _, _, _, q⟩ := f2 b hb
    exact q (S, lstObj acc0 c0) (List.mem_append_right _ List.mem_cons_self) z.symm
  have stat : ∀ {H' : Hp} (acc : Array Value) (cc : Nat), (∀ b ∈ fp, H' b = none) → ∀ b ∈ fp, FpOk X ((S, lstObj acc cc) :: ip) H' b := fun {H'} acc cc hn b hb => by
    obtain ⟨_, q1, q2, q3, q4, q5⟩ := f2 b hb
    refine ⟨hn b hb, q1, q2, q3, q4, fun u hu => ?_⟩
    rcases List.mem_append.mp hu with hu | hu
    · exact q5 u (List.mem_append_left _ hu)
    · rcases List.mem_cons.mp hu with rfl | hu
      · exact fun z => hfS b hb z.symm
      · exact q5 u (List.mem_append_right _ (List.mem_cons_of_mem _ hu))
  have loop : ∀ (m i n : Nat) (ys : List V) (s₀ s : Shared) (σ : L2.St) (H : Hp), n + ys.length = sizeLine → W i m ys σ H → tn i s.heap → (∀ b ∈ fp, H b = none) → GI X S ip ys σ H s →
      Seg (model X.prog X.w) A R (GY X S) n s₀ (.forLoop tg (.ref it) body [] X.env) ((model X.prog X.w).den (.forLoop tg (.ref it) body [] X.env))
        (.ret (fun r => ((match r with | .ok f => (.pure f : Sem Flow) | .error e => .raise e).onRaise (cameBack X.env)).wrap K J gd lv) none (gd false) (lv []) c p [] :: fs) s := by
    intro m
    induction m using Nat.strongRecOn with
    | ind m ih =>
      intro i n ys s₀ s σ H hn w st fr hI
      have ee : ∀ (n : Nat) (s₀ : Shared) (x : Value) (s' : Shared), X.xe x s' → Seg (model X.prog X.w) A R (GY X S) n s₀ (.forLoop tg (.ref it) body [] X.env)
          ((do noteFrame x X.env; theTreesLotGoes x : Sem Unit).wrap (fun _ => .raise x) .raise id id)
          (.ret (fun r => ((match r with | .ok f => (.pure f : Sem Flow) | .error e => .raise e).onRaise (cameBack X.env)).wrap K J gd lv) none (gd false) (lv []) c p [] :: fs) s' := fun n s₀ x s' hx => by
        refine seg_wrap ?_
        rw [(gl _).over]
        refine wpAny_bind (wpAny_mono (hp x s' hx) (fun _ s'' hcb => wpAny_theTreesLotGoes ?_) fun y s'' hcb => ?_)
        · exact seg_leaf (.error x) (seg_cameBack gc k hcb)
        · exact seg_leaf (.error y) (seg_cameBack gc k hcb)
      refine seg_forLoop ?_
      rw [(gl _).over]
      obtain ⟨acc, cc, r, I⟩ := hI
      rcases turn i m ys σ H w with ⟨stop, qn⟩ | ⟨go, N, hN, step⟩
      · refine wpAny_mono (T.done X rfl rfl rfl hc i _ s σ H X.xe I (stat acc cc fr) st stop) (fun r' s4 h4 => ?_) fun x s' hx => ee n s₀ x s' hx
        obtain ⟨hr, I4⟩ := h4
        subst hr
        refine seg_again rfl ?_
        show Seg _ _ _ _ _ _ _ ((execs [] X.env).wrap (fun f => .pure (.done f)) .raise id id) _ _
        exact seg_execs_nil (seg_leaf (.ok .next) (k.ok n ys s₀ s4 .next hn ⟨σ, H, ⟨acc, cc, r, I4⟩, qn⟩))
      · refine wpAny_mono (T.item X rfl rfl rfl hc i _ s σ H X.xe I (stat acc cc fr) st go) (fun r' s4 h4 => ?_) fun x s' hx => ee n s₀ x s' hx
        obtain ⟨u, hr, h4⟩ := h4
        subst hr
        refine wpAny_mono h4 (fun _ s5 h5 => ?_) fun x s' hx => ee n s₀ x s' hx
        obtain ⟨x, H5, I5, r5, y5, st5, fr5⟩ := h5
        have I5' := I5.pinned (stat acc cc fr5) (T.obj _ _ st5)
        refine wpAny_mono (hg.run _ s5 σ H5 x u _ I5' r5 (step x H5 y5)) (fun _ s6 h6 => ?_) fun x s' hx => ee n s₀ x s' hx
        obtain ⟨σ6, H6, I6, q6⟩ := h6
        have gl2 : ∀ (kk : Result → Sem PySem.Fin), GC X S (ip ++ pinsAt fp s5.heap) A (.forLoop tg (.ref it) body [] X.env) (.ret kk none (gd false) (lv []) c p [] :: fs) id := fun kk => ⟨gc.pn, fun q hq => by
          rcases List.mem_append.mp hq with z | z
          · exact gc.ip q z
          · exact hfS _ (of_pinsAt z).1, gc.apart, (gl kk).over, (gl kk).split, (gl kk).guard, rfl⟩
        refine hb.run A S (ip ++ pinsAt fp s5.heap) R n ys s₀ _ _ _ _ id id s6 σ6 H6 { D with nx := N, ct := N, bk := D.nx } (gl2 _) hn ⟨fun n' ys' s₀' s3 f hn' hs3 => ?_, fun n' s₀' x s3 hx => ee n' s₀' x s3 hx⟩ ⟨acc, cc, r, I6⟩ q6
        have back : ∀ {ys7 : List V} {σ7 : L2.St} {H7 : Hp}, GI X S (ip ++ pinsAt fp s5.heap) ys7 σ7 H7 s3 → GI X S ip ys7 σ7 H7 s3 := fun {ys7 σ7 H7} ⟨a7, c7, r7, I7⟩ => ⟨a7, c7, r7, Inv.unpinned (pins := (S, lstObj a7 c7) :: ip) I7⟩
        have again : ∀ {σ7 : L2.St} {H7 : Hp}, GI X S (ip ++ pinsAt fp s5.heap) ys' σ7 H7 s3 → N ys' σ7 H7 → Seg (model X.prog X.w) A R (GY X S) n' s₀' (.forLoop tg (.ref it) body [] X.env) (.pure (.again (.forLoop tg (.ref it) body [] X.env)))
            (.ret (fun r => ((match r with | .ok f => (.pure f : Sem Flow) | .error e => .raise e).onRaise (cameBack X.env)).wrap K J gd lv) none (gd false) (lv []) c p [] :: fs) s3 := fun {σ7 H7} G7 n7 => by
          obtain ⟨m', hm, w7⟩ := hN ys' σ7 H7 n7
          obtain ⟨a7, c7, r7, I7⟩ := id G7
          have pin7 : ∀ b ∈ fp, ∀ o, s5.heap.get? b = some o → _ := fun b hb o e => I7.pin (b, o) (List.mem_append_right _ (List.mem_cons_of_mem _ (List.mem_append_right _ (mem_pinsAt hb e))))
          refine seg_again rfl (ih m' hm (i + 1) n' ys' s₀' s3 σ7 H7 hn' w7 (T.keep _ _ _ st5 fun b hb o e => (pin7 b hb o e).1) (fun b hb => ?_) (back G7))
          obtain ⟨o, e, d⟩ := T.obj _ _ st5 b hb
          exact (pin7 b hb o e).2.1
        cases f with
        | next =>
          obtain ⟨σ3, H3, G3, n3⟩ := hs3
          exact again G3 n3
        | cont =>
          obtain ⟨σ3, H3, G3, n3⟩ := hs3
          exact again G3 n3
        | brk =>
          obtain ⟨σ3, H3, G3, n3⟩ := hs3
          exact seg_leaf (.ok .next) (k.ok n' ys' s₀' s3 .next hn' ⟨σ3, H3, back G3, n3⟩)
        | ret v =>
          obtain ⟨x7, σ3, H3, G3, rv, n3⟩ := hs3
          exact seg_leaf (.ok (.ret v)) (k.ok n' ys' s₀' s3 (.ret v) hn' ⟨x7, σ3, H3, back G3, rv, n3⟩)
  exact loop m0 0 n ys s₀ s2 σ H2 hn w0 st2 (fun b hb => (f2 b hb).1) ⟨acc0, c0, r0, I2⟩
end
end Sv

namespace Sv
open PySem PySem.Spec PyProof.Rows L2
/-! ### generator bodies by syntax -/
structure GWL (X : Cx) (sts : List Stmt) (D : GEnds) (ys : List V) (σ : L2.St) (H : Hp) : Prop where
  run : ∀ (A : Around) (S : Addr) (ip : List (Addr × Obj)) (R : GenEnd) (n : Nat) (s₀ : Shared) (c : Code) (fs : List Frame) (K : Flow → Sem PySem.Fin) (J : Value → Sem PySem.Fin) (gd : Bool → Bool) (lv : List Value → List Value) (s : Shared),
    GC X S ip A c fs gd → n + ys.length = sizeLine → GK X S ip A R c fs K J D → GI X S ip ys σ H s → Seg (model X.prog X.w) A R (GY X S) n s₀ c ((execs sts X.env).wrap K J gd lv) fs s
structure GWS (X : Cx) (st : Stmt) (D : GEnds) (ys : List V) (σ : L2.St) (H : Hp) : Prop where
  run : ∀ (A : Around) (S : Addr) (ip : List (Addr × Obj)) (R : GenEnd) (n : Nat) (s₀ : Shared) (c : Code) (fs : List Frame) (K : Flow → Sem PySem.Fin) (J : Value → Sem PySem.Fin) (gd : Bool → Bool) (lv : List Value → List Value) (s : Shared),
    GC X S ip A c fs gd → n + ys.length = sizeLine → GK X S ip A R c fs K J D → GI X S ip ys σ H s → Seg (model X.prog X.w) A R (GY X S) n s₀ c ((exec st X.env).wrap K J gd lv) fs s
section
variable {X : Cx} {N L S G B : List Str} {st : Stmt} {sts : List Stmt} {e tg iter : Expr} {D : GEnds} {ys : List V} {σ : L2.St} {H : Hp} {pos yp : Pos}
theorem gss_w : GSs X sts (GWL X sts) := ⟨fun A S ip R n ys s₀ c fs K J gd lv s σ H D g hn k hI h => h.run A S ip R n s₀ c fs K J gd lv s g hn k hI⟩
theorem gs_w : GS X st (GWS X st) := ⟨fun A S ip R n ys s₀ c fs K J gd lv s σ H D g hn k hI h => h.run A S ip R n s₀ c fs K J gd lv s g hn k hI⟩
theorem gss_to {t : TGn} (a : GSs X sts t) (h : t D ys σ H) : GWL X sts D ys σ H := ⟨fun A S ip R n s₀ c fs K J gd lv s g hn k hI => a.run A S ip R n ys s₀ c fs K J gd lv s σ H D g hn k hI h⟩
theorem gs_to {t : TGn} (a : GS X st t) (h : t D ys σ H) : GWS X st D ys σ H := ⟨fun A S ip R n s₀ c fs K J gd lv s g hn k hI => a.run A S ip R n ys s₀ c fs K J gd lv s σ H D g hn k hI h⟩
theorem gwl_nil (q : D.nx ys σ H) : GWL X [] D ys σ H := gss_to gss_nil q
theorem gwl_cons (h : GWS X st { D with nx := fun ys' σ' H' => GWL X sts D ys' σ' H' } ys σ H) : GWL X (st :: sts) D ys σ H := gss_to (gss_cons gs_w gss_w) h
theorem gws_plain (h : WS X st (D.at ys) σ H) : GWS X st D ys σ H := gs_to (gs_ps ps_w) h
theorem gws_yield (hl : ys.length < sizeLine) (h : WE X e σ H fun x H1 => D.nx (ys ++ [x]) σ H1) (hco : X.env.scope.isCoroutine = false) (hi : interactive X.env = false) : GWS X (.Expr (.Yield (some e) yp) pos) D ys σ H := gs_to (gs_yield pe_w hco hi) ⟨hl, h⟩
theorem gws_for (hp : PassesOwn (model X.prog X.w) X.A X.env X.xe) (hc : Nm X N L S G B)
    (h : WI X tg iter σ H fun J H1 => ∃ n it, Wlk J n it H1 ∧ ∃ Pv : Nat → List V → L2.St → Hp → Prop, Pv 0 ys σ H1 ∧ (∀ i ys' σ' H', Pv i ys' σ' H' → Same H1 H') ∧
      (∀ i ys' σ' H', i < n → Pv i ys' σ' H' → WG X tg (it i) σ' H' fun σ2 H2 => GWL X sts { D with nx := Pv (i + 1), ct := Pv (i + 1), bk := D.nx } ys' σ2 H2) ∧ ∀ ys' σ' H', Pv n ys' σ' H' → D.nx ys' σ' H')
    (hs : ∀ x, foldedSetIterable iter X.env x = pure x := by intro _; with_unfolding_all rfl) : GWS X (.For tg iter sts [] pos) D ys σ H := by
  refine gs_to (gs_for hp hc.calm pi_w pg_w gss_w hs) ?_
  refine ⟨fun pins s I => thn (h.run pins s I) fun v s1 h1 => thn h1 fun itv s2 ⟨it, fp, tn, J, H', e, I', T, t0, hf, n, itm, W, Pv, p0, hsm, hst, hd⟩ => ⟨it, fp, tn, J, H', e, I', T, t0, hf, ?_⟩⟩
  refine ⟨fun i m ys' σ' H'' => m = n - i ∧ i ≤ n ∧ Pv i ys' σ' H'', ⟨n, by simp, Nat.zero_le _, p0⟩, ?_⟩
  rintro i m ys' σ' H'' ⟨rfl, hi, p⟩
  by_cases hlt : i < n
  · refine .inr ⟨W.go i H'' hlt (hsm _ _ _ _ p), Pv (i + 1), fun ys2 σ2 H2 p' => ⟨n - (i + 1), by omega, rfl, hlt, p'⟩, fun x H3 y => ?_⟩
    obtain ⟨rfl, rfl⟩ := W.yld i H'' x H3 hlt (hsm _ _ _ _ p) y
    exact hst i ys' σ' _ hlt p
  · have e : i = n := by omega
    subst e
    exact .inl ⟨W.stop _ _ (Nat.le_refl _) (hsm _ _ _ _ p), hd _ _ _ p⟩
end
/-! ### a generator def -/
def gscB (N ps L G B : List Str) (sc : Scope) : Bool :=
  (match sc.kind with | .function => true | _ => false) && !sc.isCoroutine && sc.isGenerator && decide N.Nodup && decide (N.take ps.length = ps) && ps.all (locB sc) && (sc.names.all fun y => match y.2 with | .free => false | _ => true) &&
  (L.all fun x => locB sc x && !(x == ("__debug__" : Str)) && !(x == ("__classdict__" : Str))) && (G.all fun x => gloB sc x && !(x == ("__debug__" : Str)) && decide (x ≠ "__name__")) && (B.all fun x => gloB sc x && !(x == ("__debug__" : Str)) && decide (x ≠ "__name__"))
theorem gscB_ok {N ps L G B : List Str} {sc : Scope} (h : gscB N ps L G B sc = true) : GScope N ps sc ∧ (∀ x ∈ L, Loc sc x ∧ (x == ("__debug__" : Str)) = false ∧ (x == ("__classdict__" : Str)) = false) ∧
    (∀ x ∈ G, sc.names.lookup x = some .globalImplicit ∧ (x == ("__debug__" : Str)) = false ∧ x ≠ "__name__") ∧ (∀ x ∈ B, sc.names.lookup x = some .globalImplicit ∧ (x == ("__debug__" : Str)) = false ∧ x ≠ "__name__") := by
  unfold gscB at h
  simp only [Bool.and_eq_true, List.all_eq_true, decide_eq_true_eq, Bool.not_eq_true'] at h
  obtain ⟨⟨⟨⟨⟨⟨⟨⟨⟨h1, h2⟩, h3⟩, h4⟩, h5⟩, h6⟩, h7⟩, h8⟩, h9⟩, h10⟩ := h
  refine ⟨⟨?_, h2, h3, h4, h5, fun x hx => locB_ok (h6 x hx), fun y hy e => ?_⟩, fun x hx => ⟨locB_ok (h8 x hx).1.1, (h8 x hx).1.2, (h8 x hx).2⟩, fun x hx => ⟨gloB_ok (h9 x hx).1.1, (h9 x hx).1.2, (h9 x hx).2⟩, fun x hx => ⟨gloB_ok (h10 x hx).1.1, (h10 x hx).1.2, (h10 x hx).2⟩⟩
  · split at h1
    · assumption
    · cases h1
  · have := h7 y hy
    rw [e] at this
    cases this
abbrev gcx (P : Program) (w : World) (K : PySem.W.Frag) (mg : Str → Option Value) (base : Heap) (N : List Str) (qual : Str) (sc : Scope) (f : Addr) (cd : Value) (A : Around) (outer : List Env) (s : Shared) (H : Hp) (E : XK) (pn : List (Addr × Obj)) : Cx := gcxOf P w K mg base N qual sc f cd A outer s H E pn
theorem gnm_of {P : Program} {w : World} {K : PySem.W.Frag} {mg : Str → Option Value} {base : Heap} {N ps L G B : List Str} {qual : Str} {sc : Scope} {f : Addr} {cd : Value} {A : Around} {outer : List Env} {s : Shared} {H : Hp} {E : XK} {pn : List (Addr × Obj)} (h : gscB N ps L G B sc = true) (hb : ∀ x ∈ B, mg x = none) :
    Nm (gcx P w K mg base N qual sc f cd A outer s H E pn) N L L G B := by
  obtain ⟨F, hL, hG, hB⟩ := gscB_ok h
  exact ⟨rfl, F.nd, fun x hx => ⟨by rcases (hL x hx).1 with z | z; exact .inl z; exact .inr (.inl z), (hL x hx).2⟩, fun x hx => ⟨(hL x hx).1, .inl rfl⟩, hG, hb, hB, rfl⟩
/-- THE RULE for a generator def without defaults -/
theorem gfn_by {P : Program} {w : World} {K : PySem.W.Frag} {mg : Str → Option Value} {base : Heap} {N ps L G B : List Str} {k : Nat} {x qual : Str} {params : Arguments} {body : List Stmt} {sc : Scope} {f : Addr} {fd : FuncData} {sp : SpG}
    (F : FunD K x qual params body sc [] [] f fd) (S : gscB N ps L G B sc = true) (len : ∀ vs H Q E, sp vs H Q E → vs.length = ps.length) (hb : ∀ x ∈ B, mg x = none)
    (hbody : ∀ (cd : Value) (A : Around) (outer : List Env) (s : Shared) (H : Hp) (vs : List V) (Q : List V → Hp → Prop) (E : XK) (pn : List (Addr × Obj)), Room k (gcx P w K mg base N qual sc f cd A outer s H E pn).A → Nm (gcx P w K mg base N qual sc f cd A outer s H E pn) N L L G B → sp vs H Q E →
      GWL (gcx P w K mg base N qual sc f cd A outer s H E pn) body { nx := fun ys _ H' => Q ys H', rt := fun ys v H' => v = .non ∧ Q ys H' } [] (start N vs) H) : GFn P w K mg base (k + 1) f fd ps sp := by
  obtain ⟨oc, od, dV, kV, doc, pm, an, cdv, ct, osl, rfl, lk, hcd, _, _⟩ := F.ex
  exact gfn_of lk hcd (gscB_ok S).1 len fun A outer s H vs Q E pn hr h => ⟨GWL (gcx P w K mg base N qual sc f cdv A outer s H E pn) body, gss_w, hbody cdv A outer s H vs Q E pn hr (gnm_of S hb) h⟩
/-- o.m(..), a generator method of the class at C -/
structure GMt (P : Program) (w : World) (K : PySem.W.Frag) (mg : Str → Option Value) (base : Heap) (C : Addr) (m : Str) (k : Nat) (sp : SpG) : Prop where
  ex : ∃ f fd ps, Cls K C ∧ Meth K C m f ∧ GFn P w K mg base k f fd ps sp ∧ Binds K fd ps []
theorem x_listM {X : Cx} {N L S G B : List Str} {o e : Expr} {es : List Expr} {m : Str} {C : Addr} {k j : Nat} {sp : SpG} {σ : L2.St} {H : Hp} {Q : VK} {p apos pos' pos : Pos} {pl : Sem Bool} (c : Nm X N L S G B) (mm : Mb "list" B) (F : GMt X.prog X.w X.K X.mg X.base C m k sp) (hr : Room j X.A) (hj : k + 3 ≤ j)
    (h : WE X o σ H fun x H1 => ∃ a dx fs, x = .ref a ∧ H1 a = some (.ins C dx fs) ∧ fs.lookup m = none ∧ WA X (e :: es) σ H1 fun vs H2 => sp (.ref a :: vs) H2 (fun out H3 => ∀ q, H3 q = none → Q (.ref q) (upd H3 q (.lst out))) E0)
    (hst : starEach (e :: es) X.env = (false, eval e X.env) :: starEach es X.env := by with_unfolding_all rfl) (hpl : (backTo pos' (starEach es X.env)).any (·.1) = false := by with_unfolding_all rfl)
    (ht : eval (.Call (.Attribute o m apos) (e :: es) [] pos') X.env = (do
      let ov ← eval o X.env
      standAt apos.atName
      let (f, first) ← holding [ov] (getMethod ov m pl)
      callWith pos' f first (backTo pos' (starEach (e :: es) X.env)) (backToKw pos' (keywordEach [] X.env))) := by with_unfolding_all rfl)
    (he : starEach [.Call (.Attribute o m apos) (e :: es) [] pos'] X.env = (false, eval (.Call (.Attribute o m apos) (e :: es) [] pos') X.env) :: starEach [] X.env := by with_unfolding_all rfl) :
    WE X (.Call (.Name "list" p) [.Call (.Attribute o m apos) (e :: es) [] pos'] [] pos) σ H Q := by
  obtain ⟨f, fd, ps, cl, hm, F, hB⟩ := F.ex
  refine (pe_listG (E := E0) (pgen_meth (E := E0) pe_w cl hm F (hr.mono (by omega)) hB .nil pa_w hst hpl ht) passL (fun _ _ _ z => z.elim) (hr.mono hj) (c.bgl _ mm.mem).1 (c.blt _ mm.mem) bt_list (he := he)).w ?_
  refine WE.imp h fun x H1 ⟨a, dx, fs, ex, ha, hl, q⟩ => ⟨a, dx, fs, ex, ha, hl, WA.imp q fun vs H2 q2 => ?_⟩
  rw [List.append_nil, ex]
  exact q2
theorem wl_startG {X : Cx} {sts : List Stmt} {D : GEnds} {ys : List V} {σ σ' : L2.St} {H : Hp} (e : σ = σ') (h : GWL X sts D ys σ' H) : GWL X sts D ys σ H := e ▸ h
theorem gEx {α : Type} {p : α → Prop} (h : ∃ x, p x) : ∃ x, p x := h
/-! tests for None -/
theorem dec_nn : decide (V.non = V.non) = true := decide_eq_true rfl
theorem dec_rn {a : Addr} : decide (V.ref a = V.non) = false := decide_eq_false (fun z => nomatch z)
theorem ite_nn {A B : Prop} (h : A) : if decide (V.non = V.non) = true then A else B := by rw [dec_nn, if_pos rfl]; exact h
theorem ite_rn {a : Addr} {A B : Prop} (h : B) : if decide (V.ref a = V.non) = true then A else B := by rw [dec_rn, if_neg (by decide)]; exact h
theorem ite_nnn {A B : Prop} (h : B) : if (!decide (V.non = V.non)) = true then A else B := by rw [dec_nn]; exact h
theorem ite_nrn {a : Addr} {A B : Prop} (h : A) : if (!decide (V.ref a = V.non)) = true then A else B := by rw [dec_rn]; exact h
/-- a statement, then what is known behind it -/
theorem WS.cut {X : Cx} {st : Stmt} {D : Ends} {σ : L2.St} {H : Hp} (M : L2.St → Hp → Prop) (h : WS X st { D with nx := M } σ H) (k : ∀ σ' H', M σ' H' → D.nx σ' H') : WS X st D σ H :=
  ⟨fun pins s I => thn (h.run pins s I) fun f s' z => by
    cases f with
    | next => obtain ⟨σ', H', I', m⟩ := z; exact ⟨σ', H', I', k _ _ m⟩
    | brk => exact z
    | cont => exact z
    | ret u => exact z⟩
theorem dec_in {i : Int} : decide (V.int i = V.non) = false := decide_eq_false (fun z => nomatch z)
theorem dec_tt : decide (true = true) = true := rfl
end Sv

namespace Sv
open PySem PySem.Spec PyProof.Rows L2
section
variable {X : Cx} {N L S G B : List Str} {a e : Expr} {σ : L2.St} {H : Hp} {Q : VK} {p p2 p3 pos : Pos}
theorem rgV_nat (n : Nat) : rgV 0 ((n : Nat) : Int) = (List.range n).map fun i => V.int ((i : Nat) : Int) := by
  unfold rgV
  rw [show (((n : Nat) : Int) - 0).toNat = n by omega]
  exact List.map_congr_left fun i _ => by rw [Int.zero_add]
/-- list(range(n)) -/
theorem x_listRg (c : Nm X N L S G B) (m : Mb "list" B) (m2 : Mb "range" B) (h : WE X a σ H fun x H1 => ∃ n : Nat, x = .int (n : Nat) ∧ n ≤ 16777216 ∧ ∀ q H', H1 q = none → Same H1 H' → H' q = some (.lst ((List.range n).map fun i => V.int ((i : Nat) : Int))) → Q (.ref q) H')
    (na2 : starEach [a] X.env = (false, eval a X.env) :: starEach [] X.env := by with_unfolding_all rfl)
    (na : starEach [.Call (.Name "range" p2) [a] [] p3] X.env = (false, eval (.Call (.Name "range" p2) [a] [] p3) X.env) :: starEach [] X.env := by with_unfolding_all rfl) : WE X (.Call (.Name "list" p) [.Call (.Name "range" p2) [a] [] p3] [] pos) σ H Q :=
  (pe_listRg c.calm (c.bgl _ m.mem).1 (c.blt _ m.mem) (prg_1 (c.bgl _ m2.mem).1 (c.blt _ m2.mem) pe_w na2) na).w (WE.imp h fun x H1 ⟨n, e, hn, q⟩ => ⟨((n : Nat) : Int), e, RgOk.of_le (by omega) (by omega) (by omega) (by omega), fun q' hq => by rw [rgV_nat]; exact q q' _ hq (same_new hq) upd_same⟩)
theorem bt_repr : bootBuiltins "repr" = some (.builtin "repr") := by decide +kernel
/-- repr of an int -/
theorem x_repr (c : Nm X N L S G B) (m : Mb "repr" B) (h : WE X e σ H fun x H1 => ∃ i : Int, x = .int i ∧ i.natAbs.log2 < 1920 ∧ Q (.str (toString i)) H1) (hs : starEach [e] X.env = (false, eval e X.env) :: starEach [] X.env := by with_unfolding_all rfl) (hpl : (backTo pos (starEach [] X.env)).any (·.1) = false := by with_unfolding_all rfl) : WE X (.Call (.Name "repr" p) [e] [] pos) σ H Q :=
  w_callB c m bt_repr (wa_cons (WE.imp h fun x H1 ⟨i, ex, hz, q⟩ => wa_nil (by rw [ex]; exact (SkE.call_repr_int).w ⟨i, rfl, hz, q⟩)) hs) hs hpl
theorem b_fdivW {i j : Int} (h : 0 < j ∧ j.natAbs.log2 < 9000) (q : Q (.int (i / j)) H) : WB X (binaryOp .FloorDiv) (.int i) (.int j) σ H Q := op_fdivW.w ⟨_, _, rfl, rfl, h, q⟩
end
end Sv

namespace Sv
open PySem PySem.Spec PyProof.Rows L2
section
variable {X : Cx} {N L S G B : List Str} {e : Expr} {σ : L2.St} {H : Hp} {Q : VK} {p pos : Pos}
theorem bt_dict : bootBuiltins "dict" = some (.type "dict") := by decide +kernel
/-- dict(xs) of a list of pairs -/
theorem x_dictP (c : Nm X N L S G B) (m : Mb "dict" B) (h : WE X e σ H fun x H1 => ∃ (a : Addr) (ps : List Addr) (kvs : List (Key × V)), x = .ref a ∧ SqL X.K H1 a (ps.map V.ref) ∧ Paired (fun p kv => SqT X.K H1 p [kV kv.1, kv.2]) ps kvs ∧ ∀ p H', H1 p = none → Same H1 H' → H' p = some (.dK (mergeK [] kvs)) → Q (.ref p) H')
    (hs : starEach [e] X.env = (false, eval e X.env) :: starEach [] X.env := by with_unfolding_all rfl) (hpl : (backTo pos (starEach [] X.env)).any (·.1) = false := by with_unfolding_all rfl) : WE X (.Call (.Name "dict" p) [e] [] pos) σ H Q :=
  w_callTy c m bt_dict (wa_cons (WE.imp h fun x H1 ⟨a, ps, kvs, ex, hq, hp, q⟩ => wa_nil (by rw [ex]; exact (call_dictP c.calm).w ⟨a, ps, kvs, rfl, hq, hp, newly' (Q := fun p H' => Q (.ref p) H') q⟩)) hs) hs hpl
/-- y in d -/
theorem b_inD {y : V} {a : Addr} {o : Option V} (hu : X.A.units + 1 < cLine) (g : DGet H a y o) (q : Q (.bl o.isSome) H) : WB X (compareOp .In) y (.ref a) σ H Q := ⟨fun pins s v u I rx ry => by
  obtain rfl : u = Value.ref a := ry
  exact d_in hu I g rx fun s3 I3 => ⟨.bl o.isSome, H, I3, rfl, q⟩⟩
end
theorem valV_merge (k : Key) : ∀ (more kvs : List (Key × V)), (valV (mergeK kvs more) k).isSome = ((valV kvs k).isSome || more.any fun kv => decide (kv.1 = k))
  | [], kvs => by show _ = ((valV kvs k).isSome || false); rw [Bool.or_false]; rfl
  | kv :: more, kvs => by
    show (valV (mergeK (putK kvs kv.1 kv.2) more) k).isSome = _
    rw [valV_merge k more, valV_put, List.any_cons]
    by_cases h : k = kv.1
    · rw [if_pos h, decide_eq_true h.symm]; simp
    · rw [if_neg h, decide_eq_false (fun z => h z.symm), Bool.false_or]
/-- lists of numbers as data -/
theorem dps_ints {K : PySem.W.Frag} {H : Hp} : ∀ ns : List Nat, DpAll K H ((ns.map fun n => ((n : Nat) : Int)).map V.int) ((ns.map fun n => ((n : Nat) : Int)).map PyData.int)
  | [] => .nil
  | _ :: ns => .cons (.int _) (dps_ints ns)
theorem eqv_ints : ∀ ns : List Int, PyData.eqvAll (ns.map PyData.int) (ns.map PyData.int) = true
  | [] => by simp [PyData.eqvAll]
  | n :: ns => by
    have := eqv_ints ns
    simp only [List.map_cons, PyData.eqvAll, this]
    simp [PyData.eqv]
theorem eqv_list (ns : List Int) : PyData.eqv (.list (ns.map PyData.int)) (.list (ns.map PyData.int)) = true := by
  have := eqv_ints ns
  simp only [PyData.eqv, this]
end Sv

namespace Sv
open PySem PySem.Spec PyProof.Rows L2
section
variable {X : Cx} {o e : Expr} {σ : L2.St} {H : Hp} {Q : VK} {apos pos : Pos}
/-- xs.index(e) of flat items -/
theorem w_lindex (h : WE X o σ H fun x H1 => ∃ l, x = .ref l ∧ (∃ xs, SqL X.K H1 l xs) ∧ WE X e σ H1 fun y H2 => ∃ (ys : List V) (j : Nat) (z : V), SqL X.K H2 l ys ∧ flatV y = true ∧ ys.all flatV = true ∧ ys[j]? = some z ∧ eqV z y = true ∧ (∀ (m : Nat) (z' : V), m < j → ys[m]? = some z' → eqV z' y = false) ∧ Q (.int (j : Nat)) H2)
    (hbase : attributeBase o "index" X.env (eval o X.env) = eval o X.env := by with_unfolding_all rfl)
    (hfew : ((backTo pos (starEach [e] X.env)).all (fun x => !x.1) && (backToKw pos (keywordEach [] X.env)).all (fun x => x.1.isSome)
      && decide ([e].length + ([] : List Keyword).length + (if ([] : List Keyword).isEmpty then 0 else 1) < 30)) = true := by with_unfolding_all rfl)
    (hline : (apos.endLine == pos.line) = true := by with_unfolding_all rfl) (hs : starEach [e] X.env = (false, eval e X.env) :: starEach [] X.env := by with_unfolding_all rfl) : WE X (.Call (.Attribute o "index" apos) [e] [] pos) σ H Q := by
  refine (pe_bm PySem.F.plainAttrs_list PySem.F.slot_list_index PySem.F.type_list_index mt_index pe_w (pa_cons pe_w pa_nil hs) hbase hfew hline hs rfl).w ?_
  exact WE.imp h fun x H1 ⟨l, e1, ⟨xs, hx⟩, q⟩ => ⟨by rw [e1]; exact Or.inl ⟨rfl, xs, hx⟩, WE.imp q fun y H2 ⟨ys, j, z, h2, fy, fys, hz, ez, hno, q⟩ => ⟨l, ys, y, j, z, e1, rfl, h2, fy, fys, hz, ez, hno, q⟩⟩
end
theorem call_repr_bool {X : Cx} : CallR X (.builtin "repr") (fun xs H Q => ∃ b : Bool, xs = [.bl b] ∧ Q (.str (if b then "True" else "False")) H) := by
  intro pins s σ H xs us Q I r h
  obtain ⟨b, rfl, q⟩ := h
  obtain ⟨u, rfl, hu⟩ := vals1 r
  obtain rfl : u = .bool b := hu
  exact PySem.P.repr_of_bool ⟨.str _, H, I.tok _, ⟨_, rfl⟩, q⟩
/-- repr of a bool -/
theorem x_reprB {X : Cx} {N L S G B : List Str} {e : Expr} {σ : L2.St} {H : Hp} {Q : VK} {p pos : Pos} (c : Nm X N L S G B) (m : Mb "repr" B) (h : WE X e σ H fun x H1 => ∃ b : Bool, x = .bl b ∧ Q (.str (if b then "True" else "False")) H1) (hs : starEach [e] X.env = (false, eval e X.env) :: starEach [] X.env := by with_unfolding_all rfl) (hpl : (backTo pos (starEach [] X.env)).any (·.1) = false := by with_unfolding_all rfl) : WE X (.Call (.Name "repr" p) [e] [] pos) σ H Q :=
  w_callB c m bt_repr (wa_cons (WE.imp h fun x H1 ⟨b, ex, q⟩ => wa_nil (by rw [ex]; exact call_repr_bool.w ⟨b, rfl, q⟩)) hs) hs hpl
theorem dec_sn {x : Str} : decide (V.str x = V.non) = false := decide_eq_false (fun z => nomatch z)
theorem flat_ints (ns : List Int) : (ns.map V.int).all flatV = true := by
  rw [List.all_map, List.all_eq_true]
  intro x _
  rfl
theorem inV_ints (n : Nat) (ns : List Nat) : inV (.int ((n : Nat) : Int)) ((ns.map fun n => ((n : Nat) : Int)).map V.int) = ns.any (· == n) := by
  unfold inV
  rw [List.any_map, List.any_map]
  congr 1
  funext m
  show (((m : Nat) : Int) == ((n : Nat) : Int)) = (m == n)
  rw [Bool.eq_iff_iff, beq_iff_eq, beq_iff_eq]
  exact Int.natCast_inj
theorem eqv_nil (ns : List Int) : PyData.eqv (.list (ns.map PyData.int)) (.list []) = ns.isEmpty := by
  cases ns with
  | nil => simp [PyData.eqv, PyData.eqvAll]
  | cons n ns => simp [PyData.eqv, PyData.eqvAll]
end Sv

/-! Beginnings: the numbers with f by their index, and where there is room between them. -/
namespace Sv
open PySem PySem.Spec PyProof.Rows L2

open Classical in
/-- the i-th number with f -/
noncomputable def nthF (f : Nat → Bool) (i : Nat) : Nat := if h : ∃ n, f n = true ∧ ct f n = i then Classical.choose h else 0
theorem nthF_eq {f : Nat → Bool} {n i : Nat} (h1 : f n = true) (h2 : ct f n = i) : nthF f i = n := by
  have h : ∃ n, f n = true ∧ ct f n = i := ⟨n, h1, h2⟩
  unfold nthF
  rw [dif_pos h]
  obtain ⟨a, b⟩ := Classical.choose_spec h
  exact ct_inj a h1 (b.trans h2.symm)
/-- there is a number of each index -/
def AllN (f : Nat → Bool) : Prop := ∀ i, f (nthF f i) = true ∧ ct f (nthF f i) = i
theorem Per.all {f : Nat → Bool} {p : Nat} (h : Per f p) (hp : 0 < ct f p) : AllN f := fun i => by
  obtain ⟨n, a, b⟩ := nth_of h hp i
  rw [nthF_eq a b]
  exact ⟨a, b⟩
theorem Pat.all {l : List Bool} (p : Pat l) : AllN (kp l) := (kp_per l).all p.size
theorem AllN.lt {f : Nat → Bool} (h : AllN f) {i j : Nat} (l : i < j) : nthF f i < nthF f j := by
  refine Classical.byContradiction fun z => ?_
  have := ct_mono f (show nthF f j ≤ nthF f i by omega)
  rw [(h i).2, (h j).2] at this
  omega
theorem AllN.lt_of {f : Nat → Bool} (h : AllN f) {i P : Nat} (l : i < ct f P) : nthF f i < P := by
  refine Classical.byContradiction fun z => ?_
  have := ct_mono f (show P ≤ nthF f i by omega)
  rw [(h i).2] at this
  omega
theorem AllN.ge {f : Nat → Bool} (h : AllN f) {i P : Nat} (l : ct f P ≤ i) : P ≤ nthF f i := by
  refine Classical.byContradiction fun z => ?_
  have := ct_lt (h i).1 (show nthF f i < P by omega)
  rw [(h i).2] at this
  omega
theorem AllN.per {f : Nat → Bool} (h : AllN f) {P : Nat} (hp : Per f P) (i : Nat) : nthF f (i + ct f P) = nthF f i + P :=
  nthF_eq (by rw [hp]; exact (h i).1) (by rw [Nat.add_comm (nthF f i), ct_add hp, (h i).2, Nat.add_comm])
/-- b's numbers have room within a's -/
structure Fit (a b : Nat → Nat) (L : Nat) : Prop where
  low : b 0 ≤ a 0
  step : ∀ i, i + 1 < L → b (i + 1) + a i ≤ a (i + 1) + b i
  top : b L + a 0 + a (L - 1) ≤ a L + b 0 + b (L - 1)
def Quasi (a : Nat → Nat) (L : Nat) : Prop := ∀ i, a (i + L) + a 0 = a i + a L
theorem AllN.quasi {f : Nat → Bool} (h : AllN f) {P : Nat} (hp : Per f P) : Quasi (nthF f) (ct f P) := fun i => by
  have e := h.per hp 0
  rw [Nat.zero_add] at e
  rw [h.per hp, e]
  omega
theorem Quasi.mul {a : Nat → Nat} {L : Nat} (h : Quasi a L) (i : Nat) : ∀ k, a (i + k * L) + k * a 0 = a i + k * a L
  | 0 => by simp
  | k + 1 => by
    have e1 := h.mul i k
    have e2 := h (i + k * L)
    rw [show i + (k + 1) * L = i + k * L + L by rw [Nat.succ_mul]; omega, Nat.succ_mul, Nat.succ_mul]
    omega
theorem fit_mul {a b : Nat → Nat} {L k : Nat} (qa : Quasi a L) (qb : Quasi b L) (hL : 0 < L) (hk : 0 < k) : Fit a b L ↔ Fit a b (k * L) := by
  have e1 : k * L - 1 = (L - 1) + (k - 1) * L := by
    obtain ⟨k', rfl⟩ : ∃ k', k = k' + 1 := ⟨k - 1, by omega⟩
    rw [Nat.add_sub_cancel, Nat.succ_mul]
    omega
  have a1 := qa.mul (L - 1) (k - 1)
  have b1 := qb.mul (L - 1) (k - 1)
  have a2 := qa.mul 0 k
  have b2 := qb.mul 0 k
  rw [Nat.zero_add] at a2 b2
  have ka : k * a 0 = (k - 1) * a 0 + a 0 := by
    obtain ⟨k', rfl⟩ : ∃ k', k = k' + 1 := ⟨k - 1, by omega⟩
    rw [Nat.add_sub_cancel, Nat.succ_mul]
  have kb : k * b 0 = (k - 1) * b 0 + b 0 := by
    obtain ⟨k', rfl⟩ : ∃ k', k = k' + 1 := ⟨k - 1, by omega⟩
    rw [Nat.add_sub_cancel, Nat.succ_mul]
  have ka2 : k * a L = (k - 1) * a L + a L := by
    obtain ⟨k', rfl⟩ : ∃ k', k = k' + 1 := ⟨k - 1, by omega⟩
    rw [Nat.add_sub_cancel, Nat.succ_mul]
  have kb2 : k * b L = (k - 1) * b L + b L := by
    obtain ⟨k', rfl⟩ : ∃ k', k = k' + 1 := ⟨k - 1, by omega⟩
    rw [Nat.add_sub_cancel, Nat.succ_mul]
  constructor
  · intro F
    refine ⟨F.low, fun i hi => ?_, ?_⟩
    · have hr : i % L < L := Nat.mod_lt _ hL
      have hd : i = i % L + i / L * L := by rw [Nat.mul_comm]; exact (Nat.mod_add_div i L).symm
      generalize i % L = r at *
      generalize i / L = q at *
      subst hd
      have a3 := qa.mul r q
      have b3 := qb.mul r q
      by_cases h : r + 1 < L
      · have a4 := qa.mul (r + 1) q
        have b4 := qb.mul (r + 1) q
        have st := F.step r h
        rw [show r + q * L + 1 = r + 1 + q * L by omega]
        omega
      · have er : r = L - 1 := by omega
        have a4 := qa.mul 0 (q + 1)
        have b4 := qb.mul 0 (q + 1)
        rw [Nat.zero_add, Nat.succ_mul q (a 0), Nat.succ_mul q (a L)] at a4
        rw [Nat.zero_add, Nat.succ_mul q (b 0), Nat.succ_mul q (b L)] at b4
        rw [show r + q * L + 1 = (q + 1) * L by rw [Nat.succ_mul]; omega]
        have t := F.top
        have l := F.low
        rw [er] at a3 b3 ⊢
        omega
    · have t := F.top
      rw [e1]
      omega
  · intro F
    have hle : L ≤ k * L := Nat.le_mul_of_pos_left _ hk
    refine ⟨F.low, fun i hi => F.step i (by omega), ?_⟩
    have t := F.top
    rw [e1] at t
    omega
/-- the period of f's that holds L of its numbers, p of them s -/
theorem ct_of {f : Nat → Bool} {p L : Nat} (hp : Per f p) (h : ct f p ∣ L) : Per f (p * (L / ct f p)) ∧ ct f (p * (L / ct f p)) = L := ⟨hp.dvd (Nat.dvd_mul_right _ _), ct_top hp h⟩
/-- whether the fit is asked over some numbers or over more of them -/
theorem fit_more {f g : Nat → Bool} {p q L M : Nat} (hf : Per f p) (hg : Per g q) (h1 : 0 < ct f p) (h2 : 0 < ct g q) (d1 : ct f p ∣ L) (d2 : ct g q ∣ L) (hL : 0 < L) (hM : 0 < M) (d : L ∣ M) : Fit (nthF f) (nthF g) L ↔ Fit (nthF f) (nthF g) M := by
  obtain ⟨k, rfl⟩ := d
  rw [Nat.mul_comm L k]
  have hk : 0 < k := Nat.pos_of_ne_zero fun z => by rw [z] at hM; simp at hM
  have f1 := ct_of hf d1
  have g1 := ct_of hg d2
  have qf := (hf.all h1).quasi f1.1
  have qg := (hg.all h2).quasi g1.1
  rw [f1.2] at qf
  rw [g1.2] at qg
  exact fit_mul qf qg hL hk
theorem ct_diff (f : Nat → Bool) {x y : Nat} (h : x ≤ y) : ct f y + x ≤ y + ct f x := by
  induction h with
  | refl => omega
  | step h ih => rw [ct_succ]; split <;> omega
/-- what is kept of what is kept has room -/
theorem fit_cmp {a g : Nat → Bool} {P : Nat} (ha : Per a P) (hs : 0 < ct a P) (hg : Per g (ct a P)) (h2 : 0 < ct g (ct a P)) : Fit (nthF (cmp a g)) (nthF g) (ct g (ct a P)) := by
  have A := ha.all hs
  have G := hg.all h2
  have hP : Per (cmp a g) P := fun n => by
    unfold cmp
    rw [ha, Nat.add_comm n P, ct_add ha, Nat.add_comm (ct a P), hg]
  have hc : ct (cmp a g) P = ct g (ct a P) := ct_cmp a g P
  have F := hP.all (by rw [hc]; exact h2)
  have key : ∀ i, ct a (nthF (cmp a g) i) = nthF g i := fun i => by
    obtain ⟨h1, h2⟩ := F i
    have h3 : (a (nthF (cmp a g) i) && g (ct a (nthF (cmp a g) i))) = true := h1
    rw [Bool.and_eq_true] at h3
    rw [ct_cmp] at h2
    exact (nthF_eq h3.2 h2).symm
  have e1 := F.per hP 0
  have e2 := G.per hg 0
  rw [hc, Nat.zero_add] at e1
  rw [Nat.zero_add] at e2
  refine ⟨?_, fun i hi => ?_, ?_⟩
  · rw [← key]
    exact ct_le _ _
  · rw [← key, ← key]
    have := ct_diff a (Nat.le_of_lt (F.lt (Nat.lt_succ_self i)))
    omega
  · rw [e1, e2]
    have hlt : nthF (cmp a g) (ct g (ct a P) - 1) < P := F.lt_of (by rw [hc]; omega)
    have := ct_diff a (Nat.le_of_lt hlt)
    rw [key] at this
    omega
/-! ### what begins -/
/-- the numbers with f below P as places a 0 < a 1 .. < a L = P -/
structure Pls (f : Nat → Bool) (P L : Nat) (a : Nat → Nat) : Prop where
  on : ∀ i, i < L → f (a i) = true
  only : ∀ i n, i < L → a i < n → n < a (i + 1) → f n = false
  no : ∀ n, n < a 0 → f n = false
  up : ∀ i, i < L → a i < a (i + 1)
  top : a L = P
/-- the places of the first L numbers, then P -/
noncomputable def plc (f : Nat → Bool) (P L : Nat) (i : Nat) : Nat := if i < L then nthF f i else P
theorem AllN.pls {f : Nat → Bool} (h : AllN f) {P L : Nat} (hL : 0 < L) (hc : ct f P = L) : Pls f P L (plc f P L) := by
  have lo : ∀ i, i < L → plc f P L i = nthF f i := fun i hi => if_pos hi
  have hi' : ∀ i, i < L → plc f P L (i + 1) ≤ nthF f (i + 1) := fun i hi => by
    unfold plc
    split
    · exact Nat.le_refl _
    · exact h.ge (by omega)
  refine ⟨fun i hi => by rw [lo i hi]; exact (h i).1, fun i n hi h1 h2 => ?_, fun n hn => ?_, fun i hi => ?_, if_neg (Nat.lt_irrefl _)⟩
  · rw [lo i hi] at h1
    cases e : f n with
    | false => rfl
    | true =>
      have k1 := ct_lt (h i).1 h1
      have k2 := ct_lt e (Nat.lt_of_lt_of_le h2 (hi' i hi))
      rw [(h i).2] at k1
      rw [(h (i + 1)).2] at k2
      omega
  · rw [lo 0 hL] at hn
    cases e : f n with
    | false => rfl
    | true =>
      have k1 := ct_lt e hn
      rw [(h 0).2] at k1
      omega
  · rw [lo i hi]
    unfold plc
    split
    · exact h.lt (Nat.lt_succ_self i)
    · exact h.lt_of (by omega)
theorem Pls.mono {f : Nat → Bool} {P L : Nat} {a : Nat → Nat} (A : Pls f P L a) : ∀ {j i : Nat}, i ≤ j → j ≤ L → a i ≤ a j
  | 0, i, h, _ => by rw [Nat.le_zero.mp h]; exact Nat.le_refl _
  | j + 1, i, h, hj => by
    by_cases e : i = j + 1
    · rw [e]; exact Nat.le_refl _
    · have := A.mono (j := j) (i := i) (by omega) (by omega)
      have := A.up j (by omega)
      omega
theorem Pls.find {f : Nat → Bool} {P L : Nat} {a : Nat → Nat} (A : Pls f P L a) {n : Nat} (hn : n < P) : n < a 0 ∨ ∃ i, i < L ∧ a i ≤ n ∧ n < a (i + 1) := by
  have key : ∀ k, k ≤ L → n < a k → n < a 0 ∨ ∃ i, i < L ∧ a i ≤ n ∧ n < a (i + 1) := fun k => by
    induction k with
    | zero => intro _ h; exact .inl h
    | succ k ih =>
      intro hk h
      by_cases e : n < a k
      · exact ih (by omega) e
      · exact .inr ⟨k, by omega, by omega, h⟩
  exact key L (Nat.le_refl _) (by rw [A.top]; exact hn)
theorem ct_seg {h : Nat → Bool} {s d e : Nat} (hs : s ≤ e) (k : ∀ m, s ≤ m → m < e → h m = decide (m < s + d)) : ct h e = ct h s + min (e - s) d := by
  induction hs with
  | refl => rw [Nat.sub_self, Nat.zero_min]; rfl
  | step hs ih =>
    rename_i m
    have hs' : s ≤ m := hs
    rw [ct_succ, ih fun m' h1 h2 => k m' h1 (by omega), k m hs' (by omega)]
    by_cases c : m < s + d
    · rw [if_pos (by rw [decide_eq_true c]), Nat.min_eq_left (show m - s ≤ d by omega), Nat.min_eq_left (show m.succ - s ≤ d by omega)]
      omega
    · rw [if_neg (by rw [decide_eq_false c]; decide), Nat.min_eq_right (show d ≤ m - s by omega), Nat.min_eq_right (show d ≤ m.succ - s by omega)]
      rfl
/-- h keeps, in front of each place of f, as many as g counts -/
structure Bgn (h : Nat → Bool) (L : Nat) (a b : Nat → Nat) : Prop where
  low : ∀ n, n < a 0 → h n = decide (n < b 0)
  mid : ∀ i n, i < L → a i ≤ n → n < a (i + 1) → h n = decide (n < a i + (b (i + 1) - b i))
theorem Bgn.ct {f g h : Nat → Bool} {P R L : Nat} {a b : Nat → Nat} (A : Pls f P L a) (B : Pls g R L b) (G : Bgn h L a b) (low : b 0 ≤ a 0) (room : ∀ i, i < L → b (i + 1) + a i ≤ a (i + 1) + b i) : ∀ i, i ≤ L → Sv.ct h (a i) = b i
  | 0, _ => by
    have e := ct_seg (h := h) (s := 0) (d := b 0) (e := a 0) (Nat.zero_le _) fun m _ h2 => by rw [G.low m h2, Nat.zero_add]
    rw [e, Nat.sub_zero, Nat.min_eq_right low]
    show 0 + b 0 = b 0
    omega
  | i + 1, hi => by
    have ih := G.ct A B low room i (by omega)
    have e := ct_seg (h := h) (s := a i) (d := b (i + 1) - b i) (e := a (i + 1)) (Nat.le_of_lt (A.up i (by omega))) fun m h1 h2 => G.mid i m (by omega) h1 h2
    have r := room i (by omega)
    have u := B.up i (by omega)
    rw [e, ih, Nat.min_eq_right (by omega)]
    omega
theorem Bgn.cmp {f g h : Nat → Bool} {P R L : Nat} {a b : Nat → Nat} (A : Pls f P L a) (B : Pls g R L b) (G : Bgn h L a b) (low : b 0 ≤ a 0) (room : ∀ i, i < L → b (i + 1) + a i ≤ a (i + 1) + b i) {n : Nat} (hn : n < P) : Sv.cmp h g n = f n := by
  have C := G.ct A B low room
  show (h n && g (Sv.ct h n)) = f n
  rcases A.find hn with h0 | ⟨i, hi, h1, h2⟩
  · rw [A.no n h0, G.low n h0]
    by_cases hb : n < b 0
    · have e := ct_seg (h := h) (s := 0) (d := b 0) (e := n) (Nat.zero_le _) fun m _ h2 => by rw [G.low m (by omega), Nat.zero_add]
      rw [e, Nat.sub_zero, Nat.min_eq_left (by omega), show Sv.ct h 0 = 0 from rfl, Nat.zero_add, B.no n hb, Bool.and_false]
    · rw [decide_eq_false hb, Bool.false_and]
  · have e := ct_seg (h := h) (s := a i) (d := b (i + 1) - b i) (e := n) h1 fun m h3 h4 => G.mid i m hi h3 (by omega)
    rw [C i (by omega)] at e
    have u := B.up i hi
    rw [G.mid i n hi h1 h2]
    by_cases hb : n < a i + (b (i + 1) - b i)
    · rw [decide_eq_true hb, Bool.true_and, e, Nat.min_eq_left (by omega)]
      by_cases en : n = a i
      · rw [en, Nat.sub_self, Nat.add_zero, B.on i hi, A.on i hi]
      · rw [A.only i n hi (by omega) h2]
        exact B.only i _ hi (by omega) (by omega)
    · rw [decide_eq_false hb, Bool.false_and, A.only i n hi (by omega) h2]
/-- the numbers as they are made -/
def kpt (a b : Nat → Nat) : Nat → List Nat
  | 0 => List.range (b 0)
  | i + 1 => kpt a b i ++ (List.range (b (i + 1) - b i)).map (a i + ·)
theorem kpt_mem {a b : Nat → Nat} {n : Nat} : ∀ {L : Nat}, n ∈ kpt a b L ↔ n < b 0 ∨ ∃ i, i < L ∧ a i ≤ n ∧ n < a i + (b (i + 1) - b i)
  | 0 => by
    show n ∈ List.range (b 0) ↔ _
    rw [List.mem_range]
    constructor
    · exact .inl
    · rintro (h | ⟨i, hi, _⟩)
      · exact h
      · omega
  | L + 1 => by
    show n ∈ kpt a b L ++ (List.range (b (L + 1) - b L)).map (a L + ·) ↔ _
    rw [List.mem_append, kpt_mem, List.mem_map]
    constructor
    · rintro ((h | ⟨i, hi, h1, h2⟩) | ⟨k, hk, e⟩)
      · exact .inl h
      · exact .inr ⟨i, by omega, h1, h2⟩
      · have := List.mem_range.mp hk
        exact .inr ⟨L, by omega, by omega, by omega⟩
    · rintro (h | ⟨i, hi, h1, h2⟩)
      · exact .inl (.inl h)
      · by_cases e : i = L
        · subst e
          exact .inr ⟨n - a i, List.mem_range.mpr (by omega), by omega⟩
        · exact .inl (.inr ⟨i, by omega, h1, h2⟩)
theorem kpt_len {a b : Nat → Nat} : ∀ {L : Nat}, (∀ i, i < L → b i ≤ b (i + 1)) → (kpt a b L).length = b L
  | 0, _ => List.length_range
  | L + 1, h => by
    show (kpt a b L ++ (List.range (b (L + 1) - b L)).map (a L + ·)).length = _
    have := h L (by omega)
    rw [List.length_append, kpt_len fun i hi => h i (by omega), List.length_map, List.length_range]
    omega
theorem kpt_bgn {f g : Nat → Bool} {P R L : Nat} {a b : Nat → Nat} (A : Pls f P L a) (B : Pls g R L b) (low : b 0 ≤ a 0) (room : ∀ i, i < L → b (i + 1) + a i ≤ a (i + 1) + b i) (h : Nat → Bool) (hh : ∀ n, n < P → (h n = true ↔ n ∈ kpt a b L)) : Bgn h L a b := by
  have hP : ∀ i, i ≤ L → a i ≤ P := fun i hi => by rw [← A.top]; exact A.mono hi (Nat.le_refl _)
  refine ⟨fun n hn => ?_, fun i n hi h1 h2 => ?_⟩
  · have hn' : n < P := Nat.lt_of_lt_of_le hn (hP 0 (Nat.zero_le _))
    rw [Bool.eq_iff_iff, hh n hn', kpt_mem, decide_eq_true_eq]
    constructor
    · rintro (h | ⟨i, hi, h1, _⟩)
      · exact h
      · have := A.mono (Nat.zero_le i) (Nat.le_of_lt hi)
        omega
    · exact .inl
  · have hn' : n < P := Nat.lt_of_lt_of_le h2 (hP (i + 1) hi)
    rw [Bool.eq_iff_iff, hh n hn', kpt_mem, decide_eq_true_eq]
    constructor
    · rintro (h | ⟨j, hj, h3, h4⟩)
      · have := A.mono (Nat.zero_le i) (Nat.le_of_lt hi)
        omega
      · rcases Nat.lt_trichotomy j i with c | c | c
        · have r := room j hj
          have u := B.up j hj
          have m := A.mono (show j + 1 ≤ i by omega) (Nat.le_of_lt hi)
          omega
        · rw [← c]; exact h4
        · have m := A.mono (show i + 1 ≤ j by omega) (Nat.le_of_lt hj)
          omega
    · intro h
      exact .inr ⟨i, hi, h1, h⟩
/-- the fit as the places say it -/
theorem fit_plc {f g : Nat → Bool} {P R L : Nat} (A : AllN f) (B : AllN g) (hf : Per f P) (hg : Per g R) (hP : ct f P = L) (hR : ct g R = L) (hL : 0 < L) : Fit (nthF f) (nthF g) L ↔ plc g R L 0 ≤ plc f P L 0 ∧ ∀ i, i < L → plc g R L (i + 1) + plc f P L i ≤ plc f P L (i + 1) + plc g R L i := by
  have e1 := A.per hf 0
  have e2 := B.per hg 0
  rw [hP, Nat.zero_add] at e1
  rw [hR, Nat.zero_add] at e2
  have lf : ∀ i, i < L → plc f P L i = nthF f i := fun i hi => if_pos hi
  have lg : ∀ i, i < L → plc g R L i = nthF g i := fun i hi => if_pos hi
  have tf : plc f P L L = P := if_neg (Nat.lt_irrefl _)
  have tg : plc g R L L = R := if_neg (Nat.lt_irrefl _)
  constructor
  · intro F
    refine ⟨by rw [lf 0 hL, lg 0 hL]; exact F.low, fun i hi => ?_⟩
    by_cases h : i + 1 < L
    · rw [lf i hi, lg i hi, lf _ h, lg _ h]
      exact F.step i h
    · have e : i + 1 = L := by omega
      rw [e, tf, tg, lf i hi, lg i hi]
      have t := F.top
      rw [show L - 1 = i by omega] at t
      omega
  · rintro ⟨h0, h1⟩
    rw [lf 0 hL, lg 0 hL] at h0
    refine ⟨h0, fun i hi => ?_, ?_⟩
    · have := h1 i (by omega)
      rw [lf i (by omega), lg i (by omega), lf _ hi, lg _ hi] at this
      exact this
    · have := h1 (L - 1) (by omega)
      rw [show L - 1 + 1 = L by omega, tf, tg, lf _ (by omega), lg _ (by omega)] at this
      omega
end Sv

/-! Errors of the program's own: raised, let out of a def, caught, read. -/
namespace Sv
open PySem PySem.Spec PyProof.Rows L2

/-! ### facts of an error class -/
section
open He
def oexO (C : Addr) : Option Obj → Bool
  | some ⟨.type "type", _, .cls cd, sl⟩ => (match cd.mro, sl.toList with
    | .ref C' :: bm, [_, _, _, _, some (.builtin n), _] => C' == C && n == "ValueError.__new__" && !cd.hasDel && cd.hasDict && PySem.HandSPX.refsVE bm
    | _, _ => false)
  | _ => false
theorem oexO_ok {C : Addr} {oo : Option Obj} (h : oexO C oo = true) : ∃ nm q N bs bm sn sub ab col dd k0 k1 k2 k3 k5, oo = some (excClassObj nm q C N bs bm true sn sub ab col dd k0 k1 k2 k3 k5 "ValueError.__new__") ∧ PySem.HandSPX.refsVE bm = true := by
  unfold oexO at h
  split at h
  · rename_i dd cd sl
    split at h
    · rename_i C' bm k0 k1 k2 k3 n k5 hm hs
      simp only [Bool.and_eq_true, beq_iff_eq, Bool.not_eq_true'] at h
      obtain ⟨⟨⟨⟨rfl, rfl⟩, hdel⟩, hdc⟩, ht⟩ := h
      obtain ⟨nm, bs, mro, ns, qn, hd, sn, sub, ab, col, del⟩ := cd
      dsimp only at hm hdel hdc
      subst hm hdel hdc
      have hsl : sl = #[k0, k1, k2, k3, some (.builtin "ValueError.__new__"), k5] := by
        obtain ⟨l⟩ := sl
        simp only at hs
        rw [hs]
      subst hsl
      exact ⟨nm, qn, ns, bs, bm, sn, sub, ab, col, dd, k0, k1, k2, k3, k5, rfl, ht⟩
    · cases h
  · cases h
def errB (x fld : Str) (K : PySem.W.Frag) : Bool := oexO (ga K x) (K.lookup (ga K x)) && (eqO (PySem.W.findIn K (.ref (ga K x)) "__setattr__") (some (some (.builtin "object.__setattr__"))) &&
  (decide (PySem.W.subIn K (.ref (ga K x)) (.type "BaseException") = some true) && (decide (PySem.W.typeIn K (.ref (ga K x)) = some (.type "type")) && (PySem.W.keepIn K (.ref (ga K x)) &&
  (eqO (PySem.W.findIn K (.ref (ga K x)) fld) (some none) && (xfB K (ga K x) && (eqO (PySem.W.findIn K (.ref (ga K x)) "__init__") (some (some (.ref (ma K (ga K x) "__init__")))) &&
  decide (PySem.W.typeIn K (.ref (ma K (ga K x) "__init__")) = some (.type "function")))))))))
/-- the class C of the program's own errors, its field fld, its __init__ at f -/
structure ErrC (K : PySem.W.Frag) (C : Addr) (fld : Str) (f : Addr) : Prop where
  T : OexC K C
  no : PySem.W.findIn K (.ref C) fld = some none
  xf : XfC K C
  iC : PySem.W.findIn K (.ref C) "__init__" = some (some (.ref f))
  tI : PySem.W.typeIn K (.ref f) = some (.type "function")
theorem errB_ok {x fld : Str} {K : PySem.W.Frag} (h : errB x fld K = true) : ErrC K (ga K x) fld (ma K (ga K x) "__init__") := by
  obtain ⟨h1, h⟩ := ba h
  obtain ⟨h2, h⟩ := ba h
  obtain ⟨h3, h⟩ := ba h
  obtain ⟨h4, h⟩ := ba h
  obtain ⟨h5, h⟩ := ba h
  obtain ⟨h6, h⟩ := ba h
  obtain ⟨h7, h⟩ := ba h
  obtain ⟨h8, h9⟩ := ba h
  exact ⟨⟨oexO_ok h1, eqO_ok h2, of_decide_eq_true h3, of_decide_eq_true h4, h5⟩, eqO_ok h6, xfB_ok h7, eqO_ok h8, of_decide_eq_true h9⟩
/-- the base's __init__ is ValueError's -/
def vbaseB (x : Str) (K : PySem.W.Frag) : Bool := match PySem.W.findCls K (.ref (ga K x)) (.type "type") "__init__" with
  | some (.val (.builtin n)) => n == "ValueError.__init__"
  | _ => false
theorem vbaseB_ok {x : Str} {K : PySem.W.Frag} (h : vbaseB x K = true) : PySem.W.findCls K (.ref (ga K x)) (.type "type") "__init__" = some (.val (.builtin "ValueError.__init__")) := by
  unfold vbaseB at h
  split at h
  · rename_i n e
    rw [e, beq_iff_eq.mp h]
  · cases h
/-- what isinstance asks of an error class -/
def excCB (x : Str) (K : PySem.W.Frag) : Bool := eqO (PySem.W.findIn K (.ref (ga K x)) "__getattribute__") (some (some (.builtin "BaseException.__getattribute__"))) && (eqO (PySem.W.findIn K (.ref (ga K x)) "__getattr__") (some none) &&
  (decide (PySem.W.subIn K (.ref (ga K x)) (.type "BaseException") = some true) && (PySem.W.hasDictIn K (ga K x) && (eqO (PySem.W.findIn K (.ref (ga K x)) "__class__") (some (some (.builtin "object.__class__"))) &&
  (eqO (PySem.W.specialIn K (.builtin "object.__class__") "__get__") (some (some (.builtin "getset_descriptor.__get__"))) && (decide (PySem.W.takesIn K (.builtin "object.__class__") = some true) && decide (PySem.W.mroIn K (ga K x) (.type "object") = some true)))))))
theorem excCB_ok {x : Str} {K : PySem.W.Frag} (h : excCB x K = true) : ExcC K (ga K x) := by
  obtain ⟨h1, h⟩ := ba h
  obtain ⟨h2, h⟩ := ba h
  obtain ⟨h3, h⟩ := ba h
  obtain ⟨h4, h⟩ := ba h
  obtain ⟨h5, h⟩ := ba h
  obtain ⟨h6, h⟩ := ba h
  obtain ⟨h7, h8⟩ := ba h
  exact ⟨eqO_ok h1, eqO_ok h2, of_decide_eq_true h3, h4, eqO_ok h5, eqO_ok h6, of_decide_eq_true h7, of_decide_eq_true h8⟩
end

/-! ### the __init__ of such a class -/
section
variable {X : Cx} {N L S G B : List Str} {x f : Str} {e o : Expr} {es : List Expr} {σ : L2.St} {H : Hp} {Q : VK} {D : Ends} {p p1 p2 p' pos : Pos}
/-- Base.__init__(self, ..), Base of the program's own, over ValueError -/
theorem w_oinit {C0 : Addr} {pl : Sem Bool} (c : Nm X N L S G B) (mm : Mb x G) (hm : X.mg x = some (.ref C0)) (r : ClX.CRead X.K C0 (.type "type")) (fc : PySem.W.findCls X.K (.ref C0) (.type "type") "__init__" = some (.val (.builtin "ValueError.__init__")))
    (h : WA X (e :: es) σ H fun vs H1 => ∃ (a C : Addr) (ws : List V), vs = .ref a :: ws ∧ ws.length ≤ 1000 ∧ OexC X.K C ∧ H1 a = some (exo a C none) ∧ Q .non H1)
    (hc : eval (.Call (.Attribute (.Name x p1) "__init__" p2) (e :: es) [] pos) X.env = (do
      let ov ← eval (.Name x p1) X.env
      standAt p2.atName
      let (f, first) ← holding [ov] (getMethod ov "__init__" pl)
      callWith pos f first (backTo pos (starEach (e :: es) X.env)) (backToKw pos (keywordEach [] X.env))) := by with_unfolding_all rfl)
    (he : starEach (e :: es) X.env = (false, eval e X.env) :: starEach es X.env := by with_unfolding_all rfl) (hpl : (backTo pos (starEach es X.env)).any (·.1) = false := by with_unfolding_all rfl) :
    WE X (.Call (.Attribute (.Name x p1) "__init__" p2) (e :: es) [] pos) σ H Q := by
  obtain ⟨ag, b, d⟩ := c.glo x mm.mem
  refine ⟨fun pins s I => ?_⟩
  refine PySem.W.methodCall_KW (ld_glob I ag hm ?_ b) hc
  refine PySem.W.method_cls I.kIn r.ga (PySem.W.cls_value I.kIn r.rd fc (by decide +kernel) ?_)
  show wpAny _ _ (callWith pos (Value.builtin "ValueError.__init__") [] (backTo pos (starEach (e :: es) X.env)) []) _ _ _
  refine PyProof.Rows.callWith_method1 (thn (h.run pos pins _ (I.tok _)) fun us s1 ⟨vs, H1, I1, r1, a, C, ws, ev, hl, T, ea, q⟩ => ?_) he hpl
  subst ev
  cases r1 with
  | @cons _ u0 _ ur ra rw' =>
    obtain rfl : u0 = Value.ref a := ra
    have hlen : ur.length ≤ sizeLine := by
      rw [← Paired.length rw', sizeLine_eq]
      omega
    exact oinit_ok T I1 ea hlen fun s' J => ⟨.non, H1, J, rfl, q⟩
/-- self.f = e, self an error that is being made -/
theorem ws_ost (h : WE X e σ H fun y H1 => WE X o σ H1 fun x H2 => ∃ a C : Addr, x = .ref a ∧ OexC X.K C ∧ PySem.W.findIn X.K (.ref C) f = some none ∧ H2 a = some (exo a C none) ∧
      ∀ dx, H2 dx = none → dx ≠ a → D.nx σ (upd (upd H2 dx (exd dx [(f, y)])) a (exo a C (some dx))))
    (hs : swapsWith e (some (.Attribute o f p')) pos.line X.env = pure false := by with_unfolding_all rfl) : WS X (.Assign [.Attribute o f p'] e pos) D σ H :=
  (ps_ost pe_w pe_w hs).w (WE.imp h fun y H1 q => WE.imp q fun x H2 ⟨a, C, ex, T, no, ea, q⟩ => ⟨a, C, ex, T, no, .inl ⟨ea, q⟩⟩)
end
/-- the promise of such an __init__ -/
def spErrI (K : PySem.W.Frag) (C : Addr) (fld : Str) : Sp := fun vs H Q _ => ∃ (a : Addr) (v : V), vs = [.ref a, v] ∧ H a = some (exo a C none) ∧ ∀ dx, H dx = none → dx ≠ a → Q .non (upd (upd H dx (exd dx [(fld, v)])) a (exo a C (some dx)))
/-- the class may be called with one argument -/
structure Err (P : Program) (w : World) (K : PySem.W.Frag) (mg : Str → Option Value) (base : Heap) (C : Addr) (fld : Str) (k : Nat) : Prop where
  ex : ∃ f, ErrC K C fld f ∧ FnR P w K mg base (L2.CX P w) k f (spErrI K C fld)
/-- what makes an exception -/
structure WMk (X : Cx) (e : Expr) (σ : L2.St) (H : Hp) (Q : XK) : Prop where
  run : ∀ (pins : List (Addr × Obj)) (s : Shared), Inv X pins σ H s → wpAny (model X.prog X.w) X.A (eval e X.env) (MkP X pins σ Q) X.xe s
theorem pmk_w {X : Cx} {e : Expr} : PMk X e (WMk X e) := fun pins s σ H Q I h => h.run pins s I
section
variable {X : Cx} {N L S G B : List Str} {x : Str} {e : Expr} {σ : L2.St} {H : Hp} {p pos : Pos} {C : Addr} {fld : Str} {j k : Nat}
theorem wmk_err {Q : XK} (c : Nm X N L S G B) (mm : Mb x G) (hm : X.mg x = some (.ref C)) (F0 : Err X.prog X.w X.K X.mg X.base C fld k) (hr : Room j X.A) (hj : k + 1 ≤ j) (h : WE X e σ H fun v H1 => ∀ d, H1 d = none → Q (.ref C) (some d) (upd H1 d (.xd [(fld, v)])))
    (he : starEach [e] X.env = (false, eval e X.env) :: starEach [] X.env := by with_unfolding_all rfl) (hpl : (backTo pos (starEach [] X.env)).any (·.1) = false := by with_unfolding_all rfl) : WMk X (.Call (.Name x p) [e] [] pos) σ H Q := by
  obtain ⟨fI, Er, F1⟩ := F0.ex
  have T := Er.T
  obtain ⟨nm, q, N', bs, bm, sn, sub, ab, col, dd, k0, k1, k2, k3, k5, hC, hbm⟩ := T.cls
  obtain ⟨ag, b, d⟩ := c.glo x mm.mem
  refine ⟨fun pins s I => wpAny_Call_Name_kw (ld_glob I ag hm ?_ b)⟩
  have ha : WA X [e] σ H fun vs H1 => ∃ v, vs = [v] ∧ ∀ d, H1 d = none → Q (.ref C) (some d) (upd H1 d (.xd [(fld, v)])) := wa_cons (WE.imp h fun v H1 q => wa_nil ⟨v, rfl, q⟩) he
  refine PySem.W.callWith_K (h₀ := X.base) I.ok.mod.kin T.kC (thn (ha.run pos pins s I) fun us s1 ⟨vs, H1, I1, r1, v, ev, q1⟩ => ⟨I1.kIn, ?_⟩) he hpl
  subst ev
  show wpAny _ _ (call (.ref C) us) _ _ _
  have hus : us.length ≤ sizeLine := by
    rw [← Paired.length r1, sizeLine_eq]
    show 1 ≤ 16777216
    omega
  obtain ⟨hp, g, dr, tk, os⟩ := s1
  have hsz : hp.objs.size ≤ hp.objs.size + 1 := Nat.le_succ _
  have hn : H1 (hp.objs.size + 1) = none := I1.hok.fresh hsz
  have kk : ∀ b o, hp.get? b = some o → ((hp.push (PySem.W.kdv_tup us)).push (PySem.HandSPX.excO C hp.objs.size)).get? b = some o := fun b o e => Heap.get?_push_of_some _ (Heap.get?_push_of_some _ e)
  have hget : ((hp.push (PySem.W.kdv_tup us)).push (PySem.HandSPX.excO C hp.objs.size)).get? (hp.objs.size + 1) = some (PySem.HandSPX.excO C hp.objs.size) := by heap_get
  have I2 : Inv X pins σ (upd H1 (hp.objs.size + 1) (exo (hp.objs.size + 1) C none)) ⟨(hp.push (PySem.W.kdv_tup us)).push (PySem.HandSPX.excO C hp.objs.size), g, dr, tk, os⟩ :=
    I1.laid (t' := tk) (a := hp.objs.size + 1) (o := exo (hp.objs.size + 1) C none) (h' := (hp.push (PySem.W.kdv_tup us)).push (PySem.HandSPX.excO C hp.objs.size)) kk hsz (exo_ok hget)
  have r2 : Vals [V.ref (hp.objs.size + 1), v] (Value.ref (hp.objs.size + 1) :: us) := .cons rfl r1
  have hr2 : Room (k + 1) X.A := hr.mono hj
  have hq : spErrI X.K C fld [V.ref (hp.objs.size + 1), v] (upd H1 (hp.objs.size + 1) (exo (hp.objs.size + 1) C none)) (fun v' H2 => v' = .non ∧ ∃ (d : Addr), H2 (hp.objs.size + 1) = some (exo (hp.objs.size + 1) C (some d)) ∧ H2 d = some (exd d [(fld, v)]) ∧ H1 d = none ∧
      Q (.ref C) (some d) (upd (del H2 (hp.objs.size + 1)) d (.xd [(fld, v)]))) E0 := by
    refine ⟨_, v, rfl, upd_same, fun dx hdx hne => ⟨rfl, dx, upd_same, ?_, ?_, ?_⟩⟩
    · rw [upd_ne hne, upd_same]
    · rw [upd_ne hne] at hdx
      exact hdx
    · rw [upd_ne hne] at hdx
      have hH : upd (del (upd (upd (upd H1 (hp.objs.size + 1) (exo (hp.objs.size + 1) C none)) dx (exd dx [(fld, v)])) (hp.objs.size + 1) (exo (hp.objs.size + 1) C (some dx))) (hp.objs.size + 1)) dx (.xd [(fld, v)]) = upd H1 dx (.xd [(fld, v)]) := by
        funext b
        by_cases hb : b = dx
        · rw [hb, upd_same, upd_same]
        · rw [upd_ne hb, upd_ne hb]
          by_cases hb2 : b = hp.objs.size + 1
          · rw [hb2, del_same, hn]
          · rw [del_ne hb2, upd_ne hb2, upd_ne hb, upd_ne hb2]
      rw [hH]
      exact q1 dx hdx
  refine wpAny_call (PySem.HandSPX.call_own F.excBase_ValueError (fun Y => PySem.HandSPX.refsVE_contains Y bm hbm) (I1.kIn _ _ hC) (PySem.W.looks_findIn I1.kIn Er.iC) (fun self => PySem.W.bind_fn I1.kIn self Er.tI) hus
    (codeAny_mono (F1 _ X.stack _ _ (Value.ref (hp.objs.size + 1) :: us) [V.ref (hp.objs.size + 1), v] _ E0 (hr2.make C us []) (I2.env0.make C us []) r2 hq) fun r s' hq' => ?_))
  cases r with
  | error er => exact (passL (X := X) pins σ _ _ er s' I2 hq')
  | ok fl =>
    cases fl with
    | ret u =>
      obtain ⟨v', H2, os2, bare2, un2, hok2, rv, ev, d', ea, ed, hd1, q2⟩ := hq'
      subst ev
      obtain ⟨h2, g2, d2, t2, os'⟩ := s'
      exact ⟨rv, mk_end (raises_own T.exC T.tyC) I1 hsz kk un2 hok2 os2 bare2 ea ed hd1 q2⟩
    | next => exact False.elim hq'
    | brk => exact False.elim hq'
    | cont => exact False.elim hq'
/-- raise C(e) -/
theorem ws_raise {W : L2.WX} {D : Ends} {pos2 : Pos} (c : Nm X N L S G B) (tk : Takes X W) (h : WMk X e σ H fun cls d H' => W cls d σ H') : WS X (.Raise (some e) none pos2) D σ H := (ps_raise c.calm tk pmk_w).w h
end

/-! ### calls that may let an error out -/
theorem passE {X : Cx} {W : L2.WX} {E : XK} (tk : Takes X W) (h : ∀ cls d σ H, E cls d H → W cls d σ H) : Passes (L2.CX X.prog X.w) X E := fun pins σ H s e s' I c => tk e s' (XE.of_call I (fun cls d H' hE => h cls d σ H' hE) c)
theorem passA {X : Cx} {W : L2.WX} (tk : Takes X W) (σ : L2.St) : PassesAt (L2.CX X.prog X.w) X σ (fun cls d H => W cls d σ H) := fun pins H s e s' I c => tk e s' (XE.of_call I (fun _ _ _ h => h) c)
section
variable {X : Cx} {N L S G B : List Str} {x : Str} {e : Expr} {es : List Expr} {σ : L2.St} {H : Hp} {Q : VK} {p pos : Pos} {j k : Nat} {sp : Sp} {E : XK}
theorem run_fnA {f : Addr} {pins : List (Addr × Obj)} {s : Shared} {us : List Value} {vs : List V} (F : FnR X.prog X.w X.K X.mg X.base (L2.CX X.prog X.w) k f sp) (hr : Room k X.A) (hx : PassesAt (L2.CX X.prog X.w) X σ E) (I : Inv X pins σ H s) (r : Vals vs us) (h : sp vs H Q E) :
    wpAny (model X.prog X.w) X.A (call (.ref f) us) (EP X pins σ Q) X.xe s := by
  refine wpAny_call (codeAny_mono (F X.A X.stack s H us vs Q E hr I.env0 r h) fun r s' hq => ?_)
  cases r with
  | error e => exact hx pins H s e s' I hq
  | ok fl =>
    cases fl with
    | ret u => exact I.after hq
    | next => exact False.elim hq
    | brk => exact False.elim hq
    | cont => exact False.elim hq
theorem w_callA (c : Nm X N L S G B) (mm : Mb x G) (F : Fn X.prog X.w X.K X.mg X.base x k sp) (hr : Room j X.A) (hj : k ≤ j) (hx : PassesAt (L2.CX X.prog X.w) X σ E) (h : WA X (e :: es) σ H fun vs H1 => sp vs H1 Q E)
    (he : starEach (e :: es) X.env = (false, eval e X.env) :: starEach es X.env := by with_unfolding_all rfl) (hpl : (backTo pos (starEach es X.env)).any (·.1) = false := by with_unfolding_all rfl) : WE X (.Call (.Name x p) (e :: es) [] pos) σ H Q := by
  obtain ⟨f, hm, hk, F⟩ := F.ex
  obtain ⟨a, b, d⟩ := c.glo x mm.mem
  refine ⟨fun pins s I => wpAny_Call_Name_kw (ld_glob I a hm ?_ b)⟩
  refine PySem.W.callWith_K (h₀ := X.base) I.ok.mod.kin hk (thn (h.run pos pins s I) fun us s1 ⟨vs, H1, I1, r, q⟩ => ⟨I1.kIn, ?_⟩) he hpl
  exact run_fnA F (hr.mono hj) hx I1 r q
end
theorem Nm.tr {X : Cx} {N L S G B : List Str} (c : Nm X N L S G B) {pn : List (Addr × Obj)} {xe : Value → Shared → Prop} : Nm (X.tr pn xe) N L S G B := ⟨c.names, c.nd, c.vis, c.sto, c.glo, c.blt, c.bgl, c.calm⟩

/-! ### try with clauses, each with its name -/
abbrev Cls3 : Type := Value × Nat × (Addr → Value → Option Addr → TS)
/-- the ends of a suite: the clause's name goes -/
def goneD (D : Ends) (i : Nat) : Ends := { nx := fun σ' H' => D.nx (σ'.set i none) H', rt := D.rt, bk := fun σ' H' => D.bk (σ'.set i none) H', ct := fun σ' H' => D.ct (σ'.set i none) H' }
def wClauses (K : PySem.W.Frag) (Wout : L2.WX) (D : Ends) : List Cls3 → L2.WX
  | [] => Wout
  | (c, i, ts) :: r => fun cls d σ H => ∃ b, PySem.W.exmOne K cls c = some b ∧ (b = true → ∀ a, H a = none → ts a cls d (goneD D i) (σ.set i (some (.ref a))) H) ∧ (b = false → wClauses K Wout D r cls d σ H)
/-- the clauses as they stand, and what each wishes -/
inductive HdA (X : Cx) : List ExceptHandler → List Cls3 → Prop
  | nil : HdA X [] []
  | cons {x n : Str} {c : Value} {i : Nat} {b₀ : Stmt} {suite : List Stmt} {np pos' : Pos} {hds : List ExceptHandler} {l : List Cls3} (hi : X.N[i]? = some n) (hln : X.env.kindOf n = some .local) (hc : Names X x c) (r : HdA X hds l) :
      HdA X (.ExceptHandler (some (.Name x np)) (some n) (b₀ :: suite) pos' :: hds)
        ((c, i, fun a cls d D σ H => ∀ (oe : Obj) (pn : List (Addr × Obj)), Zc cls d oe → (∃ vs, oe.data = .fields vs) → WL (X.suite a ((a, oe) :: pn)) (b₀ :: suite) D σ H) :: l)
theorem ws_try {X : Cx} {body : List Stmt} {h₀ : ExceptHandler} {hds : List ExceptHandler} {l : List Cls3} {pos : Pos} {Wout : L2.WX} {D : Ends} {σ : L2.St} {H : Hp} (hs : X.stack = X.env :: X.outer) (hf : X.env.frame = some X.env.locals) (hN : X.N.Nodup) (tk : Takes X Wout) (hh : HdA X (h₀ :: hds) l)
    (hb : ∀ (pn : List (Addr × Obj)) (xe : Value → Shared → Prop), Takes (X.tr pn xe) (wClauses X.K Wout D l) → PassesOwn (model X.prog X.w) X.A X.env xe → WL (X.tr pn xe) body D σ H) : WS X (.Try body (h₀ :: hds) [] [] pos) D σ H := by
  refine ⟨fun pins s I => ?_⟩
  have ok := I.ok
  have hfr : X.A.frames = some (X.env :: X.outer) := by rw [ok.frames, hs]
  refine wpAny_Try_except ?_
  refine wpAny_mono ((hb (X.pn ++ pins) (fun e s₁ => wpAny (model X.prog X.w) X.A (noteFrame e X.env) (fun _ s₂ => wpAny (model X.prog X.w) X.A (setFlight e none) (fun _ s₃ =>
    wpAny (model X.prog X.w) X.A (handleBy e X.env (h₀ :: hds)) (SP X pins D) X.xe s₃) X.xe s₂) X.xe s₁) (fun u s' xx => ?_) PassesOwn.looking).run [] s (I.toTry _)) (fun f s1 hsp => ?_) (fun e s1 he => he)
  · obtain ⟨a, B, sI, pins', σ', H', cls, d, rfl, J', nb, up, sky, na, os, ag, w⟩ := xx
    have J : Inv X pins σ' H' sI := J'.ofTry ok
    have sky' : Sky B (X.env :: X.outer) a (Zc cls d) X.env.locals s'.heap := by rw [← hs]; exact sky
    show wpAny (model X.prog X.w) X.A (noteFrame (.ref a) X.env) _ _ _
    refine Sky.land Zc.steady hfr hf sky' fun h3 fl3 up3 => ?_
    have J3 : Inv X pins σ' H' { s' with heap := h3 } := J.landed nb fl3.1 (up.trans up3) os ag
    obtain ⟨oe3, vs3, he3, hz3, hd3⟩ := fl3.there
    have notFr : ∀ {h : Heap} {o : Obj} {vs : Array Value}, h.FunFrames B (X.env :: X.outer) → h.get? a = some o → o.data = .fields vs → a ∉ frs (X.env :: X.outer) := fun {h o vs} ff e dd hm => by
      obtain ⟨_, o', e', hnf⟩ := ff.mem hm
      rw [e] at e'; cases e'
      exact hnf _ dd
    have nfr := notFr fl3.2.2.1 he3 hd3
    have nL : a ≠ X.env.locals := fun z => nfr (List.mem_filterMap.mpr ⟨X.env, List.mem_cons_self, by rw [hf, z]⟩)
    have nF : a ∉ X.fs := fun hm => by
      obtain ⟨e, he, q⟩ := List.mem_filterMap.mp hm
      exact nfr (List.mem_filterMap.mpr ⟨e, List.mem_cons_of_mem _ he, q⟩)
    have S3 := J3.suite he3 hd3 na nL nF
    have go : ∀ {hds' : List ExceptHandler} {l' : List Cls3}, HdA X hds' l' → wClauses X.K Wout D l' cls d σ' H' →
        wpAny (model X.prog X.w) X.A (handleBy (.ref a) X.env hds') (SP X pins D) X.xe { s' with heap := h3 } := by
      intro hds' l' hk
      induction hk with
      | nil =>
        intro w
        refine wpAny_handleBy_nil ?_
        obtain ⟨k1, k2, k3, oe, vs, T, oT, ts', he, hz, hd, h1, hr⟩ := id fl3
        unfold PySem.passOn
        refine wpAny_bind (wpAny_field he hd h1 ?_)
        rw [if_neg (show ¬ ((Value.ref T == Value.none) = true) from by simp)]
        have fin : wpAny (model X.prog X.w) X.A (setFlight (.ref a) X.env.frame) (fun _ s4 => wpAny (model X.prog X.w) X.A (throw (.ref a) : Sem Flow) (SP X pins D) X.xe s4) X.xe { s' with heap := h3 } := by
          rw [hf]
          refine HandSPX.setFlight_upZ fl3 fun h4 hh4 up4 => wpAny_throw (tk _ _ ?_)
          exact ⟨a, B, sI, pins, σ', H', cls, d, rfl, J, nb, (up.trans up3).trans up4, .inr (.inr (by rw [hs]; exact hh4)), na, os, ag, w⟩
        first
          | exact wpAny_bind (wpAny_pure (wpAny_bind fin))
          | exact wpAny_bind fin
      | @cons x n c i b₀ suite np pos' hds2 l2 hi hln hc r ih =>
        intro w
        obtain ⟨b, hb1, hyes, hno⟩ := w
        have hloc : Loc X.env.scope n := .inl hln
        refine wpAny_handleBy_cons (codeAny_handlers_test ?_) (by intro q; cases q)
        have LT : PySem.W.Looks (model X.prog X.w) h3 (typeOf (.ref a)) cls := fun A Q E s k q => wpAny_typeOf_ref (k _ _ he3) (by rw [hz3.1]; exact q)
        have LM := PySem.W.exm_one (M := model X.prog X.w) (J3.kIn) LT hb1
        have test : ∀ {Q : Value → Shared → Prop} {E : Value → Shared → Prop}, Q c { s' with heap := h3 } → wpAny (model X.prog X.w) (X.A.mark (some (.ref a))) (eval (.Name x np) X.env) Q E { s' with heap := h3 } := fun {Q E} q => by
          obtain ⟨hg, hdbg, hm | ⟨hm, hv, hnn⟩⟩ := hc
          · exact ld_glob (X := X.suite a ((a, oe3) :: (X.pn ++ pins))) S3 hg hm q hdbg
          · exact ld_blt (X := X.suite a ((a, oe3) :: (X.pn ++ pins))) S3 hg hm hv q hnn hdbg
        refine test (LM.here ?_)
        cases b with
        | true =>
          refine codeAny_handlers_suite_as ?_
          refine HandSPX.lands_againZ fl3 fun h4 fl4 up4 => ?_
          have J4 : Inv X pins σ' H' { s' with heap := h4 } := J.landed nb fl4.1 ((up.trans up3).trans up4) os ag
          obtain ⟨oe4, vs4, he4, hz4, hd4⟩ := fl4.there
          have S4 := J4.suite he4 hd4 na nL nF
          refine store_ok (X := X.suite a ((a, oe4) :: (X.pn ++ pins))) (v := .ref a) S4 hN hi hloc rfl (fun s5 S5 => ?_) (.inr hln)
          refine wpAny_mono ((hyes rfl a na oe4 (X.pn ++ pins) hz4 ⟨_, hd4⟩).run [] s5 S5) (fun f s6 hsp => ?_) (fun _ _ z => False.elim z)
          have end_ : ∀ {σ6 : L2.St} {H6 : Hp} {Q : Shared → Prop}, Inv (X.suite a ((a, oe4) :: (X.pn ++ pins))) [] σ6 H6 s6 → (∀ s7, Inv X pins (σ6.set i none) H6 s7 → Q s7) →
              wpAny (model X.prog X.w) X.A (do bindName X.env n .none; unbindBehindTheSuite X.env n pos') (fun _ s7 => Q s7) X.xe s6 := fun {σ6 H6 Q} S6 hq => gone_ok (S6.unsuite ok) hN hi hln hq
          cases f with
          | next =>
            obtain ⟨σ6, H6, S6, q6⟩ := hsp
            exact end_ S6 fun s7 J7 => ⟨_, _, J7, q6⟩
          | brk =>
            obtain ⟨σ6, H6, S6, q6⟩ := hsp
            exact end_ S6 fun s7 J7 => ⟨_, _, J7, q6⟩
          | cont =>
            obtain ⟨σ6, H6, S6, q6⟩ := hsp
            exact end_ S6 fun s7 J7 => ⟨_, _, J7, q6⟩
          | ret u =>
            obtain ⟨v6, σ6, H6, S6, r6, q6⟩ := hsp
            exact end_ S6 fun s7 J7 => ⟨_, _, _, J7, r6, q6⟩
        | false =>
          show wpAny _ X.A (handleBy (.ref a) X.env hds2) _ _ _
          exact ih (hno rfl)
    exact go hh w
  · cases f with
    | next =>
      obtain ⟨σ', H', J', q⟩ := hsp
      exact wpAny_execs_nil ⟨σ', H', J'.ofTry ok, q⟩
    | brk =>
      obtain ⟨σ', H', J', q⟩ := hsp
      exact ⟨σ', H', J'.ofTry ok, q⟩
    | cont =>
      obtain ⟨σ', H', J', q⟩ := hsp
      exact ⟨σ', H', J'.ofTry ok, q⟩
    | ret u =>
      obtain ⟨v, σ', H', J', r, q⟩ := hsp
      exact ⟨v, σ', H', J'.ofTry ok, r, q⟩
end Sv

/-! zip of three lists, extend, list(range(a, b)). -/
namespace Sv
open PySem PySem.Spec PyProof.Rows L2

/-- the lists at a, b, c as they stand at each turn, the items in new tuples; n turns -/
def Itz3 (K : PySem.W.Frag) (n : Nat) (a b c : Addr) : It :=
  ⟨fun i H => i < n ∧ ∃ (xs ys zs : List V) (x y z : V), SqL K H a xs ∧ SqL K H b ys ∧ SqL K H c zs ∧ xs[i]? = some x ∧ ys[i]? = some y ∧ zs[i]? = some z,
    fun i H v H' => ∃ T x y z, v = .ref T ∧ H T = none ∧ H' = upd H T (.tup [x, y, z]) ∧ (∀ xs, SqL K H a xs → xs[i]? = some x) ∧ (∀ ys, SqL K H b ys → ys[i]? = some y) ∧ ∀ zs, SqL K H c zs → zs[i]? = some z,
    fun i H => n ≤ i ∧ ∃ xs ys zs : List V, SqL K H a xs ∧ SqL K H b ys ∧ SqL K H c zs ∧ n = min (min xs.length ys.length) zs.length⟩
theorem turn_zip3 {P : Program} {w : World} {K : PySem.W.Frag} {n : Nat} {elts : List Expr} {kk : Nat} {tpos : Pos} {a b c z TI TO i1 i2 i3 : Addr} (S : ZipSep3 z TI TO i1 i2 i3 [i1, a] [i2, b] [i3, c]) (na : a ≠ i1) (nb : b ≠ i2) (nc : c ≠ i3) :
    Turn P w K (.Tuple elts kk tpos) (Itz3 K n a b c) [z, TI, TO, i1, i2, i3] z (fun i h => i ≤ n ∧ IsZip h z TI TO .none ∧ IsTupOf3 h TI (.ref i1) (.ref i2) (.ref i3) ∧ (∃ a1 a2 a3, IsTupOf3 h TO a1 a2 a3) ∧ h.IsListIter i1 a i ∧ h.IsListIter i2 b i ∧ h.IsListIter i3 c i) where
  mem := by simp
  obj := fun i h st q hq => by
    obtain ⟨_, hz, hTI, ⟨x, y, u, hTO⟩, ⟨o1, e1, _, d1⟩, ⟨o2, e2, _, d2⟩, ⟨o3, e3, _, d3⟩⟩ := st
    have e' : q = z ∨ q = TI ∨ q = TO ∨ q = i1 ∨ q = i2 ∨ q = i3 := by simpa using hq
    rcases e' with q | q | q | q | q | q
    · rw [q]; exact ⟨_, hz, fun v q => nomatch q⟩
    · rw [q]; exact ⟨_, hTI, fun v q => nomatch q⟩
    · rw [q]; exact ⟨_, hTO, fun v q => nomatch q⟩
    · rw [q]; exact ⟨o1, e1, fun v q => by rw [d1] at q; cases q⟩
    · rw [q]; exact ⟨o2, e2, fun v q => by rw [d2] at q; cases q⟩
    · rw [q]; exact ⟨o3, e3, fun v q => by rw [d3] at q; cases q⟩
  keep := fun i h h' st k => by
    obtain ⟨hn, hz, hTI, ⟨x, y, u, hTO⟩, h1, h2, h3⟩ := st
    exact ⟨hn, k z (by simp) _ hz, k TI (by simp) _ hTI, ⟨x, y, u, k TO (by simp) _ hTO⟩, h1.at fun o q => k i1 (by simp) o q, h2.at fun o q => k i2 (by simp) o q, h3.at fun o q => k i3 (by simp) o q⟩
  item := by
    intro X hP hw hK hc i pins s σ H E I hf st hg
    subst hP hw hK
    obtain ⟨hn, hz, hTI, hTO, h1, h2, h3⟩ := st
    obtain ⟨hin, xs, ys, zs, x, y, u, hqx, hqy, hqz, hx, hy, hu⟩ := hg
    obtain ⟨its, rv, p, _⟩ := I.list hqx
    obtain ⟨its2, rv2, p2, _⟩ := I.list hqy
    obtain ⟨its3, rv3, p3, _⟩ := I.list hqz
    obtain ⟨v1, hv1, ru1⟩ := rv.get hx
    obtain ⟨v2, hv2, ru2⟩ := rv2.get hy
    obtain ⟨v3, hv3, ru3⟩ := rv3.get hu
    have hh := I.ok.hd hc
    have l1 := (List.getElem?_eq_some_iff.mp hv1).1
    have l2 := (List.getElem?_eq_some_iff.mp hv2).1
    have l3 := (List.getElem?_eq_some_iff.mp hv3).1
    have G := GoesN.zip3 (A := X.A) (elts := elts) (x1 := kk) (pos := tpos) S (Draws.list (prog := X.prog) (w := X.w) (A := X.A.in1) hh i1 a na its.toArray) (Draws.list (prog := X.prog) (w := X.w) (A := X.A.in1) hh i2 b nb its2.toArray) (Draws.list (prog := X.prog) (w := X.w) (A := X.A.in1) hh i3 c nc its3.toArray)
    refine thn (G.goes i s (fun u s2 => ∃ x H', Inv X pins σ H' s2 ∧ RelV x u ∧ (Itz3 X.K n a b c).yld i H x H' ∧ (i + 1 ≤ n ∧ IsZip s2.heap z TI TO .none ∧ IsTupOf3 s2.heap TI (.ref i1) (.ref i2) (.ref i3) ∧ (∃ a1 a2 a3, IsTupOf3 s2.heap TO a1 a2 a3) ∧ s2.heap.IsListIter i1 a (i + 1) ∧ s2.heap.IsListIter i2 b (i + 1) ∧ s2.heap.IsListIter i3 c (i + 1)) ∧ ∀ q ∈ [z, TI, TO, i1, i2, i3], H' q = none) E (by rw [List.size_toArray, List.size_toArray, List.size_toArray]; omega) ⟨hz, hTI, hTO, ⟨h1, p.isList⟩, ⟨h2, p2.isList⟩, h3, p3.isList⟩ fun v h' tk y' st' k _ => ?_) fun r s1 h => h
    obtain ⟨T, x', y', u', rfl, hT, e1, e2, e3, ht⟩ := y'
    obtain ⟨kz, kTI, kTO, ⟨k1, _⟩, ⟨k2, _⟩, k3, _⟩ := st'
    have q1 : x' = v1 := by rw [List.getElem?_toArray, hv1] at e1; exact (Option.some.inj e1).symm
    have q2 : y' = v2 := by rw [List.getElem?_toArray, hv2] at e2; exact (Option.some.inj e2).symm
    have q3 : u' = v3 := by rw [List.getElem?_toArray, hv3] at e3; exact (Option.some.inj e3).symm
    subst q1 q2 q3
    have new : ObjOk X.prog X.w (upd H T (.tup [x, y, u])) h' T (.tup [x, y, u]) := ⟨by show 3 ≤ sizeLine; decide, [x', y', u'], .cons ru1 (.cons ru2 (.cons ru3 .nil)), by
      obtain ⟨o, ho, hcl, m, hd⟩ := ht
      exact ⟨o, ho, hcl, m, by simpa using hd⟩⟩
    have I1 : Inv X pins σ (upd H T (.tup [x, y, u])) { s with heap := h', toks := tk } :=
      I.turnedNew (ch := [z, TI, TO, i1, i2, i3]) (fun q ob hb e => k q ob (fun z' => hb (by
        rcases List.mem_cons.mp z' with r | z'
        · rw [r]; simp
        rcases List.mem_cons.mp z' with r | z'
        · rw [r]; simp
        rcases List.mem_cons.mp z' with r | z'
        · rw [r]; simp
        rcases List.mem_cons.mp z' with r | z'
        · rw [r]; simp
        rcases List.mem_cons.mp z' with r | z'
        · rw [r]; simp
        cases z')) e) hf hT new
    refine ⟨.ref T, _, I1, rfl, ⟨T, x, y, u, rfl, I.hok.fresh hT, rfl, fun l hl => by rw [I.list_inj hl hqx]; exact hx, fun l hl => by rw [I.list_inj hl hqy]; exact hy, fun l hl => by rw [I.list_inj hl hqz]; exact hu⟩, ⟨hin, kz, kTI, kTO, k1, k2, k3⟩, fun q hq => ?_⟩
    have hlt : q < s.heap.objs.size := by
      have e' : q = z ∨ q = TI ∨ q = TO ∨ q = i1 ∨ q = i2 ∨ q = i3 := by simpa using hq
      rcases e' with r | r | r | r | r | r
      · rw [r]; exact Heap.lt_size hz
      · rw [r]; exact Heap.lt_size hTI
      · obtain ⟨_, _, _, hTO⟩ := hTO
        rw [r]; exact Heap.lt_size hTO
      · rw [r]; obtain ⟨_, e1, _⟩ := h1; exact Heap.lt_size e1
      · rw [r]; obtain ⟨_, e1, _⟩ := h2; exact Heap.lt_size e1
      · rw [r]; obtain ⟨_, e1, _⟩ := h3; exact Heap.lt_size e1
    rw [upd_ne (Nat.ne_of_lt (Nat.lt_of_lt_of_le hlt hT))]
    exact (hf q hq).1
  done := by
    intro X hP hw hK hc i pins s σ H E I hf st hg
    subst hP hw hK
    obtain ⟨hn, hz, hTI, hTO, h1, h2, h3⟩ := st
    obtain ⟨hin, xs, ys, zs, hqx, hqy, hqz, hmin⟩ := hg
    have e : i = n := Nat.le_antisymm hn hin
    subst e
    obtain ⟨its, rv, p, _⟩ := I.list hqx
    obtain ⟨its2, rv2, p2, _⟩ := I.list hqy
    obtain ⟨its3, rv3, p3, _⟩ := I.list hqz
    have l1 := rv.length
    have l2 := rv2.length
    have l3 := rv3.length
    have hh := I.ok.hd hc
    have G := GoesN.zip3 (A := X.A) (elts := elts) (x1 := kk) (pos := tpos) S (Draws.list (prog := X.prog) (w := X.w) (A := X.A.in1) hh i1 a na its.toArray) (Draws.list (prog := X.prog) (w := X.w) (A := X.A.in1) hh i2 b nb its2.toArray) (Draws.list (prog := X.prog) (w := X.w) (A := X.A.in1) hh i3 c nc its3.toArray)
    have en : min (min its.toArray.size its2.toArray.size) its3.toArray.size = i := by rw [List.size_toArray, List.size_toArray, List.size_toArray]; omega
    refine thn (G.stops s (fun s1 => Inv X pins σ H s1) E (by rw [en]; exact ⟨hz, hTI, hTO, ⟨h1, p.isList⟩, ⟨h2, p2.isList⟩, h3, p3.isList⟩) fun h' tk k _ => ?_) fun r s1 h => h
    exact I.turnedL (ch := [z, TI, TO, i1, i2, i3]) (fun q ob hb e => k q ob (fun z' => hb (by
        rcases List.mem_cons.mp z' with r | z'
        · rw [r]; simp
        rcases List.mem_cons.mp z' with r | z'
        · rw [r]; simp
        rcases List.mem_cons.mp z' with r | z'
        · rw [r]; simp
        rcases List.mem_cons.mp z' with r | z'
        · rw [r]; simp
        rcases List.mem_cons.mp z' with r | z'
        · rw [r]; simp
        cases z')) e) hf
  self := fun A i s Q E st h => wpAny_pyIter_zip st.2.1 h
def iZip3 (K : PySem.W.Frag) (ta : TA) : TI := fun σ H R => ta σ H fun vs H1 => ∃ a b c xs ys zs, vs = [.ref a, .ref b, .ref c] ∧ SqL K H1 a xs ∧ SqL K H1 b ys ∧ SqL K H1 c zs ∧ R (Itz3 K (min (min xs.length ys.length) zs.length) a b c) H1
theorem pi_zip3 {X : Cx} {e e2 e3 : Expr} {ta : TA} {p pos tpos : Pos} {elts : List Expr} {kk : Nat} (hg : Gl X "zip") (hm : X.mg "zip" = none) (ha : PA X [e, e2, e3] ta)
    (hs : starEach [e, e2, e3] X.env = (false, eval e X.env) :: starEach [e2, e3] X.env := by rfl) (hpl : (backTo pos (starEach [e2, e3] X.env)).any (·.1) = false := by rfl) :
    PI X (.Tuple elts kk tpos) (.Call (.Name "zip" p) [e, e2, e3] [] pos) (iZip3 X.K ta) := by
  refine ⟨fun pins s σ H R I h => ?_⟩
  refine Call_ (ld_blt I hg hm PyProof.Rows.boot_zip (PyProof.Rows.callWith_type1 (thn (ha.run pos pins s σ H _ I h) fun us s1 ⟨vs, H1, I1, r1, q1⟩ => ?_) hs hpl))
  obtain ⟨a, b, c, xs, ys, zs, ex, hqx, hqy, hqz, q⟩ := q1
  subst ex
  cases r1 with
  | cons r rr =>
    cases rr with
    | cons r' rr =>
      cases rr with
      | cons r'' rr =>
        cases rr
        cases r
        cases r'
        cases r''
        obtain ⟨its, rv, p1, _⟩ := I1.list hqx
        obtain ⟨its2, rv2, p2, _⟩ := I1.list hqy
        obtain ⟨its3, rv3, p3, _⟩ := I1.list hqz
        have la : a < s1.heap.objs.size := p1.lt
        have lb : b < s1.heap.objs.size := p2.lt
        have lc : c < s1.heap.objs.size := p3.lt
        refine zip_begins3 (begins_list a its.toArray) (begins_list b its2.toArray) (begins_list c its3.toArray) p1.isList p2.isList p3.isList fun h' hz hTI hTO h1 h2 h3 hsz hk => wpAny_pyIter_zip hz ?_
        have I2 : Inv X pins σ H1 { s1 with heap := h' } := I1.kept (t' := s1.toks) hk
        have S := zip_sep3 (N := s1.heap.objs.size) (fp1 := [a]) (fp2 := [b]) (fp3 := [c]) (fun q hq => by rw [List.mem_singleton.mp hq]; exact la) (fun q hq => by rw [List.mem_singleton.mp hq]; exact lb) (fun q hq => by rw [List.mem_singleton.mp hq]; exact lc)
        refine ⟨s1.heap.objs.size + 5, [s1.heap.objs.size + 5, s1.heap.objs.size + 3, s1.heap.objs.size + 4, s1.heap.objs.size, s1.heap.objs.size + 1, s1.heap.objs.size + 2], _, _, H1, rfl, I2, turn_zip3 S (Nat.ne_of_lt la) (show (b : Nat) ≠ s1.heap.objs.size + 1 from Nat.ne_of_lt (Nat.lt_succ_of_lt lb)) (show (c : Nat) ≠ s1.heap.objs.size + 2 from Nat.ne_of_lt (Nat.lt_succ_of_lt (Nat.lt_succ_of_lt lc))), ⟨Nat.zero_le _, hz, hTI, ⟨_, _, _, hTO⟩, ⟨_, h1, rfl, rfl⟩, ⟨_, h2, rfl, rfl⟩, ⟨_, h3, rfl, rfl⟩⟩, fun q hq => ?_, q⟩
        have hle : s1.heap.objs.size ≤ q := by
          have e' : q = s1.heap.objs.size + 5 ∨ q = s1.heap.objs.size + 3 ∨ q = s1.heap.objs.size + 4 ∨ q = s1.heap.objs.size ∨ q = s1.heap.objs.size + 1 ∨ q = s1.heap.objs.size + 2 := by simpa using hq
          rcases e' with z | z | z | z | z | z
          · rw [z]; exact Nat.le_add_right _ _
          · rw [z]; exact Nat.le_add_right _ _
          · rw [z]; exact Nat.le_add_right _ _
          · rw [z]; exact Nat.le_refl _
          · rw [z]; exact Nat.le_add_right _ _
          · rw [z]; exact Nat.le_add_right _ _
        exact I1.fpOk hle (I1.hok.fresh hle)
theorem wlk_zip3 {K : PySem.W.Frag} {a b c : Addr} {xs ys zs : List V} {H1 : Hp} (h : SqL K H1 a xs) (h' : SqL K H1 b ys) (h'' : SqL K H1 c zs) : WlkT (Itz3 K (min (min xs.length ys.length) zs.length) a b c) (min (min xs.length ys.length) zs.length) (fun i => [xs.getD i .non, ys.getD i .non, zs.getD i .non]) H1 where
  go := fun i H hi e => ⟨hi, xs, ys, zs, xs[i]'(by omega), ys[i]'(by omega), zs[i]'(by omega), Same.seq e h, Same.seq e h', Same.seq e h'', by simp [show i < xs.length by omega], by simp [show i < ys.length by omega], by simp [show i < zs.length by omega]⟩
  yld := fun i H v H' hi e y => by
    obtain ⟨T, x, z, u, ev, hT, eH, hx, hy, hu⟩ := y
    have e1 := hx xs (Same.seq e h)
    have e2 := hy ys (Same.seq e h')
    have e3 := hu zs (Same.seq e h'')
    exact ⟨T, ev, hT, by rw [eH, List.getD_eq_getElem?_getD, List.getD_eq_getElem?_getD, List.getD_eq_getElem?_getD, e1, e2, e3]; rfl⟩
  stop := fun i H hi e => ⟨hi, xs, ys, zs, Same.seq e h, Same.seq e h', Same.seq e h'', rfl⟩
section
variable {X : Cx} {N L S G B : List Str} {a b c : Expr} {σ : L2.St} {H : Hp} {R : It → Hp → Prop} {p pos : Pos}
theorem wi_zip3 {elts : List Expr} {kk : Nat} {tpos : Pos} (cc : Nm X N L S G B) (m : Mb "zip" B) (h : WE X a σ H fun x H1 => WE X b σ H1 fun y H2 => WE X c σ H2 fun z H3 => ∃ l l' l'' xs ys zs, x = .ref l ∧ y = .ref l' ∧ z = .ref l'' ∧ SqL X.K H3 l xs ∧ SqL X.K H3 l' ys ∧ SqL X.K H3 l'' zs ∧ R (Itz3 X.K (min (min xs.length ys.length) zs.length) l l' l'') H3)
    (hs : starEach [a, b, c] X.env = [(false, eval a X.env), (false, eval b X.env), (false, eval c X.env)] := by with_unfolding_all rfl) (hs2 : starEach [b, c] X.env = [(false, eval b X.env), (false, eval c X.env)] := by with_unfolding_all rfl) (hs3 : starEach [c] X.env = [(false, eval c X.env)] := by with_unfolding_all rfl) :
    WI X (.Tuple elts kk tpos) (.Call (.Name "zip" p) [a, b, c] [] pos) σ H R :=
  (pi_zip3 (cc.bgl _ m.mem).1 (cc.blt _ m.mem) (pa_cons pe_w (pa_cons pe_w (pa_cons pe_w pa_nil hs3) (hs2.trans (by rw [hs3]))) (hs.trans (by rw [hs2]))) (hs.trans (by rw [hs2])) (by rw [hs2]; rfl)).w (WE.imp h fun x H1 h1 => WE.imp h1 fun y H2 h2 => WE.imp h2 fun z H3 ⟨l, l', l'', xs, ys, zs, e1, e2, e3, h, h', h'', q⟩ => ⟨l, l', l'', xs, ys, zs, by rw [e1, e2, e3], h, h', h'', q⟩)
end
/-! ### xs.extend(ys), list(range(a, b)) -/
section
variable {X : Cx} {N L S G B : List Str} {o e a b : Expr} {σ : L2.St} {H : Hp} {Q : VK} {apos p p2 p3 pos : Pos}
theorem w_extend (h : WE X o σ H fun x H1 => ∃ l, x = .ref l ∧ (∃ xs, SqL X.K H1 l xs) ∧ WE X e σ H1 fun y H2 => ∃ d xs ys, y = .ref d ∧ H2 l = some (.lst xs) ∧ H2 d = some (.lst ys) ∧ xs.length + ys.length ≤ sizeLine ∧ Q .non (upd H2 l (.lst (xs ++ ys))))
    (hbase : attributeBase o "extend" X.env (eval o X.env) = eval o X.env := by with_unfolding_all rfl)
    (hfew : ((backTo pos (starEach [e] X.env)).all (fun x => !x.1) && (backToKw pos (keywordEach [] X.env)).all (fun x => x.1.isSome)
      && decide ([e].length + ([] : List Keyword).length + (if ([] : List Keyword).isEmpty then 0 else 1) < 30)) = true := by with_unfolding_all rfl)
    (hline : (apos.endLine == pos.line) = true := by with_unfolding_all rfl) (hs : starEach [e] X.env = (false, eval e X.env) :: starEach [] X.env := by with_unfolding_all rfl) : WE X (.Call (.Attribute o "extend" apos) [e] [] pos) σ H Q := by
  refine (pe_bm PySem.F.plainAttrs_list PySem.F.slot_list_extend PySem.F.type_list_extend mt_extend pe_w (pa_cons pe_w pa_nil hs) hbase hfew hline hs rfl).w ?_
  exact WE.imp h fun x H1 ⟨l, e1, ⟨xs, hx⟩, q⟩ => ⟨by rw [e1]; exact Or.inl ⟨rfl, xs, hx⟩, WE.imp q fun y H2 ⟨d, xs, ys, e2, h1, h2, hz, q⟩ => ⟨l, d, xs, ys, e1, by rw [e2], h1, h2, hz, q⟩⟩
theorem rgV_nn (i j : Nat) : rgV ((i : Nat) : Int) ((j : Nat) : Int) = (List.range (j - i)).map fun k => V.int ((i + k : Nat) : Int) := by
  unfold rgV
  rw [show (((j : Nat) : Int) - ((i : Nat) : Int)).toNat = j - i by omega]
  exact List.map_congr_left fun k _ => by rw [Int.natCast_add]
/-- list(range(a, b)) -/
theorem x_listRg2 (c : Nm X N L S G B) (m : Mb "list" B) (m2 : Mb "range" B) (h : WE X a σ H fun x H1 => WE X b σ H1 fun y H2 => ∃ i j : Nat, x = .int (i : Nat) ∧ y = .int (j : Nat) ∧ i ≤ 16777216 ∧ j ≤ 16777216 ∧ ∀ q H', H2 q = none → Same H2 H' → H' q = some (.lst ((List.range (j - i)).map fun k => V.int ((i + k : Nat) : Int))) → Q (.ref q) H')
    (na2 : starEach [a, b] X.env = (false, eval a X.env) :: starEach [b] X.env := by with_unfolding_all rfl) (na3 : starEach [b] X.env = (false, eval b X.env) :: starEach [] X.env := by with_unfolding_all rfl)
    (na : starEach [.Call (.Name "range" p2) [a, b] [] p3] X.env = (false, eval (.Call (.Name "range" p2) [a, b] [] p3) X.env) :: starEach [] X.env := by with_unfolding_all rfl) : WE X (.Call (.Name "list" p) [.Call (.Name "range" p2) [a, b] [] p3] [] pos) σ H Q :=
  (pe_listRg c.calm (c.bgl _ m.mem).1 (c.blt _ m.mem) (prg_2 (c.bgl _ m2.mem).1 (c.blt _ m2.mem) pe_w pe_w na2 na3 (by rw [na3]; rfl)) na).w (WE.imp h fun x H1 h1 => WE.imp h1 fun y H2 ⟨i, j, e1, e2, hi, hj, q⟩ => ⟨((i : Nat) : Int), ((j : Nat) : Int), e1, e2, RgOk.of_le (by omega) (by omega) (by omega) (by omega), fun q' hq => by rw [rgV_nn]; exact q q' _ hq (same_new hq) upd_same⟩)
end
end Sv
namespace Sv
open PySem PySem.Spec PyProof.Rows L2
section
variable {X : Cx} {N L S G B : List Str} {tg iter : Expr} {body : List Stmt} {σ : L2.St} {H : Hp} {D : Ends} {pos : Pos}
/-- for, each item a new tuple; only the walked is asked to stand -/
theorem ws_forTM (hp : PassesOwn (model X.prog X.w) X.A X.env X.xe) (hc : Nm X N L S G B)
    (h : WI X tg iter σ H fun J H1 => ∃ n it Hw, WlkT J n it Hw ∧ ∃ Pv : Nat → L2.St → Hp → Prop, Pv 0 σ H1 ∧ (∀ i σ' H', Pv i σ' H' → Same Hw H') ∧
      (∀ i σ' H', i < n → Pv i σ' H' → ∀ T H'', H' T = none → Same H' H'' → H'' T = some (.tup (it i)) → WG X tg (.ref T) σ' H'' fun σ2 H2 => WL X body { D with nx := Pv (i + 1), ct := Pv (i + 1), bk := D.nx } σ2 H2) ∧ ∀ σ' H', Pv n σ' H' → D.nx σ' H')
    (hs : ∀ x, foldedSetIterable iter X.env x = pure x := by intro _; with_unfolding_all rfl) : WS X (.For tg iter body [] pos) D σ H := by
  refine (ps_for hp hc.calm pi_w pg_w pss_w hs).w ?_
  refine ⟨fun pins s I => thn (h.run pins s I) fun v s1 h1 => thn h1 fun itv s2 ⟨it, fp, tn, J, H', e, I', T, t0, hf, n, itm, Hw, W, Pv, p0, hsm, hst, hd⟩ => ⟨it, fp, tn, J, H', e, I', T, t0, hf, ?_⟩⟩
  refine ⟨fun i m σ' H'' => m = n - i ∧ i ≤ n ∧ Pv i σ' H'', ⟨n, by simp, Nat.zero_le _, p0⟩, ?_⟩
  rintro i m σ' H'' ⟨rfl, hi, p⟩
  by_cases hlt : i < n
  · refine .inr ⟨W.go i H'' hlt (hsm _ _ _ p), Pv (i + 1), fun σ2 H2 p' => ⟨n - (i + 1), by omega, rfl, hlt, p'⟩, fun x H3 y => ?_⟩
    obtain ⟨T, rfl, hT, rfl⟩ := W.yld i H'' x H3 hlt (hsm _ _ _ p) y
    exact hst i σ' _ hlt p T _ hT (same_new hT) upd_same
  · have e : i = n := by omega
    subst e
    exact .inl ⟨W.stop _ _ (Nat.le_refl _) (hsm _ _ _ p), hd _ _ p⟩
end
/-! ### lists of numbers by a function -/
def ilst (a : Nat → Nat) (n : Nat) : List V := (List.range n).map fun i => V.int ((a i : Nat) : Int)
theorem ilst_len (a : Nat → Nat) (n : Nat) : (ilst a n).length = n := by unfold ilst; rw [List.length_map, List.length_range]
theorem ilst_get {a : Nat → Nat} {n i : Nat} (h : i < n) : (ilst a n)[i]? = some (V.int ((a i : Nat) : Int)) := by
  unfold ilst
  rw [List.getElem?_map, List.getElem?_range h]; rfl
theorem ilst_getD {a : Nat → Nat} {n i : Nat} (h : i < n) : (ilst a n).getD i .non = V.int ((a i : Nat) : Int) := by
  rw [List.getD_eq_getElem?_getD, ilst_get h]; rfl
theorem ilst_succ (a : Nat → Nat) (n : Nat) : ilst a (n + 1) = ilst a n ++ [V.int ((a n : Nat) : Int)] := by
  unfold ilst
  rw [List.range_succ, List.map_append]; rfl
theorem ilst_drop (a : Nat → Nat) (n : Nat) : (ilst a n).drop 1 = ilst (fun i => a (i + 1)) (n - 1) := by
  cases n with
  | zero => rfl
  | succ n =>
    unfold ilst
    rw [List.range_succ_eq_map, List.map_cons, List.drop_succ_cons, List.drop_zero, List.map_map]
    rfl
theorem ilst_congr {a b : Nat → Nat} {n : Nat} (h : ∀ i, i < n → a i = b i) : ilst a n = ilst b n := by
  unfold ilst
  exact List.map_congr_left fun i hi => by rw [h i (List.mem_range.mp hi)]
theorem cut_one (xs : List V) : cutV xs (some 1) none = xs.drop 1 := by
  unfold cutV
  show (xs.drop (HT.sIx xs.length 0 (some ((1 : Nat) : Int)))).take (HT.sIx xs.length xs.length none - HT.sIx xs.length 0 (some ((1 : Nat) : Int))) = _
  rw [HT.sIx_nat, HT.sIx_none]
  cases xs with
  | nil => rfl
  | cons x xs =>
    rw [Nat.min_eq_left (by simp)]
    exact List.take_of_length_le (by simp)
theorem at_last {α : Type} {xs : List α} {v : α} (h : xs[xs.length - 1]? = some v) : atI xs (-1) = some v := by
  have hi : xs.length - 1 < xs.length := (List.getElem?_eq_some_iff.mp h).1
  unfold atI ixN
  rw [if_neg (by omega), if_pos (by omega)]
  have e : ((-1 : Int) + (xs.length : Nat)).toNat = xs.length - 1 := by omega
  simpa [e] using h
theorem ilst_last {a : Nat → Nat} {n : Nat} (h : 0 < n) : atI (ilst a n) (-1) = some (V.int ((a (n - 1) : Nat) : Int)) := at_last (by rw [ilst_len, ilst_get (by omega)])
end Sv

/-! Defs that are run where no object is being shown: repr of lists and tuples. -/
namespace Sv
open PySem PySem.Spec PyProof.Rows L2

/-- no repr stands open -/
def NoG (A : Around) : Prop := A.guards = some []
theorem NoG.deeper {A : Around} (h : NoG A) (env : Env) : NoG (A.deeper env) := h
theorem NoG.caller : NoG callerA := rfl
/-- a def's promise where no repr stands open -/
def FnRG (P : Program) (w : World) (K : PySem.W.Frag) (mg : Str → Option Value) (base : Heap) (C : CXT) (k : Nat) (f : Addr) (sp : Sp) : Prop :=
  ∀ (A : Around), NoG A → ∀ (outer : List Env) (s : Shared) (H : Hp) (us : List Value) (vs : List V) (Q : VK) (E : XK), Room k A → Env0 P w K mg base A outer s H → Vals vs us → sp vs H Q E → codeAny (model P w) A (.call (.ref f) ⟨us, []⟩) (CR C outer P w H s Q E) s
/-- the same for an argument list that binds -/
def FnOkG (P : Program) (w : World) (K : PySem.W.Frag) (mg : Str → Option Value) (base : Heap) (C : CXT) (k : Nat) (f : Addr) (fd : FuncData) (ps : List Str) (sp : Sp) : Prop :=
  ∀ (A : Around), NoG A → ∀ (outer : List Env) (s : Shared) (H : Hp) (args : Args) (us : List Value) (vs : List V) (Q : VK) (E : XK), Room k A → Env0 P w K mg base A outer s H → BindsTo s fd args (ps.zip us) → Vals vs us → sp vs H Q E → codeAny (model P w) A (.call (.ref f) args) (CR C outer P w H s Q E) s
section
variable {P : Program} {w : World} {K : PySem.W.Frag} {mg : Str → Option Value} {base : Heap} {N ps L G B : List Str} {k : Nat} {x qual : Str} {params : Arguments} {body : List Stmt} {sc : Scope} {f : Addr} {fd : FuncData} {sp : Sp}
theorem FnRG.of {C : CXT} (F : FnR P w K mg base C k f sp) : FnRG P w K mg base C k f sp := fun A _ outer s H us vs Q E hr e0 r h => F A outer s H us vs Q E hr e0 r h
/-- how a body's end answers for the call -/
theorem body_ends {N' : List Str} {qual' : Str} {sc' : Scope} {f' : Addr} {cd : Value} {A : Around} {outer : List Env} {s s' : Shared} {H : Hp} {Q : VK} {E : XK} {fl : Flow}
    (h : SP (cx P w K mg base N' qual' sc' f' cd A outer s H E) [] { nx := fun _ H' => Q .non H', rt := Q } fl s') : match fl with
      | .ret u => CE outer P w H s Q u s'
      | .next => CE outer P w H s Q .none s'
      | _ => False := by
  cases fl with
  | ret u => obtain ⟨v, σ', H', J, rv, q⟩ := h; exact ⟨v, H', J.os, J.bare, J.base, J.hok, rv, q⟩
  | next => obtain ⟨σ', H', J, q⟩ := h; exact ⟨.non, H', J.os, J.bare, J.base, J.hok, rfl, q⟩
  | brk => obtain ⟨_, _, _, q⟩ := h; exact q
  | cont => obtain ⟨_, _, _, q⟩ := h; exact q
theorem fnokg_of {dvs : List V} (F : FunD K x qual params body sc dvs [] f fd) (S : scB N ps L G B sc = true) (len : ∀ vs H Q E, sp vs H Q E → vs.length = ps.length) (hb : ∀ x ∈ B, mg x = none)
    (hbody : ∀ (cd : Value) (A : Around) (outer : List Env) (s : Shared) (H : Hp) (vs : List V) (Q : VK) (E : XK), NoG (cx P w K mg base N qual sc f cd A outer s H E).A → Room k (cx P w K mg base N qual sc f cd A outer s H E).A → Nm (cx P w K mg base N qual sc f cd A outer s H E) N L L G B → sp vs H Q E →
      WL (cx P w K mg base N qual sc f cd A outer s H E) body { nx := fun _ H' => Q .non H', rt := Q } (start N vs) H) : FnOkG P w K mg base (L2.CX P w) (k + 1) f fd ps sp := by
  obtain ⟨oc, od, dV, kV, doc, pm, an, cdv, ct, osl, rfl, lk, hcd, _, _⟩ := F.ex
  have sok := (scB_ok S).1
  intro A hg outer s H args us vs Q E room env bnd rv hsp
  have old : ∀ b o, base.get? b = some o → s.heap.get? b = some o := fun b o e => (env.bs b o e).1
  have kIn : K.In s.heap := env.mod.kin.keeps old
  have kinds : ∀ y ∈ ps.zip us, sc.names.lookup y.1 = some .local ∨ (sc.names.lookup y.1 = some .cell ∧ ((cellsFrom (s.heap.objs.size + 1) sc.names []).lookup y.1).isSome = true) := by
    rintro ⟨n, v⟩ hy
    exact (sok.par n (List.of_mem_zip hy).1).imp id fun z => ⟨z, PySem.W.cellsFrom_some _ _ _ (.inl z)⟩
  refine codeAny_call_function room.depth (kIn _ _ lk) rfl sok.co sok.gen rfl (PySem.W.codeRec_of kIn hcd) (bnd _ _ _ _ (wpAny_newFunctionEnv_cells sok.kind kinds fun e' he s1 ic => ?_))
  cases he
  refine ⟨(env.mod.nolimit.keeps old).keeps ic.toInCall.keep, codeAny_func ?_⟩
  have I0 := inv_start (CX := L2.CX P w) (E := E) sok room.hd env (len _ _ _ _ hsp) rv ic
  refine wpAny_mono ((hbody cdv A outer s H vs Q E hg (room.deeper _) (nm_of S hb) hsp).run [] s1 I0) (fun fl s' hs => ?_) fun _ _ z => z
  have e := body_ends hs
  cases fl with
  | ret u => exact e
  | next => exact e
  | brk => exact (show False from e).elim
  | cont => exact (show False from e).elim
/-- THE RULE for a def without defaults -/
theorem fnrg_of (F : FunD K x qual params body sc [] [] f fd) (S : scB N ps L G B sc = true) (len : ∀ vs H Q E, sp vs H Q E → vs.length = ps.length)
    (hbind : ∀ (kV doc pm : Value) (an : Option Addr) (cdv ct : Value) (us : List Value), us.length = ps.length → bindArgs (PySem.W.fnOf x qual params body sc .none kV doc pm an cdv ct) ⟨us, []⟩ = pure (ps.zip us)) (hb : ∀ x ∈ B, mg x = none)
    (hbody : ∀ (cd : Value) (A : Around) (outer : List Env) (s : Shared) (H : Hp) (vs : List V) (Q : VK) (E : XK), NoG (cx P w K mg base N qual sc f cd A outer s H E).A → Room k (cx P w K mg base N qual sc f cd A outer s H E).A → Nm (cx P w K mg base N qual sc f cd A outer s H E) N L L G B → sp vs H Q E →
      WL (cx P w K mg base N qual sc f cd A outer s H E) body { nx := fun _ H' => Q .non H', rt := Q } (start N vs) H) : FnRG P w K mg base (L2.CX P w) (k + 1) f sp := by
  intro A hg outer s H us vs Q E room env rv hsp
  have hl : us.length = ps.length := by rw [← len _ _ _ _ hsp]; exact (Paired.length rv).symm
  exact fnokg_of F S len hb hbody A hg outer s H ⟨us, []⟩ us vs Q E room env (F.bindsA hbind s us hl) rv hsp
end
/-! ### calls of such defs -/
structure FnG (P : Program) (w : World) (K : PySem.W.Frag) (mg : Str → Option Value) (base : Heap) (x : Str) (k : Nat) (sp : Sp) : Prop where
  ex : ∃ f, mg x = some (.ref f) ∧ PySem.W.keepIn K (.ref f) = true ∧ FnRG P w K mg base (L2.CX P w) k f sp
section
variable {X : Cx} {N L S G B : List Str} {x : Str} {e : Expr} {es : List Expr} {σ : L2.St} {H : Hp} {Q : VK} {p pos : Pos} {j k : Nat} {sp : Sp} {E : XK}
theorem w_callG (c : Nm X N L S G B) (mm : Mb x G) (F : FnG X.prog X.w X.K X.mg X.base x k sp) (hg : NoG X.A) (hr : Room j X.A) (hj : k ≤ j) (hx : PassesAt (L2.CX X.prog X.w) X σ E) (h : WA X (e :: es) σ H fun vs H1 => sp vs H1 Q E)
    (he : starEach (e :: es) X.env = (false, eval e X.env) :: starEach es X.env := by with_unfolding_all rfl) (hpl : (backTo pos (starEach es X.env)).any (·.1) = false := by with_unfolding_all rfl) : WE X (.Call (.Name x p) (e :: es) [] pos) σ H Q := by
  obtain ⟨f, hm, hk, F⟩ := F.ex
  obtain ⟨a, b, d⟩ := c.glo x mm.mem
  refine ⟨fun pins s I => wpAny_Call_Name_kw (ld_glob I a hm ?_ b)⟩
  refine PySem.W.callWith_K (h₀ := X.base) I.ok.mod.kin hk (thn (h.run pos pins s I) fun us s1 ⟨vs, H1, I1, r, q⟩ => ⟨I1.kIn, ?_⟩) he hpl
  refine wpAny_call (codeAny_mono (F X.A hg X.stack s1 H1 us vs Q E (hr.mono hj) I1.env0 r q) fun r s' hq => ?_)
  cases r with
  | error e => exact hx pins H1 s1 e s' I1 hq
  | ok fl =>
    cases fl with
    | ret u => exact I1.after hq
    | next => exact hq.elim
    | brk => exact hq.elim
    | cont => exact hq.elim
/-! ### repr -/
theorem c_reprD {v : V} {d : PyData} (hg : NoG X.A) (hu : X.A.units + 64 < cLine) (h : Dp X.K H v d) (hs : d.showable = true) (hd : d.hasDict = false) (hdp : d.depth < 60) (hz : d.shown.length ≤ sizeLine) (q : Q (.str d.shown) H) : WC X (.builtin "repr") [v] σ H Q := by
  refine ⟨fun pins s us I r => ?_⟩
  obtain ⟨u, rfl, hu1⟩ := vals1 r
  have hok : ∀ {z : Str} {t : Tok} {s' : Shared}, Inv X pins σ H s' → z = d.shown → EP X pins σ Q (.str z t) s' := fun {z t s'} I' e => ⟨.str z, H, I', ⟨_, rfl⟩, by rw [e]; exact q⟩
  have byref : ∀ a : Addr, u = .ref a → wpAny (model X.prog X.w) X.A (call (.builtin "repr") [u]) (EP X pins σ Q) X.xe s := fun a e => by
    obtain ⟨as, rd⟩ := Dp.reads I d v u h hu1
    subst e
    exact repr_of_reads' rd hs (fun z => by rw [hd] at z; cases z) hg (by omega) (fun b o e => e) (fun h' u' tk hk => hok (I.kept (t' := tk) hk) rfl) hz
  cases h with
  | non =>
    obtain rfl : u = Value.none := hu1
    exact PySem.P.repr_of_none (hok (I.tok _) (by simp only [PyData.shown]))
  | bl b =>
    obtain rfl : u = Value.bool b := hu1
    exact PySem.P.repr_of_bool (hok (I.tok _) (by simp only [PyData.shown]))
  | int i =>
    obtain ⟨t, rfl⟩ := hu1
    simp only [PyData.showable] at hs
    exact PySem.P.repr_of_int (of_decide_eq_true hs) (hok (I.tok _) (by simp only [PyData.shown]))
  | str x =>
    obtain ⟨t, rfl⟩ := hu1
    simp only [PyData.shown] at hz
    exact PySem.P.repr_of_str (hok (I.tok _) (by simp only [PyData.shown])) hz
  | lst => exact byref _ hu1
  | tup => exact byref _ hu1
theorem x_reprD {d : PyData} (c : Nm X N L S G B) (m : Mb "repr" B) (hg : NoG X.A) (hu : X.A.units + 64 < cLine) (h : WE X e σ H fun v H1 => Dp X.K H1 v d ∧ d.showable = true ∧ d.hasDict = false ∧ d.depth < 60 ∧ d.shown.length ≤ sizeLine ∧ Q (.str d.shown) H1)
    (hs : starEach [e] X.env = (false, eval e X.env) :: starEach [] X.env := by with_unfolding_all rfl) (hpl : (backTo pos (starEach [] X.env)).any (·.1) = false := by with_unfolding_all rfl) : WE X (.Call (.Name "repr" p) [e] [] pos) σ H Q :=
  w_callB c m bt_repr (wa_cons (WE.imp h fun v H1 ⟨h1, h2, h3, h4, h5, q⟩ => wa_nil (c_reprD hg hu h1 h2 h3 h4 h5 q)) hs) hs hpl
end
end Sv
namespace Sv
open PySem PySem.Spec PyProof.Rows L2
/-! ### a law whose def is run where no repr stands open -/
section
variable {P : Program} {w : World} {K : PySem.W.Frag} {mg mb : Str → Option Value} {k : Nat} {fa a : Addr} {fd : FuncData} {x : Str} {sp : Sp} {t : Shared} {us : List Value} {xs : List Int}
/-- what the law's call owes -/
abbrev LawEnd (t : Shared) (r : Result) (s' : Shared) : Prop := r = .ok (.ret (.bool true)) ∧ OldK t.heap s'.heap ∧ s'.os = t.os ∧ AllBare s'.gens
/-- the heap told: the script alone, or nothing -/
structure TopH (P : Program) (w : World) (K : PySem.W.Frag) (a : Addr) (xs : List Int) (t : Shared) (H : Hp) : Prop where
  only : Only H
  sq : SqL K H a (xs.map V.int)
  hok : HOk P w H t.heap
  one : ∀ b, H b ≠ none → b = a ∧ K.lookup a = none
theorem top_end {H : Hp} (T : TopH P w K a xs t H) {r : Result} {s' : Shared} (h : CR (L2.CX P w) [] P w H t (fun v _ => v = .bl true) (fun _ _ _ => False) r s') : LawEnd t r s' := by
  cases r with
  | error e =>
    obtain ⟨_, _, _, _, _, _, _, _, _, _, _, _, no⟩ := h
    exact no.elim
  | ok fl =>
    cases fl with
    | next => exact (show False from h).elim
    | brk => exact (show False from h).elim
    | cont => exact (show False from h).elim
    | ret u =>
      obtain ⟨v, H', h1, h2, un, h3, h4, rfl⟩ := h
      have hu : u = Value.bool true := h4
      refine ⟨by rw [hu], OldK.of_keep fun b o e => ?_, h1, h2⟩
      by_cases z : H b = none
      · exact un.keep b o e z (fun m => by cases m) (by simp)
      · rcases T.only b with y | ⟨ob, zs, y⟩
        · exact absurd y z
        · have f1 := (T.hok b _ y).1
          have f2 := (h3 b _ (un.frzs b ob _ y)).1
          rw [e] at f1
          cases f1
          exact f2
theorem top_run {H : Hp} (T : TopH P w K a xs t H) (kin : K.In t.heap) (ns1 : t.heap.Ns mainGlobals mg) (ns2 : t.heap.Ns builtinsNs mb) (boot : ∀ x : Str, x ≠ "__name__" → mb x = bootBuiltins x) (lim : t.heap.NoLimit) (gens : t.gens = #[])
    (scr : t.heap.get? a = some { cls := .type "list", data := .seq us.toArray }) (hr : Room k callerA) (F : ∀ base : Heap, K.In base → base.Ns mainGlobals mg → FnOkG P w K mg base (L2.CX P w) k fa fd [x] sp) (bnd : ∀ (s : Shared) (u : Value), BindsTo s fd ⟨[u], []⟩ [(x, u)])
    (hsp : ∀ H : Hp, Only H → SqL K H a (xs.map V.int) → sp [.ref a] H (fun v _ => v = .bl true) fun _ _ _ => False) : codeAny (model P w) callerA (.call (.ref fa) ⟨[.ref a], []⟩) (LawEnd t) t := by
  have out : ∀ {b : Addr} {o : Obj}, t.heap.get? b = some o → (b = a → K.lookup a ≠ none ∨ ∃ es ep, o.data = .dict es ep) → H b = none := fun {b o} e h => by
    refine Classical.byContradiction fun z => ?_
    obtain ⟨rfl, lk⟩ := T.one b z
    rcases h rfl with y | ⟨es, ep, y⟩
    · exact y lk
    · rw [scr] at e
      cases e
      cases (show Data.seq us.toArray _ = Data.dict es ep from y)
  have hid : ∀ {b : Addr} {m : Str → Option Value}, t.heap.Ns b m → (hidT t.heap H).Ns b m := by
    rintro b m ⟨o, es, ep, e, d, r⟩
    exact ⟨o, es, ep, hidT_get e (out e fun _ => .inr ⟨es, ep, d⟩), d, r⟩
  have kin2 : K.In (hidT t.heap H) := fun b o e => hidT_get (kin b o e) (out (kin b o e) fun z => .inl (by rw [← z, e]; simp))
  obtain ⟨mc, l1, l2⟩ := lim
  have env : Env0 P w K mg (hidT t.heap H) callerA [] t H := { frames := rfl, mod := ⟨kin2, hid ns1, ⟨mb, hid ns2, boot⟩, ⟨mc, hid l1, l2⟩⟩, bs := fun b o e => of_hidT e, bsz := Nat.le_of_eq (hidT_size _ _), funs := trivial, frf := fun b hb => (by cases hb), hok := T.hok, bare := .of_eq gens }
  exact codeAny_mono (F _ kin2 (hid ns1) callerA NoG.caller [] t H ⟨[.ref a], []⟩ [.ref a] [.ref a] _ _ hr env (bnd t (.ref a)) (.cons rfl .nil) (hsp H T.only T.sq)) fun r s' h => top_end T h
theorem top_heap (kin : K.In t.heap) (scr : t.heap.get? a = some { cls := .type "list", data := .seq us.toArray }) (hi : IntsAre us xs) (hl : xs.length ≤ sizeLine) : ∃ H, TopH P w K a xs t H := by
  have rv := vals_ints hi
  have ll := hi.length
  cases lk : K.lookup a with
  | some o =>
    have e := kin a o lk
    rw [scr] at e
    cases e
    refine ⟨fun _ => none, ⟨fun _ => .inl rfl, .inr ⟨_, us.toArray, _, lk, rfl, rfl, rfl, by rw [List.size_toArray, ll]; exact hl, by simpa using rv⟩, fun b u z => (by cases (show (none : Option HO) = some u from z)), fun b z => absurd rfl z⟩⟩
  | none =>
    let ob : Obj := { cls := .type "list", data := .seq us.toArray }
    let H : Hp := upd (fun _ => none) a (.frz ob (.lst (xs.map V.int)))
    have far : ∀ b, b ≠ a → H b = none := fun b n => upd_ne n
    have at_ : H a = some (.frz ob (.lst (xs.map V.int))) := upd_same
    refine ⟨H, ⟨fun b => ?_, .inl (.inr ⟨ob, at_⟩), fun b u z => ?_, fun b z => ⟨Classical.byContradiction fun n => z (far b n), lk⟩⟩⟩
    · by_cases n : b = a
      · rw [n]; exact .inr ⟨_, _, at_⟩
      · exact .inl (far b n)
    · by_cases n : b = a
      · subst n
        rw [at_] at z
        cases z
        exact ⟨scr, by rw [List.length_map]; exact hl, us, _, rv, scr⟩
      · rw [far b n] at z
        cases z
end
/-- a law's end, where no repr stands open -/
theorem walk_ofG {L : PySem.W.OpenLaw} {m j : Nat} {q' : Program} {lo : List Str} {XQ : (Str → Option Value) → Heap → Prop} {YQ : World → Heap → Prop} {dr : DefRec} {par : Str} (h1 : L.most = some m) (h2 : m ≤ sizeLine) (h3 : dr.params.defaults = []) (h4 : Room j callerA)
    (go : ∀ (ww : World) (gm : Str → Option Value) (ad : Addr) (hp : Heap), YQ ww hp → hp.Ns mainGlobals gm → gm dr.name = some (.ref ad) → ∃ (KK : PySem.W.Frag) (fdd : FuncData) (spp : Sp), KK.In hp ∧ (∀ (z : Shared) (u : Value), BindsTo z fdd ⟨[u], []⟩ [(par, u)]) ∧
      (∀ (HH : Hp) (aa : Addr) (xs : List Int), xs.length ≤ m → Only HH → SqL KK HH aa (xs.map V.int) → spp [.ref aa] HH (fun v _ => v = .bl true) fun _ _ _ => False) ∧
      ∀ bs : Heap, KK.In bs → bs.Ns mainGlobals gm → FnOkG L.prog ww KK gm bs (L2.CX L.prog ww) j ad fdd [par] spp) :
    PySem.W.WalkO q' lo XQ YQ L.row.toRowW dr [] (fun g us => PySem.call g us) := by
  refine Att.attach_call h1 h3 ?_
  intro ww t0 t1 gm bm ad ob pm' cd' dc aa us xs GG YY e1 e2 e3 e4 e5 e6 e7 e8
  obtain ⟨KK, fdd, spp, k1, k2, k3, k4⟩ := go ww gm ad _ YY GG.T.g e4
  obtain ⟨HH, T⟩ := top_heap (P := L.prog) (w := ww) k1 e5 e6 (Nat.le_trans e7 h2)
  exact top_run T k1 GG.T.g GG.T.b GG.T.builtins GG.T.nolimit e8 e5 h4 k4 k2 fun H o1 o2 => k3 H aa xs e7 o1 o2
end Sv
namespace Sv
open PySem PySem.Spec PyProof.Rows L2
/-! ### in an except suite -/
structure NmS (X : Cx) (N L S G B : List Str) : Prop where
  names : X.N = N
  nd : N.Nodup
  vis : ∀ x ∈ L, Vis X.env.scope x ∧ (x == ("__debug__" : Str)) = false ∧ (x == ("__classdict__" : Str)) = false
  sto : ∀ x ∈ S, Loc X.env.scope x ∧ (X.fn x = true ∨ X.env.scope.names.lookup x = some .local)
  glo : ∀ x ∈ G, Gl X x ∧ (x == ("__debug__" : Str)) = false ∧ x ≠ "__name__"
  blt : ∀ x ∈ B, X.mg x = none
  bgl : ∀ x ∈ B, Gl X x ∧ (x == ("__debug__" : Str)) = false ∧ x ≠ "__name__"
theorem Nm.su {X : Cx} {N L S G B : List Str} (c : Nm X N L S G B) (a : Addr) (pn : List (Addr × Obj)) : NmS (X.suite a pn) N L S G B := ⟨c.names, c.nd, c.vis, c.sto, c.glo, c.blt, c.bgl⟩
section
variable {X : Cx} {N L S G B : List Str} {σ : L2.St} {H : Hp} {Q : VK} {x : Str} {v : V} {p pos : Pos} {e e2 : Expr} {es : List Expr}
theorem s_name (c : NmS X N L S G B) (h : At N σ x v) (m : Mb x L) (q : Q v H) : WE X (.Name x pos) σ H Q := by
  obtain ⟨i, h1, h2⟩ := h.ix
  obtain ⟨a, b, d⟩ := c.vis x m.mem
  exact (pe_var (i := i) (by rw [c.names]; exact h1) a b d).w ⟨v, h2, q⟩
theorem s_gref {C : Addr} (c : NmS X N L S G B) (m : Mb x G) (hm : X.mg x = some (.ref C)) (q : Q (.ref C) H) : WE X (.Name x pos) σ H Q := by
  obtain ⟨a, b, d⟩ := c.glo x m.mem
  exact (pe_glob (v := .ref C) a hm rfl b).w q
theorem s_callB {id : String} (c : NmS X N L S G B) (m : Mb x B) (hv : bootBuiltins x = some (.builtin id)) (h : WA X (e :: es) σ H fun vs H1 => WC X (.builtin id) vs σ H1 Q)
    (hs : starEach (e :: es) X.env = (false, eval e X.env) :: starEach es X.env := by with_unfolding_all rfl) (hpl : (backTo pos (starEach es X.env)).any (·.1) = false := by with_unfolding_all rfl) : WE X (.Call (.Name x p) (e :: es) [] pos) σ H Q := by
  obtain ⟨a, b, d⟩ := c.bgl x m.mem
  exact ⟨fun pins s I => wpAny_Call_Name_kw (ld_blt I a (c.blt x m.mem) hv (PyProof.Rows.callWith_builtin1 (thn (h.run pos pins s I) fun us s1 ⟨vs, H1, I1, r1, q1⟩ => q1.run pins s1 us I1 r1) hs hpl) d b)⟩
theorem s_reprD {d : PyData} (c : NmS X N L S G B) (m : Mb "repr" B) (hg : NoG X.A) (hu : X.A.units + 64 < cLine) (h : WE X e σ H fun v H1 => Dp X.K H1 v d ∧ d.showable = true ∧ d.hasDict = false ∧ d.depth < 60 ∧ d.shown.length ≤ sizeLine ∧ Q (.str d.shown) H1)
    (hs : starEach [e] X.env = (false, eval e X.env) :: starEach [] X.env := by with_unfolding_all rfl) (hpl : (backTo pos (starEach [] X.env)).any (·.1) = false := by with_unfolding_all rfl) : WE X (.Call (.Name "repr" p) [e] [] pos) σ H Q :=
  s_callB c m bt_repr (wa_cons (WE.imp h fun v H1 ⟨h1, h2, h3, h4, h5, q⟩ => wa_nil (c_reprD hg hu h1 h2 h3 h4 h5 q)) hs) hs hpl
end
/-- the caught error, of class C, its dict d -/
structure Cau (K : PySem.W.Frag) (cls : Value) (d : Option Addr) (H : Hp) (C : Addr) (fld : Str) (v : V) : Prop where
  cls : cls = .ref C
  dict : ∃ dd, d = some dd ∧ H dd = some (.xd [(fld, v)])
section
variable {X : Cx} {N L S G B : List Str} {σ : L2.St} {H : Hp} {Q : VK} {x n : Str} {v : V} {p pos : Pos} {e e2 : Expr} {a : Addr} {oe : Obj} {cls : Value} {d : Option Addr} {pn : List (Addr × Obj)} {C fI : Addr} {fld : Str}
/-- e.f of the caught one -/
theorem s_xf (T : ErrC X.K C fld fI) (hz : Zc cls d oe) (hf : ∃ vs, oe.data = .fields vs) (h : WE (X.suite a ((a, oe) :: pn)) e σ H fun y H1 => y = .ref a ∧ Cau X.K cls d H1 C fld v ∧ Q v H1) (hb : attributeBase e fld X.env (eval e X.env) = eval e X.env := by with_unfolding_all rfl) :
    WE (X.suite a ((a, oe) :: pn)) (.Attribute e fld pos) σ H Q :=
  (pe_xf T.xf T.no hz hf pe_w hb).w (WE.imp h fun y H1 ⟨e1, ⟨e2, dd, e3, e4⟩, q⟩ => ⟨e1, e2, dd, _, v, e3, e4, by simp [List.lookup], q⟩)
/-- isinstance(e, c) of the caught one -/
theorem c_isE {c : V} {cv : Value} {b : Bool} (EC : ExcC X.K C) (hz : Zc cls d oe) (hf : ∃ vs, oe.data = .fields vs) (ca : Cau X.K cls d H C fld v) (hcv : ∀ u, RelV c u → u = cv) (hk : PySem.W.kitOne X.K (.ref C) cv = some b) (q : Q (.bl b) H) : WC (X.suite a ((a, oe) :: pn)) (.builtin "isinstance") [.ref a, c] σ H Q := by
  refine ⟨fun pins s us I r => ?_⟩
  obtain ⟨u, w, rfl, hu, hw⟩ : ∃ u w, us = [u, w] ∧ RelV (.ref a) u ∧ RelV c w := by
    cases r with
    | cons r1 r2 =>
      cases r2 with
      | cons r3 r4 => cases r4; exact ⟨_, _, rfl, r1, r3⟩
  obtain rfl : u = Value.ref a := hu
  obtain rfl : w = cv := hcv _ hw
  obtain ⟨ec, dd, ed, ea⟩ := ca
  subst ec ed
  obtain ⟨hget, _⟩ := I.pin (a, oe) (List.mem_append_left _ List.mem_cons_self)
  obtain ⟨vs, hd⟩ := hf
  have hx : ObjOk X.prog X.w H s.heap dd (.xd [(fld, v)]) := I.hok dd _ ea
  obtain ⟨mA, hns, hr⟩ := hx
  obtain ⟨od, ho, hl⟩ := lookIn_ns hns
  have J : PySem.W.InstAt s.heap a oe C (some od) := ⟨hget, hz.1, by unfold PySem.W.notCls; rw [hd] <;> rfl, by rw [hz.2]; exact ho⟩
  obtain ⟨cd, hcd, _⟩ := PySem.W.any_some EC.hd
  exact PySem.W.kia_one (PySem.W.kitx_exc (by rw [hcd]; rfl) EC.hg EC.hk EC.hs EC.ha EC.hn EC.ht EC.hm) I.kIn J hk (fun z => nomatch z) fun tk => ⟨.bl b, H, I.kept (t' := tk) fun _ _ z => z, rfl, q⟩
theorem s_isE {cv : Value} {b : Bool} (cc : NmS (X.suite a ((a, oe) :: pn)) N L S G B) (m : Mb "isinstance" B) (EC : ExcC X.K C) (hz : Zc cls d oe) (hf : ∃ vs, oe.data = .fields vs) (hk : PySem.W.kitOne X.K (.ref C) cv = some b)
    (h : WE (X.suite a ((a, oe) :: pn)) e σ H fun y H1 => y = .ref a ∧ WE (X.suite a ((a, oe) :: pn)) e2 σ H1 fun c H2 => (∀ u, RelV c u → u = cv) ∧ Cau X.K cls d H2 C fld v ∧ Q (.bl b) H2)
    (hs : starEach [e, e2] X.env = (false, eval e X.env) :: starEach [e2] X.env := by with_unfolding_all rfl) (hs2 : starEach [e2] X.env = (false, eval e2 X.env) :: starEach [] X.env := by with_unfolding_all rfl) (hpl : (backTo pos (starEach [e2] X.env)).any (·.1) = false := by with_unfolding_all rfl) : WE (X.suite a ((a, oe) :: pn)) (.Call (.Name "isinstance" p) [e, e2] [] pos) σ H Q :=
  s_callB cc m bt_isi (wa_cons (WE.imp h fun y H1 ⟨e1, h2⟩ => wa_cons (WE.imp h2 fun c H2 ⟨h4, h3, q⟩ => wa_nil (by rw [e1]; exact c_isE EC hz hf h3 h4 hk q)) hs2) hs) hs hpl
end
end Sv
namespace Sv
open PySem PySem.Spec PyProof.Rows L2
open He in
def exmB (x y : Str) (b : Bool) (K : PySem.W.Frag) : Bool := decide (PySem.W.exmOne K (.ref (ga K x)) (.ref (ga K y)) = some b)
open He in
theorem exmB_ok {x y : Str} {b : Bool} {K : PySem.W.Frag} (h : exmB x y b K = true) : PySem.W.exmOne K (.ref (ga K x)) (.ref (ga K y)) = some b := of_decide_eq_true h
end Sv

/-! Calls of methods and classes that may let an error out, wished for at the caller's slots. -/
namespace Sv
open PySem PySem.Spec PyProof.Rows L2
section
variable {X : Cx} {N L S G B : List Str} {x m : Str} {e o : Expr} {es : List Expr} {σ : L2.St} {H : Hp} {Q : VK} {p pos apos : Pos} {j k : Nat} {sp : Sp} {E : XK} {C : Addr}
/-- what the callee's end is for the caller -/
theorem back_at {pins : List (Addr × Obj)} {s : Shared} (hx : PassesAt (L2.CX X.prog X.w) X σ E) (I : Inv X pins σ H s) {r : Result} {s' : Shared} (h : CR (L2.CX X.prog X.w) X.stack X.prog X.w H s Q E r s') : match r with
    | .ok (.ret u) => EP X pins σ Q u s'
    | .ok _ => False
    | .error e => X.xe e s' := by
  cases r with
  | error e => exact hx pins H s e s' I h
  | ok fl =>
    cases fl with
    | ret u => exact I.after h
    | next => exact h
    | brk => exact h
    | cont => exact h
theorem code_at {f : Addr} {pins : List (Addr × Obj)} {s : Shared} {us : List Value} {vs : List V} (F : FnR X.prog X.w X.K X.mg X.base (L2.CX X.prog X.w) k f sp) (hr : Room k X.A) (hx : PassesAt (L2.CX X.prog X.w) X σ E) (I : Inv X pins σ H s) (r : Vals vs us) (h : sp vs H Q E) :
    codeAny (model X.prog X.w) X.A (.call (.ref f) ⟨us, []⟩) (fun r s' => match r with | .ok (.ret v) => EP X pins σ Q v s' | .ok _ => False | .error e => X.xe e s') s :=
  codeAny_mono (F X.A X.stack s H us vs Q E hr I.env0 r h) fun r s' hq => by
    have z := back_at hx I hq
    cases r with
    | error e => exact z
    | ok fl => cases fl <;> exact z
/-- o.m(e, ..) -/
theorem w_methA {pl : Sem Bool} (F : Mth X.prog X.w X.K X.mg X.base C m k sp) (hr : Room j X.A) (hj : k ≤ j) (hx : PassesAt (L2.CX X.prog X.w) X σ E)
    (h : WE X o σ H fun x H1 => ∃ a dx fs, x = .ref a ∧ H1 a = some (.ins C dx fs) ∧ fs.lookup m = none ∧ WA X (e :: es) σ H1 fun vs H2 => sp (.ref a :: vs) H2 Q E)
    (hst : starEach (e :: es) X.env = (false, eval e X.env) :: starEach es X.env := by with_unfolding_all rfl) (hpl : (backTo pos (starEach es X.env)).any (·.1) = false := by with_unfolding_all rfl)
    (ht : eval (.Call (.Attribute o m apos) (e :: es) [] pos) X.env = (do
      let ov ← eval o X.env
      standAt apos.atName
      let (f, first) ← holding [ov] (getMethod ov m pl)
      callWith pos f first (backTo pos (starEach (e :: es) X.env)) (backToKw pos (keywordEach [] X.env))) := by with_unfolding_all rfl) : WE X (.Call (.Attribute o m apos) (e :: es) [] pos) σ H Q := by
  obtain ⟨f, c, hm, F⟩ := F.ex
  refine ⟨fun pins s I => PySem.W.methodCall_KW (pl := pl) (thn (h.run pins s I) fun u s1 h1 => ?_) ht⟩
  obtain ⟨_, H1, I1, rx, a, dx, fs, rfl, ea, l, q⟩ := h1
  cases (show u = Value.ref a from rx)
  exact getmeth_ok I1 ea c hm l (PySem.W.callWith_K (first := [.ref a]) (h₀ := X.base) I.ok.mod.kin hm.kp (thn (q.run pos pins s1 I1) fun us s2 ⟨vs, H2, I2, r, q2⟩ => ⟨I2.kIn, wpAny_call (code_at (us := .ref a :: us) (vs := .ref a :: vs) F (hr.mono hj) hx I2 (.cons rfl r) q2)⟩) hst hpl)
/-- C.m(e, ..), a classmethod -/
theorem w_cmethA {pl : Sem Bool} (F : CMt X.prog X.w X.K X.mg X.base C m k sp) (hr : Room j X.A) (hj : k ≤ j) (hx : PassesAt (L2.CX X.prog X.w) X σ E)
    (h : WE X o σ H fun x H1 => x = .ref C ∧ WA X (e :: es) σ H1 fun vs H2 => sp (.ref C :: vs) H2 Q E)
    (hst : starEach (e :: es) X.env = (false, eval e X.env) :: starEach es X.env := by with_unfolding_all rfl) (hpl : (backTo pos (starEach es X.env)).any (·.1) = false := by with_unfolding_all rfl)
    (ht : eval (.Call (.Attribute o m apos) (e :: es) [] pos) X.env = (do
      let ov ← eval o X.env
      standAt apos.atName
      let (f, first) ← holding [ov] (getMethod ov m pl)
      callWith pos f first (backTo pos (starEach (e :: es) X.env)) (backToKw pos (keywordEach [] X.env))) := by with_unfolding_all rfl) : WE X (.Call (.Attribute o m apos) (e :: es) [] pos) σ H Q := by
  obtain ⟨p', g, rd, cm, F⟩ := F.ex
  refine ⟨fun pins s I => PySem.W.methodCall_KW (pl := pl) (thn (h.run pins s I) fun u s1 h1 => ?_) ht⟩
  obtain ⟨_, H1, I1, rx, rfl, q⟩ := h1
  cases (show u = Value.ref C from rx)
  refine ClX.getmethcm_ok I1 rd cm fun s2 I2 => ClX.callwith_cm I2 (ClX.base_none I1 (Nat.le_refl _)) cm.fi (thn (q.run pos _ s2 I2) fun us s3 ⟨vs, H2, I3, rv, q2⟩ => ⟨⟨ClX.pin_at I3, I3.kIn⟩, ?_⟩) hst hpl
  exact thn (wpAny_call (PySem.W.method_call (ClX.pin_at I3) (code_at (us := .ref C :: us) (vs := .ref C :: vs) F (hr.mono hj) hx I3 (.cons rfl rv) q2))) fun _ _ y => ClX.unpinE y
/-- C(e, ..) -/
theorem w_makeA (c : Nm X N L S G B) (mm : Mb x G) (hm : X.mg x = some (.ref C)) (F : Mkr X.prog X.w X.K X.mg X.base C k sp) (hr : Room j X.A) (hj : k + 1 ≤ j) (hx : PassesAt (L2.CX X.prog X.w) X σ E)
    (h : WA X (e :: es) σ H fun vs H1 => Made C sp vs H1 Q E)
    (he : starEach (e :: es) X.env = (false, eval e X.env) :: starEach es X.env := by with_unfolding_all rfl) (hpl : (backTo pos (starEach es X.env)).any (·.1) = false := by with_unfolding_all rfl) : WE X (.Call (.Name x p) (e :: es) [] pos) σ H Q := by
  obtain ⟨f, M, F⟩ := F.ex
  obtain ⟨a, b, d⟩ := c.glo x mm.mem
  refine ⟨fun pins s I => wpAny_Call_Name_kw (ld_glob I a hm (PySem.W.callWith_K (h₀ := X.base) I.ok.mod.kin M.kp (thn (h.run pos pins s I) fun us s1 ⟨vs, H1, I1, r, q⟩ => ⟨I1.kIn, ?_⟩) he hpl) b)⟩
  have n1 : H1 (s1.heap.objs.size + 1) = none := I1.hok.fresh (Nat.le_succ _)
  have n2 : H1 s1.heap.objs.size = none := I1.hok.fresh (Nat.le_refl _)
  have ne : s1.heap.objs.size ≠ s1.heap.objs.size + 1 := Nat.ne_of_lt (Nat.lt_succ_self _)
  have I2 := Inv.made (C := C) I1
  have go := q (s1.heap.objs.size + 1) s1.heap.objs.size (upd (upd H1 s1.heap.objs.size (.own (s1.heap.objs.size + 1))) (s1.heap.objs.size + 1) (.ins C s1.heap.objs.size [])) n1 n2 ne
    ((same_new n2).trans (same_new (by rw [upd_ne (Ne.symm ne)]; exact n1))) (by rw [upd_ne ne]; exact upd_same) upd_same
  have r2 : Vals (V.ref (s1.heap.objs.size + 1) :: vs) (Value.ref (s1.heap.objs.size + 1) :: us) := .cons rfl r
  refine wpAny_call (make_map (f := f) I1.kIn M.makes M.init (beq_iff_eq.mp M.fn) (codeAny_mono (F _ X.stack _ _ (Value.ref (s1.heap.objs.size + 1) :: us) _ _ E ((hr.mono hj).make C us []) (I2.env0.make C us []) r2 go) fun r s' hq => ?_))
  have z := back_at hx I2 hq
  cases r with
  | error e => exact z
  | ok fl =>
    cases fl with
    | ret u =>
      obtain ⟨v, H', I3, rv, ev, q3⟩ := (show EP X pins σ _ u s' from z)
      subst ev
      exact ⟨rv, V.ref (s1.heap.objs.size + 1), H', I3, rfl, q3⟩
    | next => exact (show False from z).elim
    | brk => exact (show False from z).elim
    | cont => exact (show False from z).elim
end
end Sv

/-! Classes called without arguments and with starred ones; enumerate of a tuple. -/
namespace PySem
open Sem (wp)
open AutoSeq1 (wpAny_loadPart')
theorem meets_enumerate_newTup (l : Addr) (items : Array Value) (n : Nat) (dct : Option Addr) (sl : Array (Option Value)) :
    Meets (Builtin.«enumerate.__new__» ⟨[.type "enumerate", .ref l], []⟩) (fun _ R s => s.heap.get? l = some { cls := .type "tuple", dict := dct, data := .seq items n, slots := sl } ∧
      R (.ok (.ret (.ref (s.heap.push { cls := .type "tuple_iterator", data := .fields #[.ref l, .int 0 0] }).objs.size)))
        { s with heap := (s.heap.push { cls := .type "tuple_iterator", data := .fields #[.ref l, .int 0 0] }).push { cls := .type "enumerate", data := .fields #[.none, .bool false, .ref s.heap.objs.size, rawInt 0, .none, .none] } }) :=
  .of_wp fun prog w A R s h => by
    obtain ⟨hp, g, d, tk, os⟩ := s; obtain ⟨hl, h⟩ := h
    have hsub := sub_enumerate
    have hL : Heap.IsTuple (Shared.heap ⟨hp, g, d, tk, os⟩) l items := ⟨_, hl, rfl, n, rfl⟩
    wp_walk using wpAny_loadPart' hl
    refine wpAny_stack_any fun st => wpAny_pure ?_
    split
    · rename_i c _ _ _ _ _
      cases (c == Value.type "enumerate")
      · wp_walk using wpAny_loadPart' hl, wpAny_pyIter_tuple hL
        exact ⟨_, rfl, h⟩
      · wp_walk using wpAny_loadPart' hl, wpAny_pyIter_tuple hL
        exact ⟨_, rfl, h⟩
    · wp_walk using wpAny_loadPart' hl, wpAny_pyIter_tuple hL
      exact ⟨_, rfl, h⟩
theorem call_enumerate_tup {prog : Program} {w : World} {A : Around} {E : Value → Shared → Prop} {s : Shared} {l : Addr} {items : Array Value} {Q : Value → Shared → Prop} (hL : s.heap.IsTuple l items)
    (h : ∀ h', IsEnum h' (s.heap.objs.size + 1) s.heap.objs.size 0 .none → h'.IsTupleIter s.heap.objs.size l 0 → h'.objs.size = s.heap.objs.size + 2 →
      (∀ b o, s.heap.get? b = some o → h'.get? b = some o) → Q (.ref (s.heap.objs.size + 1)) { s with heap := h' }) :
    wpAny (model prog w) A (call (.type "enumerate") [.ref l]) Q E s := by
  obtain ⟨⟨c, dct, dt, sl⟩, hl, hc, n, hd⟩ := hL
  replace hc : c = .type "tuple" := hc
  replace hd : dt = .seq items n := hd
  subst hc hd
  refine callType_new F.called_enumerate (by decide) (F.typeCall_enumerate_1 _) (F.newCall_enumerate_1 _) (fun obj => F.args_object_init_2 obj _) F.entry_enumerate_new
    (meets_enumerate_newTup l items n dct sl) ⟨hl, ?_⟩
  have hz : (s.heap.push { cls := .type "tuple_iterator", data := .fields #[.ref l, .int 0 0] }).objs.size = s.heap.objs.size + 1 := Heap.size_push ..
  show _ ∧ _
  rw [hz]
  have he : IsEnum ((s.heap.push { cls := .type "tuple_iterator", data := .fields #[.ref l, .int 0 0] }).push
      { cls := .type "enumerate", data := .fields #[.none, .bool false, .ref s.heap.objs.size, rawInt 0, .none, .none] }) (s.heap.objs.size + 1) s.heap.objs.size 0 .none := by
    have := Heap.get?_push_size (s.heap.push { cls := .type "tuple_iterator", data := .fields #[.ref l, .int 0 0] })
      (o := { cls := .type "enumerate", data := .fields #[.none, .bool false, .ref s.heap.objs.size, rawInt 0, .none, .none] }) rfl
    rw [hz] at this; exact this
  refine ⟨⟨_, he, rfl⟩, h _ he ⟨_, Heap.get?_push_of_some _ (Heap.get?_push_size _ rfl), rfl, rfl⟩ (by rw [Heap.size_push, hz]) fun b o x => Heap.get?_push_of_some _ (Heap.get?_push_of_some _ x)⟩
end PySem
namespace Sv
open PySem PySem.Spec PyProof.Rows L2
/-- two or more arguments, read in order -/
theorem evalArgs_two {M : Model} {A : Around} {E : Value → Shared → Prop} {s : Shared} {f : Value} {a b : Bool × Sem Value} {rest : List (Bool × Sem Value)} {Q : Args → Shared → Prop}
    (h : wpAny M A (spliced (a :: b :: rest)) (fun vs s' => Q ⟨vs, []⟩ s') E s) : wpAny M A (evalArgs f true (a :: b :: rest) []) Q E s := by
  unfold evalArgs
  obtain ⟨a1, a2⟩ := a
  cases a1 <;>
  · refine wpAny_bind (wpAny_mono h (fun vs s' h' => ?_) fun _ _ x => x)
    refine wpAny_holding ?_
    exact wpAny_bind (wpAny_pure (wpAny_bind (wpAny_pure (wpAny_pure h'))))
section
variable {X : Cx} {N L S G B : List Str} {x m : Str} {e e2 : Expr} {es : List Expr} {σ : L2.St} {H : Hp} {Q : VK} {p pos p1 : Pos} {j k : Nat} {sp : Sp} {E : XK} {C : Addr}
/-- C() -/
theorem w_make0 (c : Nm X N L S G B) (mm : Mb x G) (hm : X.mg x = some (.ref C)) (F : Mkr X.prog X.w X.K X.mg X.base C k sp) (hr : Room j X.A) (hj : k + 1 ≤ j) (hx : Passes (L2.CX X.prog X.w) X E)
    (h : Made C sp [] H Q E) : WE X (.Call (.Name x p) [] [] pos) σ H Q := by
  have kp := F.ex
  obtain ⟨f, M, _⟩ := kp
  obtain ⟨a, b, d⟩ := c.glo x mm.mem
  exact ⟨fun pins s I => wpAny_Call_Name_kw (ld_glob I a hm (PySem.W.callWith_K0 (first := []) I.kIn M.kp (run_mkr F hr hj hx I .nil h)) b)⟩
/-- C(.. e, ..) with a star among two or more -/
theorem w_makeSS (c : Nm X N L S G B) (mm : Mb x G) (hm : X.mg x = some (.ref C)) (F : Mkr X.prog X.w X.K X.mg X.base C k sp) (hr : Room j X.A) (hj : k + 1 ≤ j) (hx : Passes (L2.CX X.prog X.w) X E)
    (h : WA X (e :: e2 :: es) σ H fun vs H1 => Made C sp vs H1 Q E)
    (he : ∃ a b r, starEach (e :: e2 :: es) X.env = a :: b :: r := by exact ⟨_, _, _, by with_unfolding_all rfl⟩) (hst : (backTo pos (starEach (e :: e2 :: es) X.env)).any (·.1) = true := by with_unfolding_all rfl) : WE X (.Call (.Name x p) (e :: e2 :: es) [] pos) σ H Q := by
  have kp := F.ex
  obtain ⟨f, M, _⟩ := kp
  obtain ⟨a, b, d⟩ := c.glo x mm.mem
  refine ⟨fun pins s I => wpAny_Call_Name_kw (ld_glob I a hm ?_ b)⟩
  refine PySem.W.ks_call hst (PySem.W.keeps_K M.kp) ?_
  obtain ⟨u, v, r, e9⟩ := he
  have go := h.run pos pins s I
  rw [e9] at go ⊢
  refine evalArgs_two (thn go fun us s1 ⟨vs, H1, I1, rv, q⟩ => ⟨I1.kIn, ?_⟩)
  exact run_mkr F hr hj hx I1 rv q
end
/-- the tuple at a as it stands at each turn, each item in a new pair -/
def Itet (K : PySem.W.Frag) (n : Nat) (a : Addr) : It :=
  ⟨fun i H => i < n ∧ ∃ (xs : List V) (x : V), SqT K H a xs ∧ xs[i]? = some x, fun i H v H' => ∃ T x, v = .ref T ∧ H T = none ∧ H' = upd H T (.tup [.int (i : Nat), x]) ∧ ∀ xs, SqT K H a xs → xs[i]? = some x, fun i H => n ≤ i ∧ ∃ xs : List V, SqT K H a xs ∧ xs.length = n⟩
theorem turn_enumT {P : Program} {w : World} {K : PySem.W.Frag} {n : Nat} {elts : List Expr} {kk : Nat} {tpos : Pos} {a e it : Addr} (na : a ≠ it) (hei : e ≠ it) (hea : e ≠ a) :
    Turn P w K (.Tuple elts kk tpos) (Itet K n a) [e, it] e (fun i h => i ≤ n ∧ (∃ old, IsEnum h e it (0 + ((i : Nat) : Int)) old) ∧ h.IsTupleIter it a i) where
  mem := by simp
  obj := fun i h st b hb => by
    obtain ⟨_, ⟨old, he⟩, ⟨o, ho, hc, hd⟩⟩ := st
    have e' : b = e ∨ b = it := by simpa using hb
    rcases e' with z | z
    · rw [z]; exact ⟨_, he, fun v q => nomatch q⟩
    · rw [z]; exact ⟨o, ho, fun v q => by rw [hd] at q; cases q⟩
  keep := fun i h h' st k => let ⟨hn, ⟨old, he⟩, hi⟩ := st; ⟨hn, ⟨old, k e (by simp) _ he⟩, hi.at fun o q => k it (by simp) o q⟩
  item := by
    intro X hP hw hK hc i pins s σ H E I hf st hg
    subst hP hw hK
    obtain ⟨hn, he, hit⟩ := st
    obtain ⟨hin, xs, x, hq, hx⟩ := hg
    obtain ⟨its, rv, p, hz⟩ := I.tuple hq
    obtain ⟨u, hu, ru⟩ := rv.get hx
    have hh := I.ok.hd hc
    have li := (List.getElem?_eq_some_iff.mp hu).1
    have hel : e < s.heap.objs.size := by obtain ⟨_, he⟩ := he; exact Heap.lt_size he
    have hil : it < s.heap.objs.size := by obtain ⟨_, q, _⟩ := hit; exact Heap.lt_size q
    have G := GoesN.enumFrom (A := X.A) (elts := elts) (x1 := kk) (pos := tpos) 0 (Draws.tuple (prog := X.prog) (w := X.w) (A := X.A.in1) hh it a na its.toArray) e hei (by simp [hei, hea]) (by simp)
    refine thn (G.goes i s (fun u s2 => ∃ x H', Inv X pins σ H' s2 ∧ RelV x u ∧ (Itet X.K n a).yld i H x H' ∧ (i + 1 ≤ n ∧ (∃ old, IsEnum s2.heap e it (0 + (((i + 1 : Nat) : Nat) : Int)) old) ∧ s2.heap.IsTupleIter it a (i + 1)) ∧ ∀ q ∈ [e, it], H' q = none) E (by rw [List.size_toArray]; omega) ⟨he, hit, p⟩ fun v h' tk y' st' k _ => ?_) fun r s1 h => h
    obtain ⟨T, t, x', rfl, hT, e1, ht⟩ := y'
    obtain ⟨ke, ki, _⟩ := st'
    have q1 : x' = u := by rw [List.getElem?_toArray, hu] at e1; exact (Option.some.inj e1).symm
    subst q1
    have new : ObjOk X.prog X.w (upd H T (.tup [.int (i : Nat), x])) h' T (.tup [.int (i : Nat), x]) := ⟨by show 2 ≤ sizeLine; decide, [.int (0 + (i : Nat)) t, x'], .cons ⟨t, by simp⟩ (.cons ru .nil), by
      obtain ⟨o, ho, hcl, m, hd⟩ := ht
      exact ⟨o, ho, hcl, m, by simpa using hd⟩⟩
    have I1 : Inv X pins σ (upd H T (.tup [.int (i : Nat), x])) { s with heap := h', toks := tk } :=
      I.turnedNew (ch := [e, it]) (fun q ob hb e' => k q ob hb e') hf hT new
    refine ⟨.ref T, _, I1, rfl, ⟨T, x, rfl, I.hok.fresh hT, rfl, fun l hl => by rw [I.tuple_inj hl hq]; exact hx⟩, ⟨hin, ke, ki⟩, fun q hq => ?_⟩
    have hlt : q < s.heap.objs.size := by
      have e' : q = e ∨ q = it := by simpa using hq
      rcases e' with r | r
      · rw [r]; exact hel
      · rw [r]; exact hil
    rw [upd_ne (Nat.ne_of_lt (Nat.lt_of_lt_of_le hlt hT))]
    exact (hf q hq).1
  done := by
    intro X hP hw hK hc i pins s σ H E I hf st hg
    subst hP hw hK
    obtain ⟨hn, he, hit⟩ := st
    obtain ⟨hin, xs, hq, hl⟩ := hg
    have e0 : i = n := Nat.le_antisymm hn hin
    subst e0
    obtain ⟨its, rv, p, hz⟩ := I.tuple hq
    have l1 := rv.length
    have hh := I.ok.hd hc
    have G := GoesN.enumFrom (A := X.A) (elts := elts) (x1 := kk) (pos := tpos) 0 (Draws.tuple (prog := X.prog) (w := X.w) (A := X.A.in1) hh it a na its.toArray) e hei (by simp [hei, hea]) (by simp)
    have en : its.toArray.size = i := by rw [List.size_toArray]; omega
    refine thn (G.stops s (fun s1 => Inv X pins σ H s1) E (by rw [en]; exact ⟨he, hit, p⟩) fun h' tk k _ => ?_) fun r s1 h => h
    exact I.turnedL (ch := [e, it]) (fun q ob hb e' => k q ob hb e') hf
  self := fun A i s Q E st h => let ⟨_, ⟨_, he⟩, _⟩ := st; wpAny_pyIter_enum he h
def iEnumT (K : PySem.W.Frag) (ta : TA) : TI := fun σ H R => ta σ H fun vs H1 => ∃ a xs, vs = [.ref a] ∧ SqT K H1 a xs ∧ R (Itet K xs.length a) H1
theorem pi_enumT {X : Cx} {e : Expr} {ta : TA} {p pos tpos : Pos} {elts : List Expr} {kk : Nat} (hg : Gl X "enumerate") (hm : X.mg "enumerate" = none) (ha : PA X [e] ta) (hs : starEach [e] X.env = [(false, eval e X.env)] := by rfl) :
    PI X (.Tuple elts kk tpos) (.Call (.Name "enumerate" p) [e] [] pos) (iEnumT X.K ta) := by
  refine ⟨fun pins s σ H R I h => ?_⟩
  refine Call_ (ld_blt I hg hm boot_enumerate (PyProof.Rows.callWith_type1 (thn (ha.run pos pins s σ H _ I h) fun us s1 ⟨vs, H1, I1, r1, q1⟩ => ?_) hs rfl))
  obtain ⟨a, xs, ex, hq, q⟩ := q1
  subst ex
  cases r1 with
  | cons r rr =>
    cases rr
    cases r
    obtain ⟨its, rv, p', hz⟩ := I1.tuple hq
    have la : a < s1.heap.objs.size := by obtain ⟨_, q, _⟩ := p'; exact Heap.lt_size q
    refine call_enumerate_tup p' fun h' he hit hsz hk => wpAny_pyIter_enum he ?_
    have I2 : Inv X pins σ H1 { s1 with heap := h' } := I1.kept (t' := s1.toks) hk
    refine ⟨s1.heap.objs.size + 1, [s1.heap.objs.size + 1, s1.heap.objs.size], _, _, H1, rfl, I2, turn_enumT (a := a) (e := s1.heap.objs.size + 1) (it := s1.heap.objs.size) (Nat.ne_of_lt la) (Nat.succ_ne_self _) (Ne.symm (Nat.ne_of_lt (Nat.lt_succ_of_lt la))), ⟨Nat.zero_le _, ⟨.none, by simpa using he⟩, hit⟩, fun b hb => ?_, q⟩
    have e' : b = s1.heap.objs.size + 1 ∨ b = s1.heap.objs.size := by simpa using hb
    have hle : s1.heap.objs.size ≤ b := by
      rcases e' with z | z
      · rw [z]; exact Nat.le_add_right _ _
      · rw [z]; exact Nat.le_refl _
    exact I1.fpOk hle (I1.hok.fresh hle)
theorem wlk_enumT {K : PySem.W.Frag} {a : Addr} {xs : List V} {H1 : Hp} (h : SqT K H1 a xs) : WlkT (Itet K xs.length a) xs.length (fun i => [.int (i : Nat), xs.getD i .non]) H1 where
  go := fun i H hi e => ⟨hi, xs, xs[i], same_t e h, by simp [hi]⟩
  yld := fun i H v H' hi e y => by
    obtain ⟨T, x, ev, hT, eH, hx⟩ := y
    have := hx xs (same_t e h)
    exact ⟨T, ev, hT, by rw [eH, List.getD_eq_getElem?_getD, this]; rfl⟩
  stop := fun i H hi e => ⟨hi, xs, same_t e h, rfl⟩
section
variable {X : Cx} {N L S G B : List Str} {a : Expr} {σ : L2.St} {H : Hp} {R : It → Hp → Prop} {p pos : Pos}
theorem wi_enumT {elts : List Expr} {kk : Nat} {tpos : Pos} (c : Nm X N L S G B) (m : Mb "enumerate" B) (h : WE X a σ H fun x H1 => ∃ l xs, x = .ref l ∧ SqT X.K H1 l xs ∧ R (Itet X.K xs.length l) H1) (hs : starEach [a] X.env = [(false, eval a X.env)] := by with_unfolding_all rfl) :
    WI X (.Tuple elts kk tpos) (.Call (.Name "enumerate" p) [a] [] pos) σ H R :=
  (pi_enumT (c.bgl _ m.mem).1 (c.blt _ m.mem) (pa_cons pe_w pa_nil hs) hs).w (WE.imp h fun x H1 ⟨l, xs, e, h, q⟩ => ⟨l, xs, by rw [e], h, q⟩)
end
end Sv

/-! Errors of the program's own directly over a builtin kind (OverflowError, RuntimeError), their __init__ calling that of the kind. -/
namespace PySem
/-- what a builtin kind of errors brings -/
structure BaseF (B newId initId : String) (tl : List Value) : Prop where
  ex : ExcBaseFacts B newId initId tl
  st : StoreFacts B tl "object.__setattr__" "object"
  ob : tl.contains (.type "object") = true
abbrev ovTail : List Value := [.type "OverflowError", .type "ArithmeticError", .type "Exception", .type "BaseException", .type "object"]
abbrev rtTail : List Value := [.type "RuntimeError", .type "Exception", .type "BaseException", .type "object"]
theorem base_ov : BaseF "OverflowError" "OverflowError.__new__" "OverflowError.__init__" ovTail := ⟨F.excBase_OverflowError, F.store_OverflowError, by decide +kernel⟩
theorem base_rt : BaseF "RuntimeError" "RuntimeError.__new__" "RuntimeError.__init__" rtTail := ⟨F.excBase_RuntimeError, F.store_RuntimeError, by decide +kernel⟩
section
open Builtin Builtin.ObjectAttr HandSPX
variable {prog : Program} {w : World} {A : Around} {E : Value → Shared → Prop} {R : Result → Shared → Prop} {hp : Heap} {g : Array GenState} {d : Drawn} {t : Nat} {os : OsState}
theorem exc_osaB {B newId initId : String} {tl : List Value} (BF : BaseF B newId initId tl) {K : W.Frag} {name : Str} {tk : Tok} {v : Value} {x C : Addr} {fv : Array Value} {cd : ClassData}
    (X : K.In hp) (hx : hp.get? x = some { cls := .ref C, data := .fields fv }) (hcd : W.clsIn K C = some cd) (hm : cd.mro = .ref C :: tl) (hh : cd.hasDict = true) (ha : W.findIn K (.ref C) name = some none)
    (hq : ∀ h' tk' dx, (∀ b o, b ≠ x → hp.get? b = some o → h'.get? b = some o) → hp.objs.size ≤ dx → dx ≠ x → h'.get? x = some { cls := .ref C, dict := some dx, data := .fields fv } →
      h'.Ns1 dx (fun y => if y = name then some v else none) → R (.ok (.ret .none)) ⟨h', g, d, tk', os⟩) :
    codeAny (model prog w) A (.call (.builtin "object.__setattr__") ⟨[.ref x, .str name tk, v], []⟩) R ⟨hp, g, d, t, os⟩ := by
  have I : W.InstAt hp x { cls := .ref C, data := .fields fv } C none := ⟨hx, rfl, rfl, trivial⟩
  have SF := F.store_object
  have ne : cd.mro.isEmpty = false := by rw [hm]; rfl
  have hob : cd.mro.contains (.type "object") = true := by rw [hm, List.contains_cons, BF.ob, Bool.or_true]
  have hxs : x ≠ hp.objs.size := Nat.ne_of_lt (Heap.lt_size hx)
  have sub : W.Looks (model prog w) hp (isInstance (.ref x) (.type "object")) true := I.type.andThen (W.looks_mroIn X (by unfold W.mroIn; rw [hcd, Option.bind_some, if_neg (by rw [ne]; decide), hob]))
  refine codeAny_call_builtin SF.slot.plain SF.entry (@W.check_slot (model prog w) _ _ ⟨hp, g, d, t, os⟩ "object.__setattr__" "object" "__setattr__" (.ref x) [.str name tk, v] [] _ SF.kind SF.split sub (SF.args (.ref x) (.str name tk) v) ?_)
  have hmr : W.Looks (model prog w) hp (mroOf (.ref C)) cd.mro := (W.looks_clsIn X hcd).andThen .now
  have L3 : W.Looks (model prog w) hp (storeTaker? none) none := .now
  have hcls : W.Looks (model prog w) hp (classData C) cd := W.looks_clsIn X hcd
  have hpass : refuseLoop (.ref x) "__setattr__" cd.mro = pure () := by
    rw [hm, refuseLoop_ref]
    exact BF.st.passes _
  rw [W.osa_eq, refuse_eq]
  refine wpAny_bind (wpAny_bind (I.type.at (wpAny_bind (hmr.at ?_))))
  rw [hpass]
  refine wpAny_pure (wpAny_bind (I.type.at (wpAny_bind ((W.looks_findIn X ha).at (wpAny_bind (L3.at ?_))))))
  show wpAny _ _ (storeInOwnDict (.ref x) (.ref C) (.str name tk) name v false) _ _ _
  obtain ⟨nm, bs, mro, ns, qn, hd, sn, sb, ab, col, del⟩ := cd
  dsimp only at hh
  subst hh
  unfold storeInOwnDict ownDictForStores
  repeat (first | with_reducible refine store_in_new ?_ ?_ | with_reducible refine wpAny_loadPart_at hx ?_ | with_reducible refine hcls.at ?_ | wp_step)
  · exact ⟨_, #[], _, (Heap.get?_update_ne _ _ _ _ hxs.symm).trans (Heap.get?_push_at rfl rfl), rfl, fun e he => absurd he (by simp), fun _ => rfl⟩
  · intro h' tk' hn' hs
    have hx₁ : (hp.push { cls := .type "dict", data := .dict #[] }).get? x = some { cls := .ref C, data := .fields fv } := Heap.get?_push_of_some _ hx
    refine hq h' tk' hp.objs.size (fun b o hb ho => ?_) (Nat.le_refl _) hxs.symm ?_ hn'
    · exact (hs.2 b (Nat.ne_of_lt (Heap.lt_size ho))).trans ((Heap.get?_update_ne _ _ _ _ hb).trans (Heap.get?_push_of_some _ ho))
    · exact (hs.2 x hxs).trans (Heap.get?_update_self _ hx₁ rfl)
end
end PySem
namespace L2
open PySem PySem.Spec PyProof.Rows
/-- what the written part says of such a class -/
structure OexB (K : PySem.W.Frag) (C : Addr) (newId : String) (tl : List Value) : Prop where
  cls : ∃ nm q N bs sn sub ab col dd k0 k1 k2 k3 k5, K.lookup C = some (excClassObj nm q C N bs tl true sn sub ab col dd k0 k1 k2 k3 k5 newId)
  sa : PySem.W.findIn K (.ref C) "__setattr__" = some (some (.builtin "object.__setattr__"))
  exC : PySem.W.subIn K (.ref C) (.type "BaseException") = some true
  tyC : PySem.W.typeIn K (.ref C) = some (.type "type")
  kC : PySem.W.keepIn K (.ref C) = true
section
variable {X : Cx} {pins : List (Addr × Obj)} {σ : St} {H : Hp} {s : Shared} {a C dx : Addr} {f : Str} {y : V} {u : Value} {fs : List (Str × V)} {Q : Unit → Shared → Prop} {E : Value → Shared → Prop} {A : Around} {B newId initId : String} {tl : List Value}
theorem ost_newB (BF : BaseF B newId initId tl) (T : OexB X.K C newId tl) (I : Inv X pins σ H s) (e : H a = some (exo a C none)) (hno : PySem.W.findIn X.K (.ref C) f = some none) (ry : RelV y u)
    (h : ∀ dx s', H dx = none → dx ≠ a → Inv X pins σ (upd (upd H dx (exd dx [(f, y)])) a (exo a C (some dx))) s' → Q () s') : wpAny (model X.prog X.w) A (setAttr (.ref a) f u) Q E s := by
  obtain ⟨nm, q, N, bs, sn, sub, ab, col, dd, k0, k1, k2, k3, k5, hC⟩ := T.cls
  have hcl : PySem.W.clsIn X.K C = some { name := nm, bases := bs, mro := .ref C :: tl, ns := N, qualname := q, hasDict := true, slotNames := sn, subclasses := sub, abstract := ab, collection := col, hasDel := false } := by unfold PySem.W.clsIn; rw [hC] <;> rfl
  obtain ⟨t1, ho⟩ := exo_at I.hok e
  obtain ⟨hp, g, d, t, os⟩ := s
  refine PySem.W.set_plain I.kIn (ox := { cls := .ref C, dict := none, data := .fields #[.ref t1, .none, .none, .none, .bool false, .none] }) (od := none) ⟨ho, rfl, rfl, trivial⟩ T.sa ?_
  refine PySem.exc_osaB BF I.kIn ho hcl rfl rfl hno (fun h' tk' dx k dn dne hx hn => ?_)
  have hnd : H dx = none := I.hok.fresh dn
  have nd : ∀ {b : Addr} {o : Obj}, hp.get? b = some o → b ≠ dx := fun {b o} q => Nat.ne_of_lt (Nat.lt_of_lt_of_le (Heap.lt_size q) dn)
  have na : ∀ {b : Addr}, H b = none → b ≠ a := fun {b} n z => by
    rw [z, e] at n
    cases n
  have Un1 : Un X.fs [] H (upd (upd H dx (exd dx [(f, y)])) a (exo a C (some dx))) hp h' := {
    keep := fun b o q n _ _ => k b o (na n) q
    slot := fun b o q n _ _ => ⟨o.slots, k b o (na n) q⟩
    free := fun b o q n _ => by rw [upd_ne (na n), upd_ne (nd q)]; exact n
    there := fun b o q _ => by
      by_cases hb : b = a
      · exact ⟨_, by rw [hb]; exact hx⟩
      · exact ⟨o, k b o hb q⟩
    tups := fun b xs q => by rw [upd_ne (at_ne e q exo_tup), upd_ne (ne_of_none q hnd)]; exact q
    frzs := fun b o v q => by rw [upd_ne (at_ne e q exo_frz), upd_ne (ne_of_none q hnd)]; exact q
    tbls := fun b ps q => ⟨#[], by rw [upd_ne (at_ne e q exo_tbl), upd_ne (ne_of_none q hnd), q]; simp⟩ }
  refine h dx _ hnd dne (I.un (t' := tk') Un1 fun b o q => ?_)
  by_cases hb : b = a
  · subst hb
    rw [upd_same] at q
    cases q
    exact exo_ok hx
  · rw [upd_ne hb] at q
    by_cases hd : b = dx
    · subst hd
      rw [upd_same] at q
      cases q
      exact exd_ok hn (relO_put (fs := []) ry fun g => True.intro)
    · rw [upd_ne hd] at q
      exact (I.hok b o q).stay (fun c v hc z => k c v (by
          rcases hc with hc | hc
          · rw [hc]
            exact hb
          · exact at_ne e hc exo_own) z)
        (fun c hc => by rw [upd_ne (at_ne e hc exo_own), upd_ne (ne_of_none hc hnd)]; exact hc) (fun c xs hc => by rw [upd_ne (at_ne e hc exo_tup), upd_ne (ne_of_none hc hnd)]; exact hc)
theorem oinit_okB {us : List Value} {Q : Value → Shared → Prop} (BF : BaseF B newId initId tl) (T : OexB X.K C newId tl) (I : Inv X pins σ H s) (e : H a = some (exo a C none)) (hl : us.length ≤ sizeLine) (h : ∀ s', Inv X pins σ H s' → Q .none s') :
    wpAny (model X.prog X.w) A (call (.builtin initId) (.ref a :: us)) Q E s := by
  obtain ⟨nm, q, N, bs, sn, sub, ab, col, dd, k0, k1, k2, k3, k5, hC⟩ := T.cls
  obtain ⟨t1, ho⟩ := exo_at I.hok e
  obtain ⟨hp, g, d, t, os⟩ := s
  refine wpAny_call (PySem.HandSPX.init_base BF.ex (fun Y => rfl) (I.kIn _ _ hC) ho hl fun h' t2 k hx => ?_)
  have J := I.write (t' := t) (x := a) (e := a) (o := exo a C none) (by rw [e]; exact True.intro) (.inl rfl) k ⟨_, hx⟩ (exo_ok hx)
  have eu : upd H a (exo a C none) = H := by
    funext b
    by_cases hb : b = a
    · rw [hb, upd_same, e]
    · rw [upd_ne hb]
  rw [eu] at J
  exact h _ J
end
end L2
namespace Sv
open PySem PySem.Spec PyProof.Rows L2
section
open He
def oexOB (newId : String) (tl : List Value) (C : Addr) : Option Obj → Bool
  | some ⟨.type "type", _, .cls cd, sl⟩ => (match cd.mro, sl.toList with
    | .ref C' :: bm, [_, _, _, _, some (.builtin n), _] => C' == C && n == newId && !cd.hasDel && cd.hasDict && bm == tl
    | _, _ => false)
  | _ => false
theorem oexOB_ok {newId : String} {tl : List Value} {C : Addr} {oo : Option Obj} (h : oexOB newId tl C oo = true) : ∃ nm q N bs sn sub ab col dd k0 k1 k2 k3 k5, oo = some (excClassObj nm q C N bs tl true sn sub ab col dd k0 k1 k2 k3 k5 newId) := by
  unfold oexOB at h
  split at h
  · rename_i dd cd sl
    split at h
    · rename_i C' bm k0 k1 k2 k3 n k5 hm hs
      simp only [Bool.and_eq_true, beq_iff_eq, Bool.not_eq_true'] at h
      obtain ⟨⟨⟨⟨rfl, rfl⟩, hdel⟩, hdc⟩, rfl⟩ := h
      obtain ⟨nm, bs, mro, ns, qn, hd, sn, sub, ab, col, del⟩ := cd
      dsimp only at hm hdel hdc
      subst hm hdel hdc
      have hsl : sl = #[k0, k1, k2, k3, some (.builtin n), k5] := by
        obtain ⟨l⟩ := sl
        simp only at hs
        rw [hs]
      subst hsl
      exact ⟨nm, qn, ns, bs, sn, sub, ab, col, dd, k0, k1, k2, k3, k5, rfl⟩
    · cases h
  · cases h
def errOB (newId : String) (tl : List Value) (x fld : Str) (K : PySem.W.Frag) : Bool := oexOB newId tl (ga K x) (K.lookup (ga K x)) && (eqO (PySem.W.findIn K (.ref (ga K x)) "__setattr__") (some (some (.builtin "object.__setattr__"))) &&
  (decide (PySem.W.subIn K (.ref (ga K x)) (.type "BaseException") = some true) && (decide (PySem.W.typeIn K (.ref (ga K x)) = some (.type "type")) && (PySem.W.keepIn K (.ref (ga K x)) &&
  (eqO (PySem.W.findIn K (.ref (ga K x)) fld) (some none) && (xfB K (ga K x) && (eqO (PySem.W.findIn K (.ref (ga K x)) "__init__") (some (some (.ref (ma K (ga K x) "__init__")))) &&
  decide (PySem.W.typeIn K (.ref (ma K (ga K x) "__init__")) = some (.type "function")))))))))
/-- ErrC, over a builtin kind -/
structure ErrCB (K : PySem.W.Frag) (C : Addr) (fld : Str) (f : Addr) (newId : String) (tl : List Value) : Prop where
  T : OexB K C newId tl
  no : PySem.W.findIn K (.ref C) fld = some none
  xf : XfC K C
  iC : PySem.W.findIn K (.ref C) "__init__" = some (some (.ref f))
  tI : PySem.W.typeIn K (.ref f) = some (.type "function")
theorem errOB_ok {newId : String} {tl : List Value} {x fld : Str} {K : PySem.W.Frag} (h : errOB newId tl x fld K = true) : ErrCB K (ga K x) fld (ma K (ga K x) "__init__") newId tl := by
  obtain ⟨h1, h⟩ := ba h
  obtain ⟨h2, h⟩ := ba h
  obtain ⟨h3, h⟩ := ba h
  obtain ⟨h4, h⟩ := ba h
  obtain ⟨h5, h⟩ := ba h
  obtain ⟨h6, h⟩ := ba h
  obtain ⟨h7, h⟩ := ba h
  obtain ⟨h8, h9⟩ := ba h
  exact ⟨⟨oexOB_ok h1, eqO_ok h2, of_decide_eq_true h3, of_decide_eq_true h4, h5⟩, eqO_ok h6, xfB_ok h7, eqO_ok h8, of_decide_eq_true h9⟩
end
section
variable {X : Cx} {N L S G B : List Str} {x f : Str} {e o : Expr} {es : List Expr} {σ : L2.St} {H : Hp} {Q : VK} {D : Ends} {p p1 p2 p' pos : Pos} {nB newId initId : String} {tl : List Value}
/-- Kind.__init__(self, ..) of a builtin kind -/
theorem w_binit {pl : Sem Bool} (BF : BaseF nB newId initId tl) (c : Nm X N L S G B) (mm : Mb x B) (hv : bootBuiltins x = some (.type nB)) (ht : typeOf (.type nB) = pure (.type "type")) (hs : Manifest.isStub nB = false) (hh : PySem.W.handedIn (.builtin initId) = true) (vV : PySem.W.findCls X.K (.type nB) (.type "type") "__init__" = some (.val (.builtin initId)))
    (h : WA X (e :: es) σ H fun vs H1 => ∃ (a C : Addr) (ws : List V), vs = .ref a :: ws ∧ ws.length ≤ 1000 ∧ OexB X.K C newId tl ∧ H1 a = some (exo a C none) ∧ Q .non H1)
    (hn : x ≠ "__name__" := by decide) (hd : (x == ("__debug__" : Str)) = false := by decide)
    (hc : eval (.Call (.Attribute (.Name x p1) "__init__" p2) (e :: es) [] pos) X.env = (do
      let ov ← eval (.Name x p1) X.env
      standAt p2.atName
      let (f, first) ← holding [ov] (getMethod ov "__init__" pl)
      callWith pos f first (backTo pos (starEach (e :: es) X.env)) (backToKw pos (keywordEach [] X.env))) := by with_unfolding_all rfl)
    (he : starEach (e :: es) X.env = (false, eval e X.env) :: starEach es X.env := by with_unfolding_all rfl) (hpl : (backTo pos (starEach es X.env)).any (·.1) = false := by with_unfolding_all rfl) :
    WE X (.Call (.Attribute (.Name x p1) "__init__" p2) (e :: es) [] pos) σ H Q := by
  refine ⟨fun pins s I => ?_⟩
  refine PySem.W.methodCall_KW (ld_blt I (c.bgl _ mm.mem).1 (c.blt _ mm.mem) hv ?_ hn hd) hc
  obtain ⟨m, fr⟩ := I.fr
  refine PySem.W.method_type fr I.ok.mod.kin ht hs vV hh ?_
  show wpAny _ _ (callWith pos (Value.builtin initId) [] (backTo pos (starEach (e :: es) X.env)) []) _ _ _
  refine PyProof.Rows.callWith_method1 (thn (h.run pos pins _ (I.tok _)) fun us s1 ⟨vs, H1, I1, r1, a, C, ws, ev, hl, T, ea, q⟩ => ?_) he hpl
  subst ev
  cases r1 with
  | @cons _ u0 _ ur ra rw' =>
    obtain rfl : u0 = Value.ref a := ra
    have hlen : ur.length ≤ sizeLine := by
      rw [← Paired.length rw', sizeLine_eq]
      omega
    exact oinit_okB BF T I1 ea hlen fun s' J => ⟨.non, H1, J, rfl, q⟩
/-- self.f = e, self an error that is being made -/
theorem ws_ostB (BF : BaseF nB newId initId tl) (h : WE X e σ H fun y H1 => WE X o σ H1 fun x H2 => ∃ a C : Addr, x = .ref a ∧ OexB X.K C newId tl ∧ PySem.W.findIn X.K (.ref C) f = some none ∧ H2 a = some (exo a C none) ∧
      ∀ dx, H2 dx = none → dx ≠ a → D.nx σ (upd (upd H2 dx (exd dx [(f, y)])) a (exo a C (some dx))))
    (hs : swapsWith e (some (.Attribute o f p')) pos.line X.env = pure false := by with_unfolding_all rfl) : WS X (.Assign [.Attribute o f p'] e pos) D σ H := by
  refine ⟨fun pins s I => ?_⟩
  refine plainObj_wpAny_Assign_Attribute (thn (h.run pins s I) fun v s1 ⟨y, H1, I1, r1, q1⟩ => thn (q1.run pins s1 I1) fun u s2 ⟨x, H2, I2, r2, a, C, ex, T, hno, ea, q⟩ => ?_) hs
  subst ex
  obtain rfl : u = Value.ref a := r2
  exact ost_newB BF T I2 ea hno r1 fun dx s' n ne J => ⟨σ, _, J, q dx n ne⟩
end
/-- Err, over a builtin kind -/
structure ErrB (P : Program) (w : World) (K : PySem.W.Frag) (mg : Str → Option Value) (base : Heap) (C : Addr) (fld : Str) (k : Nat) (nB newId initId : String) (tl : List Value) : Prop where
  bf : BaseF nB newId initId tl
  ex : ∃ f, ErrCB K C fld f newId tl ∧ FnR P w K mg base (L2.CX P w) k f (spErrI K C fld)
section
variable {X : Cx} {N L S G B : List Str} {x : Str} {e : Expr} {σ : L2.St} {H : Hp} {p pos : Pos} {C : Addr} {fld : Str} {j k : Nat} {nB newId initId : String} {tl : List Value}
theorem wmk_errB {Q : XK} (c : Nm X N L S G B) (mm : Mb x G) (hm : X.mg x = some (.ref C)) (F0 : ErrB X.prog X.w X.K X.mg X.base C fld k nB newId initId tl) (hr : Room j X.A) (hj : k + 1 ≤ j) (h : WE X e σ H fun v H1 => ∀ d, H1 d = none → Q (.ref C) (some d) (upd H1 d (.xd [(fld, v)])))
    (he : starEach [e] X.env = (false, eval e X.env) :: starEach [] X.env := by with_unfolding_all rfl) (hpl : (backTo pos (starEach [] X.env)).any (·.1) = false := by with_unfolding_all rfl) : WMk X (.Call (.Name x p) [e] [] pos) σ H Q := by
  obtain ⟨fI, Er, F1⟩ := F0.ex
  have T := Er.T
  obtain ⟨nm, q, N', bs, sn, sub, ab, col, dd, k0, k1, k2, k3, k5, hC⟩ := T.cls
  obtain ⟨ag, b, d⟩ := c.glo x mm.mem
  refine ⟨fun pins s I => wpAny_Call_Name_kw (ld_glob I ag hm ?_ b)⟩
  have ha : WA X [e] σ H fun vs H1 => ∃ v, vs = [v] ∧ ∀ d, H1 d = none → Q (.ref C) (some d) (upd H1 d (.xd [(fld, v)])) := wa_cons (WE.imp h fun v H1 q => wa_nil ⟨v, rfl, q⟩) he
  refine PySem.W.callWith_K (h₀ := X.base) I.ok.mod.kin T.kC (thn (ha.run pos pins s I) fun us s1 ⟨vs, H1, I1, r1, v, ev, q1⟩ => ⟨I1.kIn, ?_⟩) he hpl
  subst ev
  show wpAny _ _ (call (.ref C) us) _ _ _
  have hus : us.length ≤ sizeLine := by
    rw [← Paired.length r1, sizeLine_eq]
    show 1 ≤ 16777216
    omega
  obtain ⟨hp, g, dr, tk, os⟩ := s1
  have hsz : hp.objs.size ≤ hp.objs.size + 1 := Nat.le_succ _
  have hn : H1 (hp.objs.size + 1) = none := I1.hok.fresh hsz
  have kk : ∀ b o, hp.get? b = some o → ((hp.push (PySem.W.kdv_tup us)).push (PySem.HandSPX.excO C hp.objs.size)).get? b = some o := fun b o e => Heap.get?_push_of_some _ (Heap.get?_push_of_some _ e)
  have hget : ((hp.push (PySem.W.kdv_tup us)).push (PySem.HandSPX.excO C hp.objs.size)).get? (hp.objs.size + 1) = some (PySem.HandSPX.excO C hp.objs.size) := by heap_get
  have I2 : Inv X pins σ (upd H1 (hp.objs.size + 1) (exo (hp.objs.size + 1) C none)) ⟨(hp.push (PySem.W.kdv_tup us)).push (PySem.HandSPX.excO C hp.objs.size), g, dr, tk, os⟩ :=
    I1.laid (t' := tk) (a := hp.objs.size + 1) (o := exo (hp.objs.size + 1) C none) (h' := (hp.push (PySem.W.kdv_tup us)).push (PySem.HandSPX.excO C hp.objs.size)) kk hsz (exo_ok hget)
  have r2 : Vals [V.ref (hp.objs.size + 1), v] (Value.ref (hp.objs.size + 1) :: us) := .cons rfl r1
  have hr2 : Room (k + 1) X.A := hr.mono hj
  have hq : spErrI X.K C fld [V.ref (hp.objs.size + 1), v] (upd H1 (hp.objs.size + 1) (exo (hp.objs.size + 1) C none)) (fun v' H2 => v' = .non ∧ ∃ (d : Addr), H2 (hp.objs.size + 1) = some (exo (hp.objs.size + 1) C (some d)) ∧ H2 d = some (exd d [(fld, v)]) ∧ H1 d = none ∧
      Q (.ref C) (some d) (upd (del H2 (hp.objs.size + 1)) d (.xd [(fld, v)]))) E0 := by
    refine ⟨_, v, rfl, upd_same, fun dx hdx hne => ⟨rfl, dx, upd_same, ?_, ?_, ?_⟩⟩
    · rw [upd_ne hne, upd_same]
    · rw [upd_ne hne] at hdx
      exact hdx
    · rw [upd_ne hne] at hdx
      have hH : upd (del (upd (upd (upd H1 (hp.objs.size + 1) (exo (hp.objs.size + 1) C none)) dx (exd dx [(fld, v)])) (hp.objs.size + 1) (exo (hp.objs.size + 1) C (some dx))) (hp.objs.size + 1)) dx (.xd [(fld, v)]) = upd H1 dx (.xd [(fld, v)]) := by
        funext b
        by_cases hb : b = dx
        · rw [hb, upd_same, upd_same]
        · rw [upd_ne hb, upd_ne hb]
          by_cases hb2 : b = hp.objs.size + 1
          · rw [hb2, del_same, hn]
          · rw [del_ne hb2, upd_ne hb2, upd_ne hb, upd_ne hb2]
      rw [hH]
      exact q1 dx hdx
  refine wpAny_call (PySem.HandSPX.call_own F0.bf.ex (fun Y => rfl) (I1.kIn _ _ hC) (PySem.W.looks_findIn I1.kIn Er.iC) (fun self => PySem.W.bind_fn I1.kIn self Er.tI) hus
    (codeAny_mono (F1 _ X.stack _ _ (Value.ref (hp.objs.size + 1) :: us) [V.ref (hp.objs.size + 1), v] _ E0 (hr2.make C us []) (I2.env0.make C us []) r2 hq) fun r s' hq' => ?_))
  cases r with
  | error er => exact (passL (X := X) pins σ _ _ er s' I2 hq')
  | ok fl =>
    cases fl with
    | ret u =>
      obtain ⟨v', H2, os2, bare2, un2, hok2, rv, ev, d', ea, ed, hd1, q2⟩ := hq'
      subst ev
      obtain ⟨h2, g2, d2, t2, os'⟩ := s'
      exact ⟨rv, mk_end (raises_own T.exC T.tyC) I1 hsz kk un2 hok2 os2 bare2 ea ed hd1 q2⟩
    | next => exact False.elim hq'
    | brk => exact False.elim hq'
    | cont => exact False.elim hq'
variable {Q : VK} {v : V} {a : Addr} {oe : Obj} {cls : Value} {d : Option Addr} {pn : List (Addr × Obj)} {fI : Addr}
/-- e.f of the caught one -/
theorem s_xfB (T : ErrCB X.K C fld fI newId tl) (hz : Zc cls d oe) (hf : ∃ vs, oe.data = .fields vs) (h : WE (X.suite a ((a, oe) :: pn)) e σ H fun y H1 => y = .ref a ∧ Cau X.K cls d H1 C fld v ∧ Q v H1) (hb : attributeBase e fld X.env (eval e X.env) = eval e X.env := by with_unfolding_all rfl) :
    WE (X.suite a ((a, oe) :: pn)) (.Attribute e fld pos) σ H Q :=
  (pe_xf T.xf T.no hz hf pe_w hb).w (WE.imp h fun y H1 ⟨e1, ⟨e2, dd, e3, e4⟩, q⟩ => ⟨e1, e2, dd, _, v, e3, e4, by simp [List.lookup], q⟩)
end
end Sv

/-! repr of an empty dict; builtin kinds as arguments inside except clauses. -/
namespace Sv
open PySem PySem.Spec PyProof.Rows L2
section
variable {X : Cx} {N L S G B : List Str} {σ : L2.St} {H : Hp} {Q : VK} {e : Expr} {p pos : Pos} {a : Addr}
theorem c_repr0 (hg : NoG X.A) (hu : X.A.units + 64 < cLine) (h : H a = some (.dK [])) (q : Q (.str "{}") H) : WC X (.builtin "repr") [.ref a] σ H Q := by
  refine ⟨fun pins s us I r => ?_⟩
  obtain ⟨u, rfl, hu1⟩ := vals1 r
  obtain rfl : u = Value.ref a := hu1
  obtain ⟨_, hsm, vs, kv, o, es, ep, ho, hx, hd, hk, hp, _⟩ := dk_of I.hok h
  cases kv
  have he : es.toList = [] := by
    have := hp.length
    exact List.length_eq_zero_iff.mp (by simpa using this)
  have hdp : (PyData.dict []).depth = 1 := by decide +kernel
  have hsh : (PyData.dict []).shown = ("{}" : Str) := by decide +kernel
  have rd : Reads s.heap (.ref a) (.dict []) (a :: [] ++ []) := .dict ho hx.1 hd (by rw [he]; exact .nil) (by rw [he]; exact .nil)
  exact repr_of_reads' rd (by decide +kernel) (fun _ z => by
    have z' : sysModules = a := by simpa using z
    rw [← z'] at hsm
    exact absurd hsm (by decide)) hg (by rw [hdp]; omega) (fun b o' z => z) (fun h' u' tk hk' => ⟨.str "{}", H, I.kept (t' := tk) hk', ⟨_, by rw [hsh]⟩, q⟩) (by rw [hsh, sizeLine_eq]; decide)
/-- repr shows v as the text z -/
def Shows (K : PySem.W.Frag) (H : Hp) (v : V) (z : Str) : Prop := (∃ d, Dp K H v d ∧ d.showable = true ∧ d.hasDict = false ∧ d.depth < 60 ∧ d.shown.length ≤ sizeLine ∧ z = d.shown) ∨ ∃ a, v = .ref a ∧ H a = some (.dK []) ∧ z = "{}"
theorem c_reprS {v : V} {z : Str} (hg : NoG X.A) (hu : X.A.units + 64 < cLine) (h : Shows X.K H v z) (q : Q (.str z) H) : WC X (.builtin "repr") [v] σ H Q := by
  rcases h with ⟨d, h1, h2, h3, h4, h5, rfl⟩ | ⟨a, rfl, h1, rfl⟩
  · exact c_reprD hg hu h1 h2 h3 h4 h5 q
  · exact c_repr0 hg hu h1 q
theorem x_reprS (c : Nm X N L S G B) (m : Mb "repr" B) (hg : NoG X.A) (hu : X.A.units + 64 < cLine) (h : WE X e σ H fun v H1 => ∃ z, Shows X.K H1 v z ∧ Q (.str z) H1)
    (hs : starEach [e] X.env = (false, eval e X.env) :: starEach [] X.env := by with_unfolding_all rfl) (hpl : (backTo pos (starEach [] X.env)).any (·.1) = false := by with_unfolding_all rfl) : WE X (.Call (.Name "repr" p) [e] [] pos) σ H Q :=
  w_callB c m bt_repr (wa_cons (WE.imp h fun v H1 ⟨z, h1, q⟩ => wa_nil (c_reprS hg hu h1 q)) hs) hs hpl
theorem s_reprS (c : NmS X N L S G B) (m : Mb "repr" B) (hg : NoG X.A) (hu : X.A.units + 64 < cLine) (h : WE X e σ H fun v H1 => ∃ z, Shows X.K H1 v z ∧ Q (.str z) H1)
    (hs : starEach [e] X.env = (false, eval e X.env) :: starEach [] X.env := by with_unfolding_all rfl) (hpl : (backTo pos (starEach [] X.env)).any (·.1) = false := by with_unfolding_all rfl) : WE X (.Call (.Name "repr" p) [e] [] pos) σ H Q :=
  s_callB c m bt_repr (wa_cons (WE.imp h fun v H1 ⟨z, h1, q⟩ => wa_nil (c_reprS hg hu h1 q)) hs) hs hpl
/-- a builtin kind by its name, in an except suite -/
theorem s_bty {x : Str} {T : String} (c : NmS X N L S G B) (m : Mb x B) (hv : bootBuiltins x = some (.type T)) (q : Q (.ty T) H) : WE X (.Name x pos) σ H Q := by
  obtain ⟨a, b, d⟩ := c.bgl x m.mem
  exact ⟨fun pins s I => ld_blt I a (c.blt x m.mem) hv ⟨.ty T, H, I, rfl, q⟩ d b⟩
end
theorem Shows.same {K : PySem.W.Frag} {H H' : Hp} {v : V} {z : Str} (h : Shows K H v z) (e : Same H H') (dp : ∀ (d : PyData) (v : V), Dp K H v d → Dp K H' v d) : Shows K H' v z := by
  rcases h with ⟨d, h1, h2⟩ | ⟨a, h0, h1, h2⟩
  · exact .inl ⟨d, dp d v h1, h2⟩
  · exact .inr ⟨a, h0, e _ _ h1, h2⟩
open He in
def kitXB (x : Str) (t : String) (b : Bool) (K : PySem.W.Frag) : Bool := decide (PySem.W.kitOne K (.ref (ga K x)) (.type t) = some b)
theorem bt_ovf : bootBuiltins "OverflowError" = some (.type "OverflowError") := by decide +kernel
theorem bt_rt : bootBuiltins "RuntimeError" = some (.type "RuntimeError") := by decide +kernel
theorem typ_ov : typeOf (.type "OverflowError") = pure (.type "type") := by kernel_rfl
theorem typ_rt : typeOf (.type "RuntimeError") = pure (.type "type") := by kernel_rfl
theorem fc_ov {K : PySem.W.Frag} : PySem.W.findCls K (.type "OverflowError") (.type "type") "__init__" = some (.val (.builtin "OverflowError.__init__")) := by kernel_rfl
theorem fc_rt {K : PySem.W.Frag} : PySem.W.findCls K (.type "RuntimeError") (.type "type") "__init__" = some (.val (.builtin "RuntimeError.__init__")) := by kernel_rfl
end Sv

/-! Comprehensions with two `for`s; d.setdefault; isinstance of a tuple of kinds. -/
namespace Sv
open PySem PySem.Spec PyProof.Rows L2
def WIb (X : Cx) (scope : Scope) (tg iter : Expr) (σ : L2.St) (H : Hp) (R : It → Hp → Prop) : Prop := ∀ X', Blk X scope X' → WI X' tg iter σ H R
/-- two walks, the inner one over what stood ahead of both -/
theorem lc2_of {X : Cx} {tg elt iter tg1 iter1 : Expr} {ifs ifs1 : List Expr} {scope : Scope} {vs vs1 : List Nat} {σ : L2.St} {H : Hp} {Q : VK} (P : Nat → List V → Prop)
    (h : WI X tg iter σ H fun J H1 => ∃ n it, Wlk J n it H1 ∧ P 0 [] ∧
      (∀ i acc H', i < n → P i acc → Same H1 H' → WGb X scope tg (it i) (wipe σ vs) H' fun σ2 H2 => H2 = H' ∧ wipe σ2 vs = wipe σ vs ∧ WTb X scope ifs σ2 H2 fun k H3 => Same H2 H3 ∧
        if k = true then WIb X scope tg1 iter1 σ2 H3 fun J1 H4 => Same H3 H4 ∧ ∃ n1 it1, Wlk J1 n1 it1 H1 ∧ ∃ P1 : Nat → List V → Prop, P1 0 acc ∧ (∀ acc', P1 n1 acc' → P (i + 1) acc') ∧
          ∀ j acc' H', j < n1 → P1 j acc' → Same H1 H' → WGb X scope tg1 (it1 j) (wipe σ2 vs1) H' fun σ3 H5 => H5 = H' ∧ wipe σ3 vs1 = wipe σ2 vs1 ∧ WTb X scope ifs1 σ3 H5 fun k H6 => Same H5 H6 ∧
            if k = true then WEb X scope elt σ3 H6 fun y H7 => Same H6 H7 ∧ acc'.length < sizeLine ∧ P1 (j + 1) (acc' ++ [y]) else P1 (j + 1) acc'
        else P (i + 1) acc) ∧
      ∀ acc D H', P n acc → H1 D = none → Same H1 H' → H' D = some (.lst acc) → Q (.ref D) H') :
    tLc2 (WI X tg iter) (WGb X scope tg) (WTb X scope ifs) (WIb X scope tg1 iter1) (WGb X scope tg1) (WTb X scope ifs1) (WEb X scope elt) vs vs1 σ H Q := by
  refine ⟨fun pins s I => thn (h.run pins s I) fun v s1 h1 => thn h1 fun itv s2 ⟨it, fp, tn, J, H1, e, I', T, t0, hf, n, itm, W, p0, hst, hd⟩ => ⟨it, fp, tn, J, H1, e, I', T, t0, hf, fun D hD => ?_⟩⟩
  refine ⟨fun i m H' => m = n - i ∧ i ≤ n ∧ ∃ acc, P i acc ∧ Same H1 H' ∧ H' D = some (.lst acc), ⟨n, by simp, Nat.zero_le _, [], p0, same_new hD, upd_same⟩, ?_⟩
  rintro i m H' ⟨rfl, hi, acc, hp, hsm, hDa⟩
  by_cases hlt : i < n
  · refine .inr ⟨W.go i H' hlt hsm, fun H2 => i + 1 ≤ n ∧ ∃ acc, P (i + 1) acc ∧ Same H1 H2 ∧ H2 D = some (.lst acc), fun H2 q => ⟨n - (i + 1), by omega, rfl, q⟩, fun x H3 y => ?_⟩
    obtain ⟨rfl, rfl⟩ := W.yld i H' x H3 hlt hsm y
    intro X' bX
    refine ⟨fun pins' s' u I' r => thn ((hst i acc H3 hlt hp hsm X' bX).run pins' s' u I' r) fun _ s2 ⟨σ2, H2, I2, e2, ew, q2⟩ => ⟨σ2, H2, I2, ew, fun X2 b2 => ?_⟩⟩
    subst e2
    refine ⟨fun pins3 s3 I3 => thn ((q2 X2 b2).run pins3 s3 I3) fun k s4 ⟨H4, I4, e4, q4⟩ => ⟨H4, I4, ?_⟩⟩
    cases k with
    | false =>
      rw [if_neg (by decide)] at q4 ⊢
      exact ⟨hlt, acc, q4, hsm.trans e4, e4 _ _ hDa⟩
    | true =>
      rw [if_pos rfl] at q4 ⊢
      intro X5 b5
      refine ⟨fun pins s I => thn ((q4 X5 b5).run pins s I) fun v s1 h1 => thn h1 fun itv s2 ⟨it', fp', tn', J1, H5, e', I'', T', t0', hf', e5, n1, it1, W1, P1, p1, hout, hst1⟩ => ⟨it', fp', tn', J1, H5, e', I'', T', t0', hf', ?_⟩⟩
      have s5 : Same H1 H5 := hsm.trans (e4.trans e5)
      have d5 : H5 D = some (.lst acc) := e5 _ _ (e4 _ _ hDa)
      refine ⟨fun j m H' => m = n1 - j ∧ j ≤ n1 ∧ ∃ acc', P1 j acc' ∧ Same H1 H' ∧ H' D = some (.lst acc'), ⟨n1, by simp, Nat.zero_le _, acc, p1, s5, d5⟩, ?_⟩
      rintro j m H6 ⟨rfl, hj, acc', hp1, hsm1, hDa1⟩
      by_cases hlt1 : j < n1
      · refine .inr ⟨W1.go j H6 hlt1 hsm1, fun H2 => j + 1 ≤ n1 ∧ ∃ acc, P1 (j + 1) acc ∧ Same H1 H2 ∧ H2 D = some (.lst acc), fun H2 q => ⟨n1 - (j + 1), by omega, rfl, q⟩, fun x H7 y => ?_⟩
        obtain ⟨rfl, rfl⟩ := W1.yld j H6 x H7 hlt1 hsm1 y
        intro X6 b6
        refine ⟨fun pins' s' u I' r => thn ((hst1 j acc' H7 hlt1 hp1 hsm1 X6 b6).run pins' s' u I' r) fun _ s2 ⟨σ3, H8, I2, e8, ew, q2⟩ => ⟨σ3, H8, I2, ew, fun X7 b7 => ?_⟩⟩
        subst e8
        refine ⟨fun pins3 s3 I3 => thn ((q2 X7 b7).run pins3 s3 I3) fun k s4 ⟨H9, I4, e9, q4⟩ => ⟨H9, I4, ?_⟩⟩
        cases k with
        | false =>
          rw [if_neg (by decide)] at q4 ⊢
          exact ⟨hlt1, acc', q4, hsm1.trans e9, e9 _ _ hDa1⟩
        | true =>
          rw [if_pos rfl] at q4 ⊢
          intro X8 b8
          refine WE.imp (q4 X8 b8) fun y H10 ⟨e10, hz, q5⟩ => ⟨acc', e10 _ _ (e9 _ _ hDa1), hz, hlt1, acc' ++ [y], q5, same_mut (hsm1.trans (e9.trans e10)) hD, upd_same⟩
      · have e : j = n1 := by omega
        subst e
        exact .inl ⟨W1.stop _ _ (Nat.le_refl _) hsm1, hlt, acc', hout acc' hp1, hsm1, hDa1⟩
  · have e : i = n := by omega
    subst e
    exact .inl ⟨W.stop _ _ (Nat.le_refl _) hsm, hd acc D H' hp hD hsm hDa⟩
section
variable {X : Cx} {N L S G B : List Str} {tg elt iter tg1 iter1 : Expr} {ifs ifs1 : List Expr} {scope : Scope} {own : List (Str × Nat)} {σ : L2.St} {H : Hp} {pos : Pos}
theorem w_lc2 {Q : VK} (c : Nm X N L S G B) (ok : blkC N X.env.scope scope own = true) (vs1 : List Nat) (hv : ∀ i ∈ vs1, i ∈ own.map (·.2)) (P : Nat → List V → Prop)
    (h : WI X tg iter σ H fun J H1 => ∃ n it, Wlk J n it H1 ∧ P 0 [] ∧
      (∀ i acc H', i < n → P i acc → Same H1 H' → WGb X scope tg (it i) (wipe σ (own.map (·.2))) H' fun σ2 H2 => H2 = H' ∧ wipe σ2 (own.map (·.2)) = wipe σ (own.map (·.2)) ∧ WTb X scope ifs σ2 H2 fun k H3 => Same H2 H3 ∧
        if k = true then WIb X scope tg1 iter1 σ2 H3 fun J1 H4 => Same H3 H4 ∧ ∃ n1 it1, Wlk J1 n1 it1 H1 ∧ ∃ P1 : Nat → List V → Prop, P1 0 acc ∧ (∀ acc', P1 n1 acc' → P (i + 1) acc') ∧
          ∀ j acc' H', j < n1 → P1 j acc' → Same H1 H' → WGb X scope tg1 (it1 j) (wipe σ2 vs1) H' fun σ3 H5 => H5 = H' ∧ wipe σ3 vs1 = wipe σ2 vs1 ∧ WTb X scope ifs1 σ3 H5 fun k H6 => Same H5 H6 ∧
            if k = true then WEb X scope elt σ3 H6 fun y H7 => Same H6 H7 ∧ acc'.length < sizeLine ∧ P1 (j + 1) (acc' ++ [y]) else P1 (j + 1) acc'
        else P (i + 1) acc) ∧
      ∀ acc D H', P n acc → H1 D = none → Same H1 H' → H' D = some (.lst acc) → Q (.ref D) H')
    (hs : ∀ x, foldedSetIterable iter X.env x = pure x := by intro _; with_unfolding_all rfl) (hs1 : ∀ env x, foldedSetIterable iter1 env x = pure x := by intro _ _; with_unfolding_all rfl) : WE X (.ListComp elt [⟨tg, iter, ifs, 0⟩, ⟨tg1, iter1, ifs1, 0⟩] scope pos) σ H Q := by
  have hN : X.N.Nodup := by rw [c.names]; exact c.nd
  have ok' : BlkOk X.N X.env.scope scope own := by rw [c.names]; exact blkOk_by ok
  have p := pe_lc2 (X := X) (pos := pos) (vs1 := vs1) (g := WGb X scope tg) (tt := WTb X scope ifs) (wi1 := WIb X scope tg1 iter1) (g1 := WGb X scope tg1) (tt1 := WTb X scope ifs1) (te := WEb X scope elt) c.calm hN (pi_w (X := X) (tg := tg) (iter := iter)) ok' hv
    (fun s H C cl fp => ⟨fun pins s1 σ1 H1 v u R I r q => (q _ ⟨s, H, C, cl, fp, rfl⟩).run pins s1 u I r⟩)
    (fun s H C cl fp => ⟨fun pins s1 σ1 H1 R I q => (q _ ⟨s, H, C, cl, fp, rfl⟩).run pins s1 I⟩)
    (fun s H C cl fp => ⟨fun pins s1 σ1 H1 R I q => (q _ ⟨s, H, C, cl, fp, rfl⟩).run pins s1 I⟩)
    (fun s H C cl fp => ⟨fun pins s1 σ1 H1 v u R I r q => (q _ ⟨s, H, C, cl, fp, rfl⟩).run pins s1 u I r⟩)
    (fun s H C cl fp => ⟨fun pins s1 σ1 H1 R I q => (q _ ⟨s, H, C, cl, fp, rfl⟩).run pins s1 I⟩)
    (fun s H C cl fp => ⟨fun pins s1 σ1 H1 R I q => (q _ ⟨s, H, C, cl, fp, rfl⟩).run pins s1 I⟩) hs hs1
  exact p.w (lc2_of P h)
theorem ws_setLc2 {y : Str} {py spos : Pos} {D0 : Ends} (c : Nm X N L S G B) (ok : blkC N X.env.scope scope own = true) (vs1 : List Nat) (hv : ∀ i ∈ vs1, i ∈ own.map (·.2)) (P : Nat → List V → Prop)
    (h : WI X tg iter σ H fun J H1 => ∃ n it, Wlk J n it H1 ∧ P 0 [] ∧
      (∀ i acc H', i < n → P i acc → Same H1 H' → WGb X scope tg (it i) (wipe σ (own.map (·.2))) H' fun σ2 H2 => H2 = H' ∧ wipe σ2 (own.map (·.2)) = wipe σ (own.map (·.2)) ∧ WTb X scope ifs σ2 H2 fun k H3 => Same H2 H3 ∧
        if k = true then WIb X scope tg1 iter1 σ2 H3 fun J1 H4 => Same H3 H4 ∧ ∃ n1 it1, Wlk J1 n1 it1 H1 ∧ ∃ P1 : Nat → List V → Prop, P1 0 acc ∧ (∀ acc', P1 n1 acc' → P (i + 1) acc') ∧
          ∀ j acc' H', j < n1 → P1 j acc' → Same H1 H' → WGb X scope tg1 (it1 j) (wipe σ2 vs1) H' fun σ3 H5 => H5 = H' ∧ wipe σ3 vs1 = wipe σ2 vs1 ∧ WTb X scope ifs1 σ3 H5 fun k H6 => Same H5 H6 ∧
            if k = true then WEb X scope elt σ3 H6 fun y H7 => Same H6 H7 ∧ acc'.length < sizeLine ∧ P1 (j + 1) (acc' ++ [y]) else P1 (j + 1) acc'
        else P (i + 1) acc) ∧
      ∀ acc D H', P n acc → H1 D = none → Same H1 H' → H' D = some (.lst acc) → ∃ σ', Put N σ y (.ref D) σ' ∧ D0.nx σ' H')
    (hyl : X.env.scope.names.lookup y = some .local) (hsw : swapsWith (.ListComp elt [⟨tg, iter, ifs, 0⟩, ⟨tg1, iter1, ifs1, 0⟩] scope pos) (some (.Name y py)) spos.line X.env = pure true)
    (hs : ∀ x, foldedSetIterable iter X.env x = pure x := by intro _; with_unfolding_all rfl) (hs1 : ∀ env x, foldedSetIterable iter1 env x = pure x := by intro _ _; with_unfolding_all rfl) (iy : ∃ i : Nat, N[i]? = some y) : WS X (.Assign [.Name y py] (.ListComp elt [⟨tg, iter, ifs, 0⟩, ⟨tg1, iter1, ifs1, 0⟩] scope pos) spos) D0 σ H := by
  have hN : X.N.Nodup := by rw [c.names]; exact c.nd
  have ok' : BlkOk X.N X.env.scope scope own := by rw [c.names]; exact blkOk_by ok
  obtain ⟨i, hi⟩ := iy
  have hi' : X.N[i]? = some y := by rw [c.names]; exact hi
  have p := ps_setLc2 (X := X) (pos := pos) (spos := spos) (py := py) (vs1 := vs1) (g := WGb X scope tg) (tt := WTb X scope ifs) (wi1 := WIb X scope tg1 iter1) (g1 := WGb X scope tg1) (tt1 := WTb X scope ifs1) (te := WEb X scope elt) c.calm hN hi' hyl hsw (pi_w (X := X) (tg := tg) (iter := iter)) ok' hv
    (fun s H C cl fp => ⟨fun pins s1 σ1 H1 v u R I r q => (q _ ⟨s, H, C, cl, fp, rfl⟩).run pins s1 u I r⟩)
    (fun s H C cl fp => ⟨fun pins s1 σ1 H1 R I q => (q _ ⟨s, H, C, cl, fp, rfl⟩).run pins s1 I⟩)
    (fun s H C cl fp => ⟨fun pins s1 σ1 H1 R I q => (q _ ⟨s, H, C, cl, fp, rfl⟩).run pins s1 I⟩)
    (fun s H C cl fp => ⟨fun pins s1 σ1 H1 v u R I r q => (q _ ⟨s, H, C, cl, fp, rfl⟩).run pins s1 u I r⟩)
    (fun s H C cl fp => ⟨fun pins s1 σ1 H1 R I q => (q _ ⟨s, H, C, cl, fp, rfl⟩).run pins s1 I⟩)
    (fun s H C cl fp => ⟨fun pins s1 σ1 H1 R I q => (q _ ⟨s, H, C, cl, fp, rfl⟩).run pins s1 I⟩) hs hs1
  refine p.w ?_
  refine lc2_of (Q := fun v H1 => D0.nx (σ.set i (some v)) H1) P ⟨fun pins s I => thn (h.run pins s I) fun v s1 h1 => thn h1 fun itv s2 ⟨it, fp, tn, J, H1, e, I', T, t0, hf, n, itm, W, p0, hst, hd⟩ => ⟨it, fp, tn, J, H1, e, I', T, t0, hf, n, itm, W, p0, hst, fun acc D H' h2 h3 h4 h5 => ?_⟩⟩
  obtain ⟨σ', hp, q⟩ := hd acc D H' h2 h3 h4 h5
  obtain ⟨i', hi2, rfl⟩ := hp.ix
  have ei : i' = i := nodup_ix hN (by rw [c.names]; exact hi2) hi'
  rw [← ei]
  exact q
end
section
variable {X : Cx} {N L S G B : List Str} {o e f : Expr} {σ : L2.St} {H : Hp} {Q : VK} {p p2 p3 apos pos : Pos}
/-- d.setdefault(k, v) of a dict of numbers or texts -/
theorem w_setd (h : WE X o σ H fun x H1 => ∃ a, x = .ref a ∧ IsD H1 a ∧ WE X e σ H1 fun y H2 => WE X f σ H2 fun z H3 => ∃ (kvs : List (Key × V)) (k : Key), H3 a = some (.dK kvs) ∧ y = kV k ∧ kvs.length < sizeLine ∧
      (∀ v, valV kvs k = some v → Q v H3) ∧ (valV kvs k = none → Q z (upd H3 a (.dK (putK kvs k z)))))
    (h1 : attributeBase o "setdefault" X.env (eval o X.env) = eval o X.env := by with_unfolding_all rfl)
    (h2 : ((backTo pos (starEach [e, f] X.env)).all (fun x => !x.1) && (backToKw pos (keywordEach [] X.env)).all (fun x => x.1.isSome) && decide (([e, f] : List Expr).length + ([] : List Keyword).length + (if ([] : List Keyword).isEmpty then 0 else 1) < 30)) = true := by with_unfolding_all rfl)
    (h3 : (apos.endLine == pos.line) = true := by with_unfolding_all rfl) (h4 : backTo pos (starEach [e, f] X.env) = [(false, eval e X.env), (false, eval f X.env)] := by with_unfolding_all rfl) :
    WE X (.Call (.Attribute o "setdefault" apos) [e, f] [] pos) σ H Q := (pe_dsetd pe_w pe_w pe_w ⟨h1, h2, h3, h4⟩).w h
/-- {} -/
theorem w_dnew (h : ∀ p H', H p = none → Same H H' → H' p = some (.dK []) → Q (.ref p) H') : WE X (.Dict [] [] pos) σ H Q := pe_dnewK.w (newly' (Q := fun p H' => Q (.ref p) H') h)
/-- d[k] -/
theorem w_dget (hu : X.A.units + 1 < cLine) (h : WE X o σ H fun x H1 => WE X e σ H1 fun y H2 => ∃ a v, x = .ref a ∧ DGet H2 a y (some v) ∧ Q v H2) (hs : NoSl e := by with_unfolding_all exact fun _ _ => rfl) : WE X (.Subscript o e pos) σ H Q := (pe_dget hu pe_w pe_w hs).w h
/-- a walk over a list or a tuple that a local name holds -/
theorem wi_seqN {x : Str} {tg : Expr} {a : Addr} {xs : List V} {R : It → Hp → Prop} (c : Nm X N L S G B) (h : At N σ x (.ref a)) (m : Mb x L) (hl : H a = some (.lst xs) ∨ H a = some (.tup xs)) (q : ∀ J, (∀ H0, H0 a = H a → Wlk J xs.length (fun i => xs.getD i .non) H0) → R J H) : WI X tg (.Name x pos) σ H R := by
  rcases hl with hl | hl
  · exact wi_list (w_name c h m ⟨a, xs, rfl, .inl (.inl hl), q _ fun H0 e => wlk_list (.inl (.inl (e.trans hl)))⟩)
  · exact wi_tup (w_name c h m ⟨a, xs, rfl, .inl (.inl hl), q _ fun H0 e => wlk_tup (.inl (.inl (e.trans hl)))⟩)
/-- isinstance(x, (T1, T2)) of built-in kinds -/
theorem c_isiT {x : V} {tp : Addr} {cs : List V} {t : Value} {us : List Value} {b : Bool} (h1 : H tp = some (.tup cs)) (h2 : Paired ClsV cs us) (ht : TyX X.K H x t) (hk : PySem.W.kitAny X.K t us = some b) (q : Q (.bl b) H) : WC X (.builtin "isinstance") [x, .ref tp] σ H Q := call_isiT.w ⟨x, tp, cs, t, us, b, rfl, h1, h2, ht, hk, q⟩
/-- tuple(xs) of a list -/
theorem x_tupleL (c : Nm X N L S G B) (m : Mb "tuple" B) (h : WE X e σ H fun x H1 => ∃ a xs, x = .ref a ∧ SqL X.K H1 a xs ∧ ∀ p H', H1 p = none → Same H1 H' → H' p = some (.tup xs) → Q (.ref p) H') (hs : starEach [e] X.env = (false, eval e X.env) :: starEach [] X.env := by with_unfolding_all rfl) (hpl : (backTo pos (starEach [] X.env)).any (·.1) = false := by with_unfolding_all rfl) : WE X (.Call (.Name "tuple" p) [e] [] pos) σ H Q :=
  w_callTy c m bt_tuple (wa_cons (WE.imp h fun x H1 ⟨a, xs, ex, l, q⟩ => wa_nil (by rw [ex]; exact call_tuple_of.w ⟨a, xs, rfl, .inl ⟨l, newly' (Q := fun p H' => Q (.ref p) H') q⟩⟩)) hs) hs hpl
theorem c_minL {a : Addr} {ns : List Int} (hc : X.calm = true) (h : SqL X.K H a (ns.map V.int)) (hne : 0 < ns.length) (q : ∀ m, m ∈ ns → (∀ x ∈ ns, m ≤ x) → Q (.int m) H) : WC X (.builtin "min") [.ref a] σ H Q := by
  refine ⟨fun pins s us I rv => ?_⟩
  obtain ⟨its, rw', hl, hzl⟩ := I.list h
  rw [Vals.ref1 rv]
  have hi := rw'.ints
  obtain ⟨xs, e⟩ := hi.allInts.items
  have hns : xs.toList.map (·.1) = ns := by
    have := hi.numsOf
    rw [← this, ← nums_intItems, ← e]
  have hsz : xs.size = ns.length := by rw [← hns]; simp
  refine min_intList (I.ok.hd hc) (by rw [← e]; exact hl.isList) (by omega) fun v h' tk hv hk => ?_
  obtain ⟨t, rfl⟩ := intItems_at hv
  obtain ⟨h1, h2⟩ := argBest_lt (numAt xs) (xs.size - 1)
  refine ⟨.int _, H, I.kept (t' := tk) hk, ⟨t, rfl⟩, q _ ?_ fun a ha => ?_⟩
  · rw [numAt_eq, hns, List.getD_eq_getElem?_getD, List.getElem?_eq_getElem (by omega)]
    exact List.getElem_mem _
  · obtain ⟨j, hj, rfl⟩ := List.getElem_of_mem ha
    have := h2 j (by omega)
    rw [numAt_eq xs j, hns, List.getD_eq_getElem?_getD, List.getElem?_eq_getElem hj] at this
    exact this
end
end Sv

namespace Sv
open PySem PySem.Spec PyProof.Rows L2
/-- sys.modules is known as a dict -/
def SysD (K : PySem.W.Frag) : Prop := ∃ o, K.lookup PySem.sysModules = some o ∧ o.cls = .type "dict"
def sysB (K : PySem.W.Frag) : Bool := match K.lookup PySem.sysModules with
  | some o => decide (o.cls = .type "dict")
  | none => false
theorem sysB_ok {K : PySem.W.Frag} (h : sysB K = true) : SysD K := by
  unfold sysB at h
  split at h
  · rename_i o e
    exact ⟨o, e, of_decide_eq_true h⟩
  · cases h
/-- t + u of tuples -/
theorem b_catT {X : Cx} {σ : L2.St} {H : Hp} {Q : VK} {l b : Addr} {xs zs : List V} (h1 : H l = some (.tup xs)) (h2 : H b = some (.tup zs)) (hz : xs.length + zs.length ≤ sizeLine) (hne : zs ≠ []) (q : ∀ p H', Same H H' → H' p = some (.tup (xs ++ zs)) → Q (.ref p) H') :
    WB X (binaryOp .Add) (.ref l) (.ref b) σ H Q := op_catA.w ⟨_, _, _, _, rfl, rfl, .inl (.inl h1), .inl (.inl h2), hz, fun e => q b H (Same.refl _) (by rw [e, List.nil_append]; exact h2), fun _ e => absurd e hne, fun _ _ p hp => q p _ (same_new hp) upd_same⟩
end Sv

/-! Plain mathematics of observations: all texts of a length, those that agree, those that fit. -/
namespace Sv
open PySem PySem.Spec PyProof.Rows L2
/-- all texts of n signs, + ahead of - -/
def txs : Nat → List (List Bool)
  | 0 => [[]]
  | n + 1 => (txs n).flatMap fun t => [t ++ [true], t ++ [false]]
def opt : Option Bool → List Bool
  | some b => [b]
  | none => [true, false]
/-- .. with some signs known -/
def agr (sg : Nat → Option Bool) : Nat → List (List Bool)
  | 0 => [[]]
  | n + 1 => (agr sg n).flatMap fun t => (opt (sg n)).map fun b => t ++ [b]
def fitsAt (sg : Nat → Option Bool) (t : List Bool) (i : Nat) : Bool := match sg i with
  | some b => t.getD i false == b
  | none => true
def agree (fs : List (Nat × Bool)) (t : List Bool) : Bool := fs.all fun f => kp t f.1 == f.2
def primB (t : List Bool) : Bool := (List.range t.length).all fun d => d == 0 || t.length % d != 0 || !((List.range t.length).all fun i => kp t (i + d) == kp t i)
def okB (t : List Bool) : Bool := t.contains true && primB t
def allp (L : Nat) : List (List Bool) := (List.range L).flatMap fun i => (txs (i + 1)).filter okB
def fits (fs : List (Nat × Bool)) (L : Nat) : List (List Bool) := (List.range L).flatMap fun i => ((txs (i + 1)).filter (agree fs)).filter okB
theorem txs_len {n : Nat} : ∀ {t : List Bool}, t ∈ txs n → t.length = n := by
  induction n with
  | zero => intro t h; rw [txs] at h; rw [List.mem_singleton.mp h]; rfl
  | succ n ih =>
    intro t h
    rw [txs, List.mem_flatMap] at h
    obtain ⟨u, hu, h⟩ := h
    have := ih hu
    simp only [List.mem_cons, List.not_mem_nil, or_false] at h
    rcases h with rfl | rfl <;> simp [this]
theorem txs_size (n : Nat) : (txs n).length = 2 ^ n := by
  induction n with
  | zero => rfl
  | succ n ih =>
    rw [txs, List.length_flatMap]
    have : (List.map (fun t => ([t ++ [true], t ++ [false]] : List (List Bool)).length) (txs n)) = (txs n).map fun _ => 2 := rfl
    rw [this, List.map_const', List.sum_replicate_nat, ih, Nat.pow_succ]
theorem mem_txs {n : Nat} : ∀ {t : List Bool}, t.length = n → t ∈ txs n := by
  induction n with
  | zero => intro t h; rw [txs, List.length_eq_zero_iff.mp h]; exact List.mem_singleton.mpr rfl
  | succ n ih =>
    intro t h
    have hne : t ≠ [] := fun z => by rw [z] at h; cases h
    rw [txs, List.mem_flatMap]
    refine ⟨t.dropLast, ih (by rw [List.length_dropLast]; omega), ?_⟩
    have e := List.dropLast_concat_getLast hne
    simp only [List.mem_cons, List.not_mem_nil, or_false]
    cases hb : t.getLast hne with
    | true => rw [hb] at e; exact .inl e.symm
    | false => rw [hb] at e; exact .inr e.symm
theorem flatMap_filter' {α β : Type} (p : α → Bool) (f : α → List β) : ∀ l : List α, (l.filter p).flatMap f = l.flatMap fun t => if p t = true then f t else []
  | [] => rfl
  | a :: l => by
    rw [List.filter_cons, List.flatMap_cons]
    by_cases h : p a = true
    · rw [if_pos h, if_pos h, List.flatMap_cons, flatMap_filter' p f l]
    · rw [if_neg h, if_neg h, flatMap_filter' p f l, List.nil_append]
theorem filter_flatMap' {α β : Type} (p : β → Bool) (f : α → List β) : ∀ l : List α, (l.flatMap f).filter p = l.flatMap fun t => (f t).filter p
  | [] => rfl
  | a :: l => by rw [List.flatMap_cons, List.flatMap_cons, List.filter_append, filter_flatMap' p f l]
theorem flatMap_congr' {α β : Type} {f g : α → List β} : ∀ {l : List α}, (∀ x ∈ l, f x = g x) → l.flatMap f = l.flatMap g
  | [], _ => rfl
  | a :: l, h => by rw [List.flatMap_cons, List.flatMap_cons, h a List.mem_cons_self, flatMap_congr' fun x hx => h x (List.mem_cons_of_mem _ hx)]
theorem agr_eq (sg : Nat → Option Bool) (n : Nat) : agr sg n = (txs n).filter fun t => (List.range n).all (fitsAt sg t) := by
  induction n with
  | zero => rfl
  | succ n ih =>
    rw [agr, txs, ih, flatMap_filter', filter_flatMap']
    refine flatMap_congr' fun t ht => ?_
    have hl := txs_len ht
    have key : ∀ b, ((List.range (n + 1)).all (fitsAt sg (t ++ [b]))) = ((List.range n).all (fitsAt sg t) && (match sg n with | some c => b == c | none => true)) := fun b => by
      rw [List.range_succ, List.all_append]
      congr 1
      · rw [Bool.eq_iff_iff, List.all_eq_true, List.all_eq_true]
        have : ∀ i, i ∈ List.range n → fitsAt sg (t ++ [b]) i = fitsAt sg t i := fun i hi => by
          unfold fitsAt
          rw [List.getD_eq_getElem?_getD, List.getElem?_append_left (by rw [hl]; exact List.mem_range.mp hi), ← List.getD_eq_getElem?_getD]
        exact ⟨fun h i hi => by rw [← this i hi]; exact h i hi, fun h i hi => by rw [this i hi]; exact h i hi⟩
      · rw [List.all_cons, List.all_nil, Bool.and_true]
        unfold fitsAt
        cases sg n with
        | none => rfl
        | some c => rw [List.getD_eq_getElem?_getD, ← hl]; simp
    cases hs : sg n with
    | none =>
      simp only [opt, List.map_cons, List.map_nil, List.filter_cons, List.filter_nil, key, hs, Bool.and_true]
      by_cases h : (List.range n).all (fitsAt sg t) = true
      · rw [if_pos h, if_pos h, if_pos h]
      · rw [if_neg h, if_neg h, if_neg h]
    | some c =>
      simp only [opt, List.map_cons, List.map_nil, List.filter_cons, List.filter_nil, key, hs]
      by_cases h : (List.range n).all (fitsAt sg t) = true
      · rw [if_pos h, h]; cases c <;> simp
      · rw [if_neg h, Bool.eq_false_iff.mpr h]; simp
/-- signs that say the facts modulo p -/
structure Signs (fs : List (Nat × Bool)) (p : Nat) (sg : Nat → Option Bool) : Prop where
  all : ∀ f ∈ fs, sg (f.1 % p) = some f.2
  only : ∀ r b, sg r = some b → ∃ n, (n, b) ∈ fs ∧ n % p = r
theorem fitsAt_agree {fs : List (Nat × Bool)} {p : Nat} {sg : Nat → Option Bool} (h : Signs fs p sg) (h0 : 0 < p) {t : List Bool} (ht : t.length = p) : ((List.range p).all (fitsAt sg t)) = agree fs t := by
  unfold agree
  rw [Bool.eq_iff_iff, List.all_eq_true, List.all_eq_true]
  constructor
  · intro k f hf
    have := k (f.1 % p) (List.mem_range.mpr (Nat.mod_lt _ h0))
    unfold fitsAt at this
    rw [h.all f hf] at this
    unfold kp
    rw [ht]
    exact this
  · intro k r hr
    unfold fitsAt
    cases hs : sg r with
    | none => rfl
    | some b =>
      obtain ⟨n, hn, e⟩ := h.only r b hs
      have := k (n, b) hn
      unfold kp at this
      rw [ht] at this
      show (t.getD r false == b) = true
      rw [← e]
      exact this
theorem agr_signs {fs : List (Nat × Bool)} {p : Nat} {sg : Nat → Option Bool} (h : Signs fs p sg) (h0 : 0 < p) : agr sg p = (txs p).filter (agree fs) := by
  rw [agr_eq]
  exact List.filter_congr fun t ht => fitsAt_agree h h0 (txs_len ht)
/-- facts that contradict each other modulo p -/
def Contra (fs : List (Nat × Bool)) (p : Nat) : Prop := ∃ a ∈ fs, ∃ b ∈ fs, a.1 % p = b.1 % p ∧ a.2 ≠ b.2
theorem contra_none {fs : List (Nat × Bool)} {p : Nat} (h : Contra fs p) : (txs p).filter (agree fs) = [] := by
  rw [List.filter_eq_nil_iff]
  intro t ht k
  obtain ⟨a, ha, b, hb, e, ne⟩ := h
  unfold agree at k
  rw [List.all_eq_true] at k
  have k1 := eq_of_beq (k a ha)
  have k2 := eq_of_beq (k b hb)
  refine ne ?_
  rw [← k1, ← k2]
  unfold kp
  rw [txs_len ht, e]
theorem primB_iff {t : List Bool} (h0 : 0 < t.length) : primB t = true ↔ Prim t := by
  have per : ∀ d, ((List.range t.length).all fun i => kp t (i + d) == kp t i) = true ↔ Per (kp t) d := fun d => by
    rw [List.all_eq_true]
    constructor
    · intro k i
      have hi := Nat.mod_lt i h0
      have := eq_of_beq (k (i % t.length) (List.mem_range.mpr hi))
      rw [(kp_per t).mod] at this
      rw [← this, ← (kp_per t).mod (i + d), ← (kp_per t).mod (i % t.length + d)]
      congr 1
      rw [Nat.mod_add_mod]
    · intro k i _
      exact beq_iff_eq.mpr (k i)
  unfold primB Prim
  rw [List.all_eq_true]
  constructor
  · intro k d d0 dl dd hp
    have := k d (List.mem_range.mpr dl)
    simp only [Bool.or_eq_true, beq_iff_eq, bne_iff_ne, Bool.not_eq_true'] at this
    rcases this with (z | z) | z
    · omega
    · exact z (Nat.mod_eq_zero_of_dvd dd)
    · have := (per d).mpr hp
      rw [z] at this
      cases this
  · intro k d hd
    have dl := List.mem_range.mp hd
    by_cases d0 : d = 0
    · simp [d0]
    by_cases dd : t.length % d = 0
    · have := k d (by omega) dl (Nat.dvd_of_mod_eq_zero dd)
      have : ((List.range t.length).all fun i => kp t (i + d) == kp t i) = false := by
        rw [Bool.eq_false_iff]
        exact fun z => this ((per d).mp z)
      rw [this]
      simp
    · simp [dd]
theorem okB_iff {t : List Bool} (h0 : 0 < t.length) (h1 : t.length ≤ 10000) : okB t = true ↔ Good t := by
  unfold okB
  rw [Bool.and_eq_true, List.contains_iff_mem, primB_iff h0]
  exact ⟨fun ⟨a, b⟩ => ⟨⟨h0, h1, a⟩, b⟩, fun g => ⟨g.plus, g.prim⟩⟩
theorem fits_allp (fs : List (Nat × Bool)) (L : Nat) : fits fs L = (allp L).filter (agree fs) := by
  unfold fits allp
  rw [filter_flatMap']
  refine flatMap_congr' fun i _ => ?_
  rw [List.filter_filter, List.filter_filter]
  exact List.filter_congr fun t _ => Bool.and_comm _ _
theorem allp_succ (L : Nat) : allp (L + 1) = allp L ++ (txs (L + 1)).filter okB := by
  unfold allp
  rw [List.range_succ, List.flatMap_append]
  simp
theorem fits_succ (fs : List (Nat × Bool)) (L : Nat) : fits fs (L + 1) = fits fs L ++ ((txs (L + 1)).filter (agree fs)).filter okB := by
  unfold fits
  rw [List.range_succ, List.flatMap_append]
  simp
theorem allp_len (L : Nat) : (allp L).length + 2 ≤ 2 ^ (L + 1) := by
  induction L with
  | zero => decide
  | succ L ih =>
    rw [allp_succ, List.length_append]
    have := List.length_filter_le okB (txs (L + 1))
    rw [txs_size] at this
    rw [Nat.pow_succ]
    omega
theorem fits_len (fs : List (Nat × Bool)) (L : Nat) : (fits fs L).length + 2 ≤ 2 ^ (L + 1) := by
  rw [fits_allp]
  have := List.length_filter_le (agree fs) (allp L)
  have := allp_len L
  omega
theorem mem_allp {L : Nat} {t : List Bool} (hL : L ≤ 10000) : t ∈ allp L ↔ Good t ∧ t.length ≤ L := by
  unfold allp
  rw [List.mem_flatMap]
  constructor
  · rintro ⟨i, hi, h⟩
    have hi := List.mem_range.mp hi
    obtain ⟨h1, h2⟩ := List.mem_filter.mp h
    have := txs_len h1
    exact ⟨(okB_iff (by omega) (by omega)).mp h2, by omega⟩
  · rintro ⟨g, hl⟩
    have := g.one
    refine ⟨t.length - 1, List.mem_range.mpr (by omega), List.mem_filter.mpr ⟨mem_txs (by omega), (okB_iff g.one g.most).mpr g⟩⟩
theorem mem_fits {fs : List (Nat × Bool)} {L : Nat} {t : List Bool} (hL : L ≤ 10000) : t ∈ fits fs L ↔ Good t ∧ t.length ≤ L ∧ agree fs t = true := by
  rw [fits_allp, List.mem_filter, mem_allp hL, and_assoc]
theorem pow_le_2048 {L : Nat} (h : L ≤ 10) : 2 ^ (L + 1) ≤ 2048 := Nat.le_trans (Nat.pow_le_pow_right (by decide) (by omega : L + 1 ≤ 11)) (by decide)
theorem txs_1024 {L : Nat} (h : L ≤ 10) : (txs L).length ≤ 1024 := by
  rw [txs_size]
  exact Nat.le_trans (Nat.pow_le_pow_right (by decide) h) (by decide)
end Sv

/-! A static method called through an instance; == and != of an instance with values of other kinds. -/
namespace Sv
open PySem PySem.Spec PyProof.Rows L2
structure SMi (K : PySem.W.Frag) (C : Addr) (m : Str) (p : Addr) : Prop where
  ha : PySem.W.findIn K (.ref C) m = some (some (.ref p))
  ht : PySem.W.typeIn K (.ref p) = some (.type "staticmethod")
  hg : PySem.W.specialIn K (.ref p) "__get__" = some (some (.builtin "staticmethod.__get__"))
  hts : PySem.W.takesIn K (.ref p) = some false
  hc : PySem.W.copiedNames.contains m = false
structure SMI (P : Program) (w : World) (K : PySem.W.Frag) (mg : Str → Option Value) (base : Heap) (C : Addr) (m : Str) (k : Nat) (sp : Sp) : Prop where
  ex : ∃ (p g : Addr) (rest : List Value), Cls K C ∧ SMi K C m p ∧ PySem.W.recIn K p "staticmethod" = some (.ref g :: rest) ∧ PySem.W.keepIn K (.ref g) = true ∧ FnR P w K mg base (L2.CX P w) k g sp
open He in
def smiB (x m : Str) (K : PySem.W.Frag) : Bool := decide (PySem.W.findIn K (.ref (ga K x)) m = some (some (.ref (ma K (ga K x) m)))) && (decide (PySem.W.typeIn K (.ref (ma K (ga K x) m)) = some (.type "staticmethod")) &&
  (decide (PySem.W.specialIn K (.ref (ma K (ga K x) m)) "__get__" = some (some (.builtin "staticmethod.__get__"))) && (decide (PySem.W.takesIn K (.ref (ma K (ga K x) m)) = some false) && !(PySem.W.copiedNames.contains m))))
open He in
theorem smiB_ok {x m : Str} {K : PySem.W.Frag} (h : smiB x m K = true) : SMi K (ga K x) m (ma K (ga K x) m) := by
  obtain ⟨h1, h⟩ := ba h
  obtain ⟨h2, h⟩ := ba h
  obtain ⟨h3, h⟩ := ba h
  obtain ⟨h4, h5⟩ := ba h
  exact ⟨of_decide_eq_true h1, of_decide_eq_true h2, of_decide_eq_true h3, of_decide_eq_true h4, by simpa using h5⟩
section
variable {X : Cx} {N L S G B : List Str} {m : Str} {e o : Expr} {es : List Expr} {σ : L2.St} {H : Hp} {Q : VK} {pos apos : Pos}
/-- o.m(e, ..), m a static method, o an instance -/
theorem w_smethI {C : Addr} {k j : Nat} {sp : Sp} {E : XK} {pl : Sem Bool} (F : SMI X.prog X.w X.K X.mg X.base C m k sp) (hr : Room j X.A) (hj : k ≤ j) (hx : Passes (L2.CX X.prog X.w) X E)
    (h : WE X o σ H fun x H1 => ∃ a dx fs, x = .ref a ∧ H1 a = some (.ins C dx fs) ∧ fs.lookup m = none ∧ WA X (e :: es) σ H1 fun vs H2 => sp vs H2 Q E)
    (hst : starEach (e :: es) X.env = (false, eval e X.env) :: starEach es X.env := by with_unfolding_all rfl) (hpl : (backTo pos (starEach es X.env)).any (·.1) = false := by with_unfolding_all rfl)
    (ht : eval (.Call (.Attribute o m apos) (e :: es) [] pos) X.env = (do
      let ov ← eval o X.env
      standAt apos.atName
      let (f, first) ← holding [ov] (getMethod ov m pl)
      callWith pos f first (backTo pos (starEach (e :: es) X.env)) (backToKw pos (keywordEach [] X.env))) := by with_unfolding_all rfl) : WE X (.Call (.Attribute o m apos) (e :: es) [] pos) σ H Q := by
  obtain ⟨p, g, rest, c, si, rc, kp, F⟩ := F.ex
  refine ⟨fun pins s I => PySem.W.methodCall_KW (pl := pl) (thn (h.run pins s I) fun u s1 ⟨x, H1, I1, rx, a, dx, fs, ex, ea, l, q⟩ => ?_) ht⟩
  subst ex
  obtain rfl : u = Value.ref a := rx
  obtain ⟨mA, O, r, _⟩ := ins_get I1.hok ea
  obtain ⟨od, J, hl⟩ := O.look
  have hno : mA m = none := RelO.none_of (by rw [← l]; exact r m)
  have pg := PySem.W.plainGet_of (c.get m)
  refine PySem.W.method_usual (r := some (.ref p)) I1.kIn J pg.1 pg.2 si.ha (by simp only [Option.all_some, si.ht, Option.any_some]; decide +kernel) ?_
  refine PySem.W.get_bind I1.kIn J pg.1 (PySem.W.findObj_fn c.hd si.ha si.hg si.hts si.hc (by rw [hl, hno])) pg.2 ?_
  refine wpAny_call (PySem.W.sm_get (s := { s1 with toks := s1.toks + 1 }) I1.kIn rc (PySem.W.handed_on rfl ?_))
  have I2 := I1.tok (s1.toks + 1)
  refine PySem.W.callWith_K (first := []) (h₀ := X.base) I.ok.mod.kin kp (thn (q.run pos pins _ I2) fun us s2 ⟨vs, H2, I3, rv, q2⟩ => ⟨I3.kIn, ?_⟩) hst hpl
  exact wpAny_call (run_fnR (us := us) (vs := vs) F (hr.mono hj) hx I3 rv q2)
end
/-! ### the other side is of another kind -/
/-- its kind, as the model tells it -/
inductive Kd (H : Hp) : V → String → Prop where
  | non : Kd H .non "NoneType"
  | int (i : Int) : Kd H (.int i) "int"
  | str (x : Str) : Kd H (.str x) "str"
  | lst {a : Addr} {xs : List V} (e : H a = some (.lst xs)) : Kd H (.ref a) "list"
theorem Kd.looks {X : Cx} {pins : List (Addr × Obj)} {σ : L2.St} {H : Hp} {s : Shared} {y : V} {T : String} {u : Value} (I : Inv X pins σ H s) (k : Kd H y T) (r : RelV y u) : PySem.W.Looks (model X.prog X.w) s.heap (typeOf u) (.type T) := by
  cases k with
  | non => obtain rfl : u = Value.none := r; exact fun A Q E s k q => wpAny_of_eq (show typeOf .none = pure (.type "NoneType") from rfl) q
  | int i => obtain ⟨t, rfl⟩ := r; exact fun A Q E s k q => wpAny_of_eq (show typeOf (.int i t) = pure (.type "int") from rfl) q
  | str x => obtain ⟨t, rfl⟩ := r; exact fun A Q E s k q => wpAny_of_eq (show typeOf (.str x t) = pure (.type "str") from rfl) q
  | @lst a xs e =>
    obtain rfl : u = Value.ref a := r
    obtain ⟨_, its, n, rv, eo⟩ := (show ObjOk X.prog X.w H s.heap a (.lst xs) from I.hok a _ e)
    exact fun A Q E s k q => wpAny_typeOf_ref (k _ _ eo) q
section
variable {X : Cx} {σ : L2.St} {H : Hp} {Q : VK} {a C dx : Addr} {fs : List (Str × V)} {k j : Nat} {sp : Sp} {y : V} {T : String}
theorem b_eqX (F : EqM X.prog X.w X.K X.mg X.base C k sp) (hr : Room j X.A) (hj : k + 1 ≤ j) (ha : H a = some (.ins C dx fs)) (hy : Kd H y T) (hn : PySem.W.subIn X.K (.type T) (.ref C) = some false) (q : sp [.ref a, y] H (fun v H' => ∃ r, v = .bl r ∧ Q (.bl r) H') E0) :
    WB X (compareOp .Eq) (.ref a) y σ H Q := by
  obtain ⟨f, c, F⟩ := F.ex
  refine ⟨fun pins s v u I rx ry => ?_⟩
  cases rx
  obtain ⟨mA, O, _⟩ := ins_get I.hok ha
  obtain ⟨od, J, _⟩ := O.look
  obtain ⟨m, hF⟩ := I.fr
  refine PySem.W.cmp_K (op := .Eq) (tb := .type T) hr.units0 hF I.ok.mod.kin J (hy.looks I ry) (by simp [PySem.W.notFirst, hn]) c.eq c.fn ?_
  refine wpAny_mono (wpAny_call (run_fnR (us := [.ref a, u]) (vs := [.ref a, y]) F (hr.mono (by omega)) passL I (.cons rfl (.cons ry .nil)) q)) (fun w s' z => ?_) fun _ _ x => x
  obtain ⟨z', H', I', rz, r, ez, qz⟩ := z
  subst ez
  cases rz
  exact ⟨.bl r, H', I', rfl, qz⟩
end
section
open PySem.Builtin
variable {P : Program} {wo : World} {A : Around} {E : Value → Shared → Prop} {h : Heap} {g : Array GenState} {dr : Drawn} {tk : Nat} {os : OsState} {C x f : Addr} {b : Value}
/-- object.__ne__ of an instance whose class has its own __eq__, any other side -/
theorem neOwn (X : h.OwnEqNoNe x C f "object" [.type "object"]) (hu : A.units < cLine) {Q : Fin → Shared → Prop}
    (hc : wpAny (model P wo) A (call (.ref f) [.ref x, b]) (fun v s' => ∃ r, v = .bool r ∧ Q (.done (.ret (.bool (!r)))) s') E ⟨h, g, dr, tk, os⟩) :
    wpAny (model P wo) A (Builtin.«object.__ne__» ⟨[.ref x, b], []⟩) Q E ⟨h, g, dr, tk, os⟩ := by
  have oe := X.ownEq
  have hc2 := wpAny_callSpecialIfBound?_own oe (args := [b]) (Q := fun o s' => ∃ r, o = some (.bool r) ∧ Q (.done (.ret (.bool (!r)))) s') (wpAny_mono hc (fun r s' ⟨z, e, q⟩ => ⟨z, by rw [e], q⟩) fun _ _ e => e)
  delta Builtin.«object.__ne__»
  repeat (first
    | (with_reducible refine wpAny_cRoomFor hu ?_)
    | (refine wpAny_bind (m := callSpecialIfBound? (.ref x) (Str.ofString "__eq__") [b]) (wpAny_mono hc2 (fun r s' z => ?_) fun _ _ e => e); obtain ⟨z, rfl, hq⟩ := z)
    | exact hq
    | exact wpAny_pure hq
    | exact wpAny_truthy_bool hq
    | (refine wpAny_bind (m := truthy (.bool _)) (wpAny_truthy_bool ?_))
    | wp_step)
theorem tryNe (X : h.OwnEqNoNe x C f "object" [.type "object"]) (hu : A.units + 1 < cLine) {Q : Option Value → Shared → Prop}
    (hc : wpAny (model P wo) A.in1 (call (.ref f) [.ref x, b]) (fun v s' => ∃ r, v = .bool r ∧ Q (some (.bool (!r))) s') E ⟨h, g, dr, tk, os⟩) :
    wpAny (model P wo) A (tryCompare (.ref x) "__ne__" b) Q E ⟨h, g, dr, tk, os⟩ := by
  have FB := PySem.F.cmp_object
  obtain ⟨o, _, nm, q, N, bs, hdct, sn, sub, ab, col, dd, k0, k1, k2, k3, k5, newId, mN, _, hx, hcl, hC, hn, _, _, _, _, _, hne⟩ := id X
  delta tryCompare
  refine wpAny_bind (wpAny_callSpecialIfBound?_inst hx hcl hC hn hne FB.mro FB.ne (wpAny_call ?_))
  refine codeAny_call_builtin FB.ne.plain F.cmpEntry_ne ?_
  refine wpAny_check_slot_inst F.cmpKind_ne F.cmpSplit_ne (F.cmpArgs_ne _ _) FB.hasObject hx hcl hC ?_
  refine neOwn (A := A.in1) X hu (wpAny_mono hc (fun v s' z => ?_) fun _ _ e => e)
  obtain ⟨r, rfl, hq⟩ := z
  first | exact ⟨r, rfl, wpAny_pure hq⟩ | exact ⟨r, rfl, wpAny_pure (wpAny_pure hq)⟩ | exact ⟨r, rfl, hq⟩
end
section
variable {X : Cx} {σ : L2.St} {H : Hp} {Q : VK} {a C dx : Addr} {fs : List (Str × V)} {k j : Nat} {sp : Sp} {y : V} {T : String}
theorem b_neX (F : EqM X.prog X.w X.K X.mg X.base C k sp) (hr : Room j X.A) (hj : k + 1 ≤ j) (ha : H a = some (.ins C dx fs)) (hy : Kd H y T) (hn : PySem.W.subIn X.K (.type T) (.ref C) = some false) (q : sp [.ref a, y] H (fun v H' => ∃ r, v = .bl r ∧ Q (.bl (!r)) H') E0) :
    WB X (compareOp .NotEq) (.ref a) y σ H Q := by
  obtain ⟨f, c, F⟩ := F.ex
  refine ⟨fun pins s v u I rx ry => ?_⟩
  cases rx
  obtain ⟨mA, O, _⟩ := ins_get I.hok ha
  obtain ⟨od, J, _⟩ := O.look
  obtain ⟨nm, qn, N, bs, hdct, sn, sub, ab, col, dd, k0, k1, k2, k3, k5, newId, oN, es, ep, of, lC, lN, dN, hk, he, hne, lf, cf⟩ := c.ne
  have X1 := I.kIn
  have own : s.heap.OwnEqNoNe a C f "object" [.type "object"] := ⟨_, of, nm, qn, N, bs, hdct, sn, sub, ab, col, dd, k0, k1, k2, k3, k5, newId, fun z => nsFind es z, some (.builtin "object.__eq__"), O.obj, rfl, X1 _ _ lC, ⟨oN, es, ep, X1 _ _ lN, dN, hk, fun _ => rfl⟩, he, X1 _ _ lf, cf, PySem.F.cmp_object.mro, PySem.F.cmp_object.eq.lookup, hne⟩
  have hr1 : Room k X.A.in1 := (hr.mono hj).in1
  have hu : X.A.units + 1 < cLine := by have := hr.un; omega
  have one : wpAny (model X.prog X.w) X.A (tryCompare (.ref a) "__ne__" u) (fun r s' => ∃ v, r = some v ∧ ∃ z H', Inv X pins σ H' s' ∧ RelV z v ∧ Q z H') (fun _ _ => False) s := by
    refine tryNe own hu ?_
    refine wpAny_mono (wpAny_call (codeAny_mono (F X.A.in1 X.stack s H [.ref a, u] [.ref a, y] _ E0 hr1 I.env0.in1 (.cons rfl (.cons ry .nil)) q) fun r s' hq => ?_)) (fun v s' z => z) fun _ _ x => x
    cases r with
    | error er => exact False.elim (passL (X := X.nox) pins σ H s er s' (I.wish _) hq)
    | ok fl =>
      cases fl with
      | ret u =>
        obtain ⟨v, H', I3, rv, r, ev, q3⟩ := I.after hq
        subst ev
        cases rv
        exact ⟨r, rfl, _, rfl, .bl (!r), H', I3, rfl, q3⟩
      | next => exact False.elim hq
      | brk => exact False.elim hq
      | cont => exact False.elim hq
  delta compareOp
  dsimp only
  delta richCompare
  simp only [oneThing_ref]
  refine wpAny_holding (wpAny_bind (wpAny_cRoomFor (by omega) ?_))
  rw [cmpInfo_NotEq]
  dsimp only
  refine wpAny_bind (J.type.here (wpAny_bind ((hy.looks I ry).here ?_)))
  rw [if_pos (show (Value.ref C != Value.type T) = true by simp)]
  refine wpAny_bind ((PySem.W.looks_subIn X1 hn).here ?_)
  simp only [if_false, Bool.false_eq_true]
  refine wpAny_bind (wpAny_mono one (fun r s' z => ?_) fun _ _ e => False.elim e)
  obtain ⟨v, rfl, hq⟩ := z
  exact wpAny_pure hq
end
open He in
def subB (T : String) (x : Str) (K : PySem.W.Frag) : Bool := decide (PySem.W.subIn K (.type T) (.ref (ga K x)) = some false)
end Sv

/-! super().m(..) in the defs of a class: the statements at the running code -/
namespace Sv
open PySem PySem.Spec PyProof.Rows L2

/-! ### at the running code -/
structure WEat (X : Cx) (c : Code) (e : Expr) (σ : L2.St) (H : Hp) (Q : VK) : Prop where
  run : ∀ (pins : List (Addr × Obj)) (s : Shared), Inv X pins σ H s → _root_.PySem.wpAt (model X.prog X.w) X.A c (eval e X.env) (EP X pins σ Q) X.xe s
structure WAat (X : Cx) (c : Code) (es : List Expr) (σ : L2.St) (H : Hp) (Q : List V → Hp → Prop) : Prop where
  run : ∀ (pos : Pos) (pins : List (Addr × Obj)) (s : Shared), Inv X pins σ H s → _root_.PySem.wpAt (model X.prog X.w) X.A c (spliced (backTo pos (starEach es X.env))) (AP X pins σ Q) X.xe s
structure WSat (X : Cx) (c : Code) (st : Stmt) (D : Ends) (σ : L2.St) (H : Hp) : Prop where
  run : ∀ (pins : List (Addr × Obj)) (s : Shared), Inv X pins σ H s → _root_.PySem.wpAt (model X.prog X.w) X.A c (exec st X.env) (SP X pins D) X.xe s
structure WLat (X : Cx) (c : Code) (sts : List Stmt) (D : Ends) (σ : L2.St) (H : Hp) : Prop where
  run : ∀ (pins : List (Addr × Obj)) (s : Shared), Inv X pins σ H s → _root_.PySem.wpAt (model X.prog X.w) X.A c (execs sts X.env) (SP X pins D) X.xe s
section
variable {X : Cx} {c : Code} {e : Expr} {es : List Expr} {st : Stmt} {sts : List Stmt} {D : Ends} {σ : L2.St} {H : Hp} {Q : VK} {pos : Pos}
theorem wla_of (h : WL X sts D σ H) : WLat X c sts D σ H := ⟨fun pins s I => _root_.PySem.wpAt_of_wpAny (h.run pins s I)⟩
theorem wsa_of (h : WS X st D σ H) : WSat X c st D σ H := ⟨fun pins s I => _root_.PySem.wpAt_of_wpAny (h.run pins s I)⟩
theorem wea_of (h : WE X e σ H Q) : WEat X c e σ H Q := ⟨fun pins s I => _root_.PySem.wpAt_of_wpAny (h.run pins s I)⟩
theorem wla_cons (h : WSat X c st { D with nx := fun σ' H' => WLat X c sts D σ' H' } σ H) : WLat X c (st :: sts) D σ H :=
  ⟨fun pins s I => ks_wpAt_execs_cons (ks_wpAt_mono (h.run pins s I) (fun f s1 h1 => by
    cases f with
    | next =>
      obtain ⟨σ', H', I1, q⟩ := h1
      exact q.run pins s1 I1
    | ret v => exact h1
    | brk => exact h1
    | cont => exact h1) fun _ _ z => z)⟩
theorem wsa_expr (h : WEat X c e σ H fun _ H1 => D.nx σ H1) (hi : interactive X.env = false := by with_unfolding_all rfl) (hs : swapsWith e none pos.line X.env = pure false := by with_unfolding_all rfl) : WSat X c (.Expr e pos) D σ H :=
  ⟨fun pins s I => ks_wpAt_Expr_any (ks_wpAt_mono (h.run pins s I) (fun v s1 ⟨x, H1, I1, r, q⟩ => ⟨σ, H1, I1, q⟩) fun _ _ z => z) hi hs⟩
theorem wsa_ret (h : WEat X c e σ H D.rt) : WSat X c (.Return (some e) pos) D σ H :=
  ⟨fun pins s I => ks_wpAt_Return_some (ks_wpAt_mono (h.run pins s I) (fun v s1 ⟨x, H1, I1, r, q⟩ => ⟨x, σ, H1, I1, r, q⟩) fun _ _ z => z)⟩
variable {R : List V → Hp → Prop}
theorem waa_of (h : WA X es σ H R) : WAat X c es σ H R := ⟨fun pos pins s I => _root_.PySem.wpAt_of_wpAny (h.run pos pins s I)⟩
theorem waa_cons (h : WEat X c e σ H fun x H1 => WAat X c es σ H1 fun xs H2 => R (x :: xs) H2) (hs : starEach (e :: es) X.env = (false, eval e X.env) :: starEach es X.env := by with_unfolding_all rfl) : WAat X c (e :: es) σ H R := by
  refine ⟨fun pos pins s I => ?_⟩
  rw [hs]
  show _root_.PySem.wpAt _ _ _ (spliced ((false, eval e X.env) :: backTo pos (starEach es X.env))) _ _ s
  rw [spliced]
  refine _root_.PySem.wpAt_bind (ks_wpAt_mono (h.run pins s I) (fun u s1 ⟨x, H1, I1, r1, q1⟩ => ?_) fun _ _ z => z)
  simp only [Bool.false_eq_true, if_false]
  refine _root_.PySem.wpAt_bind (_root_.PySem.wpAt_of_wpAny (wpAny_pure ?_))
  refine _root_.PySem.wpAt_bind (ks_wpAt_holding (ks_wpAt_mono (q1.run pos pins s1 I1) (fun us s2 ⟨xs, H2, I2, r2, q2⟩ => ?_) fun _ _ z => z))
  exact _root_.PySem.wpAt_of_wpAny (wpAny_pure ⟨x :: xs, H2, I2, .cons r1 r2, q2⟩)
theorem waa_star {p} (h : WEat X c e σ H fun x H1 => ∃ a xs, x = .ref a ∧ (SqT X.K H1 a xs ∨ SqL X.K H1 a xs) ∧ WAat X c es σ H1 fun ys H2 => R (xs ++ ys) H2) (hs : starEach (.Starred e p :: es) X.env = (true, eval e X.env) :: starEach es X.env := by with_unfolding_all rfl) :
    WAat X c (.Starred e p :: es) σ H R := by
  refine ⟨fun pos pins s I => ?_⟩
  rw [hs]
  show _root_.PySem.wpAt _ _ _ (spliced ((true, (do let v ← eval e X.env; standAt pos; pure v)) :: backTo pos (starEach es X.env))) _ _ s
  rw [spliced]
  refine _root_.PySem.wpAt_bind (_root_.PySem.wpAt_bind (ks_wpAt_mono (h.run pins s I) (fun u s1 ⟨x, H1, I1, r1, a, xs, ex, hx, q1⟩ => ?_) fun _ _ z => z))
  refine _root_.PySem.wpAt_bind (_root_.PySem.wpAt_of_wpAny (wpAny_standAt (_root_.PySem.wpAt_of_wpAny (wpAny_pure ?_))))
  subst ex
  obtain rfl : u = Value.ref a := r1
  have S := StX.star_any (E := X.xe) (Q := fun us s' => Inv X pins σ H1 s' ∧ Vals xs us) I1 hx fun us s' I' r => ⟨I', r⟩
  unfold PySem.W.StarOf at S
  simp only [if_true]
  refine _root_.PySem.wpAt_bind (m := notIterableAtAll (Value.ref a)) (_root_.PySem.wpAt_of_wpAny (wpAny_mono S (fun b s2 h2 => ?_) fun _ _ z => z))
  obtain ⟨rfl, h2⟩ := h2
  simp only [Bool.false_eq_true, if_false]
  refine _root_.PySem.wpAt_bind (_root_.PySem.wpAt_of_wpAny (wpAny_mono h2 (fun us s3 ⟨I3, r3⟩ => ?_) fun _ _ z => z))
  refine _root_.PySem.wpAt_bind (ks_wpAt_holding (ks_wpAt_mono (q1.run pos pins s3 I3) (fun ws s4 ⟨ys, H2, I4, r4, q4⟩ => ?_) fun _ _ z => z))
  exact _root_.PySem.wpAt_of_wpAny (wpAny_pure ⟨xs ++ ys, H2, I4, r3.append r4, q4⟩)
theorem wea_tup {k} (h : WAat X c es σ H fun xs H1 => xs.length ≤ sizeLine ∧ ∀ p H2, H1 p = none → Same H1 H2 → H2 p = some (.tup xs) → Q (.ref p) H2) : WEat X c (.Tuple es k pos) σ H Q := by
  refine ⟨fun pins s I => ?_⟩
  rw [arm_eval_Tuple]
  refine _root_.PySem.wpAt_bind (_root_.PySem.wpAt_of_wpAny (wpAny_standAt (_root_.PySem.wpAt_bind (ks_wpAt_mono (h.run pos pins s I) (fun us s1 ⟨xs, H1, I1, r, z, q⟩ => _root_.PySem.wpAt_of_wpAny (wpAny_newTuple ?_ (by rw [← r.length]; exact z))) fun _ _ z => z))))
  have hf : H1 s1.heap.objs.size = none := I1.hok.fresh (Nat.le_refl _)
  refine ⟨.ref s1.heap.objs.size, upd H1 s1.heap.objs.size (.tup xs), I1.laid (t' := s1.toks) (fun b u e => Heap.get?_push_of_some _ e) (Nat.le_refl _) ?_, rfl, newly' (Q := fun p H' => Q (.ref p) H') q _ hf⟩
  exact ⟨z, us, r, ⟨_, Heap.get?_push_size _ rfl, rfl, _, rfl⟩⟩
end

/-! ### what of the text a class must have that super().m is found behind D for an instance of C -/
structure SupF (K : PySem.W.Frag) (C D : Addr) (m : Str) (g : Addr) : Prop where
  isD : (PySem.W.clsIn K D).isSome = true
  sub : PySem.W.mroIn K C (.ref D) = some true
  nx : PySem.W.ks_superIn K C D m = some (some (.ref g))
  ty : PySem.W.typeIn K (.ref g) = some (.type "function")
  fi : PySem.W.fnIn K g = true
  op : PySem.W.nsIn K PySem.cStatics "thirdparty.any" = some none
  nm : (m == ("__class__" : Str)) = false
/-- the running def stands in the class at D, its first parameter is `self` -/
structure SupX (X : Cx) (D : Addr) (me : Str) : Prop where
  ks : X.env.kindOf "super" = some .globalImplicit
  kc : X.env.kindOf "__class__" = some .free
  fn : ∃ (f : Addr) (of : Obj) (fd : FuncData) (ar : Arg), X.env.func = some f ∧ X.K.lookup f = some of ∧ of.data = .func fd ∧ (fd.params.posonlyargs ++ fd.params.args).head? = some ar ∧ ar.arg = me
  code : ∃ (cc : Addr) (oc : Obj) (vs : Array Value) (file : Str) (tf : Tok), X.env.code = .ref cc ∧ X.K.lookup cc = some oc ∧ oc.data = .fields vs ∧ vs[2]? = some (.str file tf) ∧ ((X.prog.main.file : Str) == file) = true
  top : (X.prog.main.scope.names.lookup ("super" : Str)).isSome = false
  cell : ∃ (cc : Addr) (oc : Obj), X.env.cells.lookup ("__class__" : Str) = some cc ∧ X.K.lookup cc = some oc ∧ oc.data = .cell (some (.ref D))
section
variable {X : Cx} {N L S G B : List Str} {pins : List (Addr × Obj)} {σ : L2.St} {H : Hp} {s : Shared} {D C a dx g : Addr} {fs : List (Str × V)} {self m : Str} {p0 p1 : Pos} {body : List Stmt} {whole : Sem Value} {pl : Sem Bool}
/-- super() made, its method bound: a new record of the method, pinned -/
theorem super_bound {Q : Value × List Value → Shared → Prop} {E : Value → Shared → Prop} (c : Nm X N L S G B) (U : SupX X D self) (F : SupF X.K C D m g) (cC : Cls X.K C) (mB : Mb "super" B) (mL : Mb self L) (ha : At N σ self (.ref a)) (ea : H a = some (.ins C dx fs)) (I : Inv X pins σ H s)
    (h : ∀ q s', Inv X ((q, PySem.W.methodObj (.ref g) (.ref a)) :: pins) σ H s' → X.base.get? q = none → Q (.ref q, []) s') :
    _root_.PySem.wpAt (model X.prog X.w) X.A (.func body X.env) (attributeBase (.Call (.Name "super" p0) [] [] p1) m X.env whole) (fun ov s1 => wpAny (model X.prog X.w) X.A (getMethod ov m pl) Q E s1) E s := by
  obtain ⟨f, of, fd, ar, e1, e2, e3, e4, e5⟩ := U.fn
  obtain ⟨cd, oc, vs, file, tf, k1, k2, k3, k4, k5⟩ := U.code
  obtain ⟨cc, oc', j1, j2, j3⟩ := U.cell
  have XK := I.kIn
  obtain ⟨mA, O, _⟩ := ins_get I.hok ea
  obtain ⟨od, J, _⟩ := O.look
  obtain ⟨cdD, hD⟩ := Option.isSome_iff_exists.mp F.isD
  obtain ⟨oD, hD1, hD2⟩ : ∃ oD, s.heap.get? D = some oD ∧ oD.data = .cls cdD := by
    unfold PySem.W.clsIn at hD
    split at hD
    · rename_i c d cd' sl ho
      cases hD
      exact ⟨_, XK _ _ ho, rfl⟩
    · cases hD
  have hmB : X.mg "super" = none := c.blt _ mB.mem
  have hboot : bootBuiltins "super" = some (.type "super") := by decide +kernel
  obtain ⟨mb, h1, h2⟩ := I.mod.blt
  obtain ⟨i, n1, n2⟩ := ha.ix
  obtain ⟨mm, hn, hl⟩ := I.loc
  obtain ⟨vis, _, _⟩ := c.vis self mL.mem
  obtain ⟨u, ru, lk⟩ := hl i self _ (by rw [c.names]; exact n1) n2 vis
  obtain rfl : u = Value.ref a := ru
  refine ks_wpAt_super_base U.ks U.kc F.nm e1 (XK _ _ e2) e3 e4 k1 (XK _ _ k2) k3 k4 k5 U.top ?_
  refine PySem.W.ks_loadName_global I.ok.kind U.ks (Calls.loadGlobal_builtin (by rw [I.ok.glob]; exact I.mod.glob.keeps I.bk) hmB (by rw [I.ok.blt]; exact h1.keeps I.bk) ((h2 "super" (by decide)).trans hboot) ⟨rfl, ?_⟩)
  refine wpAny_loadName_free I.ok.kind U.kc j1 ⟨_, XK _ _ j2, j3⟩ ?_
  rw [e5]
  have go : wpAny (model X.prog X.w) X.A (isType (.ref D)) (fun b s₄ => b = true ∧ wpAny (model X.prog X.w) X.A (call (.type "super") [.ref D, .ref a]) (fun ov s1 => wpAny (model X.prog X.w) X.A (getMethod ov m pl) Q E s1) E s₄) E s := by
    refine ks_wpAny_isType_cls hD1 hD2 ⟨rfl, ?_⟩
    refine ks_wpAny_call_super hD1 hD2 J.at_ J.cls (fun c e => ?_) (PySem.W.looks_mroIn XK F.sub) (fun h' e k => ?_)
    · have z := J.no
      unfold PySem.W.notCls at z
      rw [e] at z
      exact Bool.noConfusion z
    · have I1 : Inv X pins σ H { s with heap := h' } := I.kept (t' := s.toks) k
      have XK1 := I1.kIn
      cases hc : PySem.W.clsIn X.K C with
      | none =>
        have z := F.nx
        unfold PySem.W.ks_superIn at z
        rw [hc] at z
        cases z
      | some cdC =>
        have z := F.nx
        unfold PySem.W.ks_superIn at z
        rw [hc] at z
        obtain ⟨og, hog, hogc⟩ : ∃ og, h'.get? g = some og ∧ og.cls = .type "function" := by
          have ht' : (X.K.lookup g).map (·.cls) = some (.type "function") := F.ty
          cases z : X.K.lookup g with
          | none => rw [z] at ht'; cases ht'
          | some og => rw [z] at ht'; exact ⟨og, XK1 _ _ z, Option.some.inj ht'⟩
        refine ks_wpAny_getMethod_super e (PySem.W.looks_opaque XK1 F.op) (l₀ := cdC.mro) ?_ rfl XK1 z hog hogc (PySem.W.ks_ne XK J hc) F.nm ?_
        · exact fun A Q E s k q => wpAny_bind ((PySem.W.looks_clsIn XK1 hc) A _ E s k (wpAny_pure q))
        · exact h _ _ (ClX.met_new I1) (ClX.base_none I1 (Nat.le_refl _))
  rcases lk with ⟨hk, hm⟩ | ⟨hk, c', hc, hcell⟩
  · exact wpAny_loadName_local I.ok.kind hk hn hm go
  · rcases hk with hk | hk
    · exact wpAny_loadName_cell I.ok.kind hk hc hcell go
    · refine wpAny_loadName_free I.ok.kind hk hc hcell go ?_
      exact (c.vis self mL.mem).2.2
end
section
variable {X : Cx} {N L S G B : List Str} {σ : L2.St} {H : Hp} {Q : VK} {D C a dx g : Addr} {fs : List (Str × V)} {self m : Str} {e : Expr} {es : List Expr} {p0 p1 apos pos : Pos} {body : List Stmt} {k j : Nat} {sp : Sp} {E : XK} {pl : Sem Bool}
/-- super().m(e, ..) -/
theorem wea_super (c : Nm X N L S G B) (U : SupX X D self) (F : SupF X.K C D m g) (cC : Cls X.K C) (G' : FnR X.prog X.w X.K X.mg X.base (L2.CX X.prog X.w) k g sp) (hr : Room j X.A) (hj : k ≤ j) (hx : Passes (L2.CX X.prog X.w) X E) (mB : Mb "super" B) (mL : Mb self L)
    (ha : At N σ self (.ref a)) (ea : H a = some (.ins C dx fs)) (h : WA X (e :: es) σ H fun vs H1 => sp (.ref a :: vs) H1 Q E)
    (hst : starEach (e :: es) X.env = (false, eval e X.env) :: starEach es X.env := by with_unfolding_all rfl) (hpl : (backTo pos (starEach es X.env)).any (·.1) = false := by with_unfolding_all rfl)
    (ht : eval (.Call (.Attribute (.Call (.Name "super" p0) [] [] p1) m apos) (e :: es) [] pos) X.env = (do
      let ov ← attributeBase (.Call (.Name "super" p0) [] [] p1) m X.env (eval (.Call (.Name "super" p0) [] [] p1) X.env)
      standAt apos.atName
      let (f, first) ← holding [ov] (getMethod ov m pl)
      callWith pos f first (backTo pos (starEach (e :: es) X.env)) []) := by with_unfolding_all rfl) : WEat X (.func body X.env) (.Call (.Attribute (.Call (.Name "super" p0) [] [] p1) m apos) (e :: es) [] pos) σ H Q := by
  refine ⟨fun pins s I => ks_wpAt_MethodCall (pl := pl) (super_bound c U F cC mB mL ha ea I fun q s2 I2 hb => ?_) ht⟩
  refine ClX.callwith_cm (C := a) I2 hb F.fi (thn (h.run pos _ s2 I2) fun us s3 ⟨vs, H2, I3, rv, q2⟩ => ⟨⟨ClX.pin_at I3, I3.kIn⟩, ?_⟩) hst hpl
  exact ClX.run_cm (C := a) G' (hr.mono hj) hx I3 rv q2
/-- super().m() -/
theorem wea_super0 (c : Nm X N L S G B) (U : SupX X D self) (F : SupF X.K C D m g) (cC : Cls X.K C) (G' : FnR X.prog X.w X.K X.mg X.base (L2.CX X.prog X.w) k g sp) (hr : Room j X.A) (hj : k ≤ j) (hx : Passes (L2.CX X.prog X.w) X E) (mB : Mb "super" B) (mL : Mb self L)
    (ha : At N σ self (.ref a)) (ea : H a = some (.ins C dx fs)) (h : sp [.ref a] H Q E)
    (ht : eval (.Call (.Attribute (.Call (.Name "super" p0) [] [] p1) m apos) [] [] pos) X.env = (do
      let ov ← attributeBase (.Call (.Name "super" p0) [] [] p1) m X.env (eval (.Call (.Name "super" p0) [] [] p1) X.env)
      standAt apos.atName
      let (f, first) ← holding [ov] (getMethod ov m pl)
      callWith pos f first (backTo pos (starEach [] X.env)) []) := by with_unfolding_all rfl) : WEat X (.func body X.env) (.Call (.Attribute (.Call (.Name "super" p0) [] [] p1) m apos) [] [] pos) σ H Q := by
  refine ⟨fun pins s I => ks_wpAt_MethodCall (pl := pl) (super_bound c U F cC mB mL ha ea I fun q s2 I2 hb => ?_) ht⟩
  exact PySem.W.callWith_M0 (first := []) ⟨ClX.pin_at I2, I2.kIn⟩ F.fi (ClX.run_cm (C := a) (us := []) (vs := []) G' (hr.mono hj) hx I2 .nil h)
end

/-! ### the def -/
/-- a def that says super(), in the class at D -/
structure FunX (P : Program) (K : PySem.W.Frag) (x qual : Str) (params : Arguments) (body : List Stmt) (scope : Scope) (D f : Addr) : Prop where
  ex : ∃ (oc : Value) (od : Option Addr) (kV doc pm : Value) (an : Option Addr) (cda : Addr) (ct : Value) (osl : Array (Option Value)) (cc : Addr) (ocd : Obj) (vs : Array Value) (file : Str) (tf : Tok) (occ : Obj),
    K.lookup f = some ⟨oc, od, .func (PySem.W.ksFn x qual params body scope .none kV doc pm an (.ref cda) ct cc), osl⟩ ∧ PySem.W.codeIn K (.ref cda) qual = true ∧ K.lookup cda = some ocd ∧ ocd.data = .fields vs ∧ vs[2]? = some (.str file tf) ∧
    ((P.main.file : Str) == file) = true ∧ K.lookup cc = some occ ∧ occ.data = .cell (some (.ref D))
  kp : PySem.W.keepIn K (.ref f) = true
/-- the context of its body -/
abbrev xcx (P : Program) (w : World) (K : PySem.W.Frag) (mg : Str → Option Value) (base : Heap) (N : List Str) (x qual : Str) (params : Arguments) (body : List Stmt) (sc : Scope) (f cda cc : Addr) (A : Around) (outer : List Env) (s : Shared) (H : Hp) (E : XK) : Cx :=
  NdefX.ncx (L2.CX P w) P w K mg base N ⟨x, qual, params, body, sc, [("__class__", cc)], cda⟩ f A outer s H E
section
variable {P : Program} {w : World} {K : PySem.W.Frag} {mg : Str → Option Value} {base : Heap} {N ps L G B : List Str} {k : Nat} {x qual : Str} {params : Arguments} {body : List Stmt} {sc : Scope} {f cda cc D : Addr} {sp : Sp}
theorem takes_xcx {A : Around} {outer : List Env} {s : Shared} {H : Hp} {E : XK} : Takes (xcx P w K mg base N x qual params body sc f cda cc A outer s H E) (fun cls d _ H' => E cls d H') := takes_of rfl rfl rfl rfl
theorem owns_xcx {A : Around} {outer : List Env} {s : Shared} {H : Hp} {E : XK} : PassesOwn (model P w) (xcx P w K mg base N x qual params body sc f cda cc A outer s H E).A (xcx P w K mg base N x qual params body sc f cda cc A outer s H E).env (xcx P w K mg base N x qual params body sc f cda cc A outer s H E).xe :=
  passes_of (X := xcx P w K mg base N x qual params body sc f cda cc A outer s H E) rfl
/-- names of such a def: parameters, the class's cell, its own -/
def xscB (N ps L G B : List Str) (sc : Scope) : Bool :=
  NdefX.nscB N ps ["__class__"] sc && (L.all fun x => decide (sc.names.lookup x = some .local) && !(x == ("__debug__" : Str)) && !(x == ("__classdict__" : Str))) && (G.all fun x => gloB sc x && !(x == ("__debug__" : Str)) && decide (x ≠ "__name__")) &&
  (B.all fun x => gloB sc x && !(x == ("__debug__" : Str)) && decide (x ≠ "__name__")) && gloB sc "super"
theorem nm_xcx {A : Around} {outer : List Env} {s : Shared} {H : Hp} {E : XK} (h : xscB N ps L G B sc = true) (hb : ∀ x ∈ B, mg x = none) : Nm (xcx P w K mg base N x qual params body sc f cda cc A outer s H E) N L L G B := by
  unfold xscB at h
  simp only [Bool.and_eq_true, List.all_eq_true, decide_eq_true_eq, Bool.not_eq_true'] at h
  obtain ⟨⟨⟨⟨h0, h8⟩, h9⟩, h10⟩, h11⟩ := h
  have S := NdefX.nscope_by h0
  exact ⟨rfl, S.nd, fun x hx => ⟨.inl (h8 x hx).1.1, (h8 x hx).1.2, (h8 x hx).2⟩, fun x hx => ⟨.inl (h8 x hx).1.1, .inr (h8 x hx).1.1⟩, fun x hx => ⟨gloB_ok (h9 x hx).1.1, (h9 x hx).1.2, (h9 x hx).2⟩, hb, fun x hx => ⟨gloB_ok (h10 x hx).1.1, (h10 x hx).1.2, (h10 x hx).2⟩, rfl⟩
/-- THE RULE for such a def -/
theorem fnr_x {self : Str} (F : FunX P K x qual params body sc D f) (S : xscB N ps L G B sc = true) (htop : (P.main.scope.names.lookup ("super" : Str)).isSome = false) (hself : ((params.posonlyargs ++ params.args).head?.map (·.arg)) = some self)
    (len : ∀ vs H Q E, sp vs H Q E → vs.length = ps.length)
    (hbind : ∀ (kV doc pm : Value) (an : Option Addr) (cdv ct : Value) (cc : Addr) (us : List Value), us.length = ps.length → bindArgs (PySem.W.ksFn x qual params body sc .none kV doc pm an cdv ct cc) ⟨us, []⟩ = pure (ps.zip us))
    (hb : ∀ x ∈ B, mg x = none)
    (hbody : ∀ (cda cc : Addr) (A : Around) (outer : List Env) (s : Shared) (H : Hp) (vs : List V) (Q : VK) (E : XK), Room k (xcx P w K mg base N x qual params body sc f cda cc A outer s H E).A → Nm (xcx P w K mg base N x qual params body sc f cda cc A outer s H E) N L L G B →
      SupX (xcx P w K mg base N x qual params body sc f cda cc A outer s H E) D self → sp vs H Q E →
      WLat (xcx P w K mg base N x qual params body sc f cda cc A outer s H E) (.func body (xcx P w K mg base N x qual params body sc f cda cc A outer s H E).env) body { nx := fun _ H' => Q .non H', rt := Q } (NdefX.startF N vs [none]) H) :
    FnR P w K mg base (L2.CX P w) (k + 1) f sp := by
  intro A outer s H us vs Q E hr e0 r hsp
  obtain ⟨oc, od, kV, doc, pm, an, cda, ct, osl, cc, ocd, cvs, file, tf, occ, lk, hcd, l1, l2, l3, l4, l5, l6⟩ := F.ex
  have S' := S
  unfold xscB at S'
  simp only [Bool.and_eq_true, List.all_eq_true, decide_eq_true_eq, Bool.not_eq_true'] at S'
  obtain ⟨⟨⟨⟨h0, h8⟩, h9⟩, h10⟩, h11⟩ := S'
  have Sc := NdefX.nscope_by h0
  have hl := len _ _ _ _ hsp
  have KX : K.In s.heap := e0.mod.kin.keeps fun b o e => (e0.bs b o e).1
  have KB : K.In base := e0.mod.kin
  have lim : s.heap.NoLimit := e0.mod.nolimit.keeps fun b o e => (e0.bs b o e).1
  refine ks_codeAny_call_defAt hr.depth (KX _ _ lk) rfl lim (PySem.W.codeRec_of KX hcd) rfl (.of_eq (hbind _ _ _ _ _ _ _ us (by rw [← r.length]; exact hl))) Sc.nocell (fun ⟨n, _⟩ hy => Sc.par n (List.of_mem_zip hy).1) (fun h₁ hns kp => ?_) Sc.co Sc.gen Sc.kind
  have C : NdefX.CellsAt [("__class__", cc)] ["__class__"] [none] s.heap H := by
    refine ⟨rfl, fun y c e => ?_, fun y z c e1 e2 => ?_, fun i y e => ?_⟩
    · simp only [List.lookup] at e
      split at e
      · cases e
        exact ⟨(e0.bs _ _ (KB _ _ l5)).2, _, _, KX _ _ l5, l6⟩
      · cases e
    · simp only [List.lookup] at e1 e2
      split at e1
      · rename_i q1
        split at e2
        · rename_i q2
          rw [beq_iff_eq.mp q1, beq_iff_eq.mp q2]
        · cases e2
      · cases e1
    · match i, e with
      | 0, e =>
        cases e
        exact ⟨cc, by simp [List.lookup], fun v z => by simp at z⟩
  have Ix : Inv (xcx P w K mg base N x qual params body sc f cda cc A outer s H E) [] (NdefX.startF N vs [none]) H { s with heap := h₁, toks := s.toks + (ps.zip us).length } := NdefX.inv_startN (fr := ["__class__"]) Sc hr.hd e0 hl r C hns kp
  obtain ⟨ar, har, ear⟩ : ∃ ar, (params.posonlyargs ++ params.args).head? = some ar ∧ ar.arg = self := by
    cases q : (params.posonlyargs ++ params.args).head? with
    | none => rw [q] at hself; cases hself
    | some ar => rw [q] at hself; exact ⟨ar, rfl, Option.some.inj hself⟩
  have U : SupX (xcx P w K mg base N x qual params body sc f cda cc A outer s H E) D self :=
    ⟨gloB_ok h11, Sc.frk _ (by simp), ⟨f, _, _, ar, rfl, lk, rfl, har, ear⟩, ⟨cda, ocd, cvs, file, tf, rfl, l1, l2, l3, l4⟩, htop, ⟨cc, occ, rfl, l5, l6⟩⟩
  refine ks_wpAt_mono ((hbody cda cc A outer s H vs Q E (hr.deeper _) (nm_xcx S hb) U hsp).run [] _ Ix) (fun fl s' hs => ?_) fun e s' hs => hs
  have fin : ∀ {σ' : L2.St} {H' : Hp} {v : V} {u : Value}, Inv (xcx P w K mg base N x qual params body sc f cda cc A outer s H E) [] σ' H' s' → L2.RelV v u → Q v H' → CE outer P w H s Q u s' :=
    fun {σ' H' v u} J rv q => ⟨v, H', J.os, J.bare, J.base, J.hok, rv, q⟩
  cases fl with
  | ret u =>
    obtain ⟨v, σ', H', J, rv, q⟩ := hs
    exact fin J rv q
  | next =>
    obtain ⟨σ', H', J, q⟩ := hs
    exact fin (v := V.non) (u := Value.none) J rfl q
  | brk =>
    obtain ⟨_, _, _, q⟩ := hs
    exact False.elim q
  | cont =>
    obtain ⟨_, _, _, q⟩ := hs
    exact False.elim q
end

/-- a property of the class at C -/
structure PrP (P : Program) (w : World) (K : PySem.W.Frag) (mg : Str → Option Value) (base : Heap) (C : Addr) (m : Str) (sp : Sp) : Prop where
  ex : ∃ p g, PropOf K C m p g ∧ FnR P w K mg base (L2.CX P w) 3 g sp
theorem a_prp {X : Cx} {m : Str} {σ : L2.St} {H : Hp} {Q : VK} {sp : Sp} {j : Nat} {C a dx : Addr} {fs : List (Str × V)} (cC : Cls X.K C) (F : PrP X.prog X.w X.K X.mg X.base C m sp) (hr : Room j X.A) (hj : 4 ≤ j) (ha : H a = some (.ins C dx fs)) (q : sp [.ref a] H Q E0) : WAt X (.ref a) m σ H Q := by
  obtain ⟨p, g, c, F⟩ := F.ex
  exact a_prop (E := E0) cC c F (hr.mono hj) ha q
theorem wla_start {X : Cx} {c : Code} {sts : List Stmt} {D : Ends} {σ σ' : L2.St} {H : Hp} (e : σ = σ') (h : WLat X c sts D σ' H) : WLat X c sts D σ H := e ▸ h
/-! ### facts -/
open He in
/-- a def of the class D: its cell holds D, its code is of the main file, it has no defaults -/
def supB (pf : Str) (D : Str) (a : PySem.W.Frag → Addr) (K : PySem.W.Frag) : Bool := match K.lookup (a K) with
  | some ⟨_, _, .func fd, _⟩ => (match fd.code with
      | .ref cda => (match K.lookup cda with
        | some ⟨_, _, .fields vs, _⟩ => (match vs[2]? with | some (Value.str file _) => pf == file | _ => false)
        | _ => false)
      | _ => false) && ((match fd.closure with
      | [(_, cc)] => (match K.lookup cc with
        | some ⟨_, _, .cell (some (.ref d)), _⟩ => decide (d = ga K D)
        | _ => false)
      | _ => false) && (match fd.defaults with | .none => true | _ => false))
  | _ => false
open He in
theorem funX_ok {P : Program} {K : PySem.W.Frag} {d : DefY} {D : Str} {pf : Str} (hpf : P.main.file = pf) (hcl : d.cells = [("__class__" : Str)]) (e : fnY K (d.at_ K) = d.val ∧ d.ok K = true) (s : supB pf D d.at_ K = true) : FunX P K d.name d.qual d.params d.body d.scope (ga K D) (d.at_ K) := by
  obtain ⟨e, c⟩ := e
  obtain ⟨kp, c2⟩ := ba c
  unfold fnY at e
  unfold supB at s
  cases q : K.lookup (d.at_ K) with
  | none =>
    rw [q] at c2
    cases c2
  | some o =>
    obtain ⟨oc, od, dt, osl⟩ := o
    rw [q] at c2 e s
    cases dt with
    | func fd =>
      obtain ⟨n1, n2, n3, n4, n5, n6, n7, n8, n9, n10, n11, n12, n13, n14, n15⟩ := fd
      have e2 : (some (n1, n2, n3, n4, n5, n6, n7.map (fun p => (p.1, 0)), n15) : FnW) = some (d.name, d.qual, d.params, .stmts d.body, d.scope, mainGlobals, d.cells.map (fun x => (x, 0)), builtinsNs) := e
      rw [hcl] at e2
      simp only [Option.some.injEq, Prod.mk.injEq, List.map_cons, List.map_nil] at e2
      obtain ⟨h1, h2, h3, h4, h5, h6, h7, h8⟩ := e2
      have c3 : (PySem.W.codeIn K n13 d.qual && dflB K n8 (d.dfl.map (Dv.v K))) = true := c2
      obtain ⟨k1, k2⟩ := ba c3
      obtain ⟨s1, s23⟩ := ba s
      obtain ⟨s2, s3⟩ := ba s23
      clear s s23
      dsimp only at s1 s2 s3
      split at s1
      case h_2 => cases s1
      rename_i cda
      split at s1
      case h_2 => cases s1
      rename_i x1 x2 vs x3 qc
      split at s1
      case h_2 => cases s1
      rename_i file tf qv
      split at s2
      case h_2 => cases s2
      rename_i ql nm cc
      split at s2
      case h_2 => cases s2
      rename_i y1 y2 dd y3 qd
      split at s3
      case h_2 => cases s3
      have e4 : dd = ga K D := of_decide_eq_true s2
      subst e4
      have e5 : nm = ("__class__" : Str) := by simpa using h7
      subst h1 h2 h3 h4 h5 h6 h8 e5 hpf
      exact ⟨⟨oc, od, _, _, _, _, cda, _, osl, cc, _, vs, file, tf, _, q, k1, qc, rfl, qv, s1, qd, rfl⟩, kp⟩
    | _ => cases c2
open He in
/-- super().m in a def of the class D, for an instance of C: what stands behind is the def of the class B -/
def supF (C D m B : Str) (K : PySem.W.Frag) : Bool := (PySem.W.clsIn K (ga K D)).isSome && (decide (PySem.W.mroIn K (ga K C) (.ref (ga K D)) = some true) && (decide (PySem.W.ks_superIn K (ga K C) (ga K D) m = some (some (.ref (ma K (ga K B) m)))) &&
  (decide (PySem.W.typeIn K (.ref (ma K (ga K B) m)) = some (.type "function")) && (PySem.W.fnIn K (ma K (ga K B) m) && (decide (PySem.W.nsIn K PySem.cStatics "thirdparty.any" = some none) && !(m == ("__class__" : Str)))))))
open He in
theorem supF_ok {C D m B : Str} {K : PySem.W.Frag} (h : supF C D m B K = true) : SupF K (ga K C) (ga K D) m (ma K (ga K B) m) := by
  obtain ⟨h1, h⟩ := ba h
  obtain ⟨h2, h⟩ := ba h
  obtain ⟨h3, h⟩ := ba h
  obtain ⟨h4, h⟩ := ba h
  obtain ⟨h5, h⟩ := ba h
  obtain ⟨h6, h7⟩ := ba h
  exact ⟨h1, of_decide_eq_true h2, of_decide_eq_true h3, of_decide_eq_true h4, h5, of_decide_eq_true h6, by simpa using h7⟩
open He in
/-- a property of C is that of the class B above it -/
def inhB (C B f : Str) (K : PySem.W.Frag) : Bool := decide (rcA "property" C f K = rcA "property" B f K)
end Sv

namespace Sv
open PySem PySem.Spec PyProof.Rows L2
/-! ### `if` in a generator -/
theorem gws_if {X : Cx} {c : Expr} {a b : List Stmt} {D : GEnds} {ys : List V} {σ : L2.St} {H : Hp} {pos : Pos} (h : WT X c σ H fun t H1 => if t = true then GWL X a D ys σ H1 else GWL X b D ys σ H1) : GWS X (.If c a b pos) D ys σ H := by
  refine ⟨fun A S ip R n s₀ cc fs K J gd lv s g hn k hI => ?_⟩
  obtain ⟨acc, c0, r, I⟩ := hI
  rw [exec_If]
  refine seg_bw (wpAny_standAt ?_)
  refine seg_bw ?_
  rw [g.over]
  refine wpAny_mono (h.run _ s I) (fun t s1 h1 => ?_) fun x s' hx => k.exc n s₀ x s' hx
  obtain ⟨H1, I1, q⟩ := h1
  cases t with
  | true =>
    have q' : GWL X a D ys σ H1 := q
    exact q'.run A S ip R n s₀ cc fs K J gd lv s1 g hn k ⟨acc, c0, r, I1⟩
  | false =>
    have q' : GWL X b D ys σ H1 := q
    exact q'.run A S ip R n s₀ cc fs K J gd lv s1 g hn k ⟨acc, c0, r, I1⟩
/-! ### list(f(..)) of a generator def -/
structure GFt (P : Program) (w : World) (K : PySem.W.Frag) (mg : Str → Option Value) (base : Heap) (x : Str) (k : Nat) (sp : SpG) : Prop where
  ex : ∃ f fd ps, mg x = some (.ref f) ∧ PySem.W.keepIn K (.ref f) = true ∧ GFn P w K mg base k f fd ps sp ∧ Binds K fd ps []
theorem x_listF {X : Cx} {N L S G B : List Str} {e : Expr} {es : List Expr} {x : Str} {k j : Nat} {sp : SpG} {σ : L2.St} {H : Hp} {Q : VK} {p p' pos' pos : Pos} (c : Nm X N L S G B) (mm : Mb "list" B) (mx : Mb x G) (F : GFt X.prog X.w X.K X.mg X.base x k sp) (hr : Room j X.A) (hj : k + 3 ≤ j)
    (h : WA X (e :: es) σ H fun vs H2 => sp vs H2 (fun out H3 => ∀ q, H3 q = none → Q (.ref q) (upd H3 q (.lst out))) E0)
    (hst : starEach (e :: es) X.env = (false, eval e X.env) :: starEach es X.env := by with_unfolding_all rfl) (hpl : (backTo pos' (starEach es X.env)).any (·.1) = false := by with_unfolding_all rfl)
    (he : starEach [.Call (.Name x p') (e :: es) [] pos'] X.env = (false, eval (.Call (.Name x p') (e :: es) [] pos') X.env) :: starEach [] X.env := by with_unfolding_all rfl) :
    WE X (.Call (.Name "list" p) [.Call (.Name x p') (e :: es) [] pos'] [] pos) σ H Q := by
  obtain ⟨f, fd, ps, hm, hk, F, hB⟩ := F.ex
  obtain ⟨ga, gb, gd⟩ := c.glo x mx.mem
  refine (pe_listG (E := E0) (pgen_call (E := E0) F (hr.mono (by omega)) ga hm hk hB .nil pa_w gb hst hpl) passL (fun _ _ _ z => z.elim) (hr.mono hj) (c.bgl _ mm.mem).1 (c.blt _ mm.mem) bt_list (he := he)).w ?_
  refine WA.imp h fun vs H2 q2 => ?_
  rw [List.append_nil]
  exact q2
/-! ### t[::-1] -/
theorem fm_congr {α β : Type} {f g : α → Option β} : ∀ {l : List α}, (∀ x ∈ l, f x = g x) → l.filterMap f = l.filterMap g
  | [], _ => rfl
  | x :: l, h => by
    rw [List.filterMap_cons, List.filterMap_cons, h x List.mem_cons_self, fm_congr fun y hy => h y (List.mem_cons_of_mem _ hy)]
theorem pick_all : ∀ (l : List Value) (n : Nat), l.length = n → (List.range n).filterMap (fun m => l[m]?) = l := by
  intro l
  induction l with
  | nil => intro n h; subst h; rfl
  | cons a l ih =>
    intro n h
    subst h
    rw [List.length_cons, List.range_succ_eq_map, List.filterMap_cons, List.filterMap_map]
    show a :: (List.range l.length).filterMap ((fun m => (a :: l)[m]?) ∘ Nat.succ) = a :: l
    congr 1
    exact (fm_congr fun m _ => rfl).trans (ih l.length rfl)
theorem pick_rev (xs : Array Value) : ((List.range xs.size).filterMap fun (m : Nat) => xs[((xs.size : Int) - 1 + (m : Int) * (-1)).toNat]?).toArray = xs.toList.reverse.toArray := by
  congr 1
  have e1 : (List.range xs.size).filterMap (fun (m : Nat) => xs[((xs.size : Int) - 1 + (m : Int) * (-1)).toNat]?) = (List.range xs.size).filterMap (fun m => xs.toList.reverse[m]?) := by
    refine fm_congr fun m hm => ?_
    have hm := List.mem_range.mp hm
    rw [List.getElem?_reverse (by rw [Array.length_toList]; exact hm), Array.length_toList, Array.getElem?_toList]
    congr 1
    omega
  rw [e1]
  exact pick_all _ _ (by rw [List.length_reverse, Array.length_toList])
section
variable {prog : Program} {w : World} {A : Around} {E : Value → Shared → Prop} {s : Shared}
theorem applied_rev {sl : Addr} {vs : Value} {n : Nat} {Q : Int × Int × Nat → Shared → Prop} (hs : s.heap.IsSliceOf sl .none .none vs) (ps : IsPart vs (some (-1)))
    (h : Q ((n : Int) - 1, -1, n) s) : wpAny (model prog w) A (Builtin.Slice.sliceApplied (.ref sl) (pure (n : Int))) Q E s := by
  obtain ⟨os, hos, hcs, hds⟩ := id hs
  unfold Builtin.Slice.sliceApplied Builtin.Slice.sliceFields
  refine wpAny_bind (wpAny_bind (wpAny_field hos hds (x := .none) rfl (wpAny_bind (wpAny_field hos hds (x := .none) rfl (wpAny_bind (wpAny_field hos hds (x := vs) rfl (wpAny_pure ?_)))))))
  refine wpAny_bind (HT.slicePart_ ps ?_)
  show wpAny _ _ (if ((-1 : Int) == 0) = true then _ else _) _ _ s
  rw [if_neg (by decide)]
  refine wpAny_bind (slicePart_none (wpAny_bind (slicePart_none (wpAny_bind (wpAny_pure ?_)))))
  have e1 : Builtin.Slice.sliceAdjust none none (-1) (n : Int) = ((n : Int) - 1, -1) := by
    unfold Builtin.Slice.sliceAdjust
    rfl
  have e2 : Builtin.Slice.slicePlaces ((n : Int) - 1) (-1) (-1) = n := by
    unfold Builtin.Slice.slicePlaces
    rw [if_neg (by decide)]
    by_cases h0 : n = 0
    · subst h0; rfl
    · rw [if_pos (by omega), show (-(-1) : Int) = 1 from rfl, Int.ediv_one]; omega
  show wpAny _ _ (match Builtin.Slice.sliceAdjust none none (-1) (n : Int) with | (lo, hi) => pure (lo, (-1 : Int), Builtin.Slice.slicePlaces lo hi (-1))) _ _ s
  rw [e1]
  show wpAny _ _ (pure (((n : Int) - 1), (-1 : Int), Builtin.Slice.slicePlaces ((n : Int) - 1) (-1) (-1))) _ _ s
  rw [e2]
  exact wpAny_pure h
theorem getItem_tuple_rev {t sl : Addr} {items : Array Value} {vs : Value} {Q : Value → Shared → Prop} (ht : IsTup s.heap t items) (hs : s.heap.IsSliceOf sl .none .none vs) (ps : IsPart vs (some (-1)))
    (h : Q (.ref s.heap.objs.size) { s with heap := s.heap.push { cls := .type "tuple", data := .seq items.toList.reverse.toArray } })
    (hsz : items.size ≤ sizeLine) : wpAny (model prog w) A (getItem (.ref t) (.ref sl)) Q E s := by
  have htake : sizeOk (.seq items.toList.reverse.toArray) := by
    show (items.toList.reverse.toArray).size ≤ sizeLine
    rw [List.size_toArray, List.length_reverse, Array.length_toList]
    exact hsz
  obtain ⟨os, hos, hcs, hds⟩ := id hs
  have hTs : s.TypeIs (.ref sl) "slice" := ⟨os, hos, hcs⟩
  unfold getItem
  try with_reducible refine wpAny_holding ?_
  first | refine wpAny_bind (wpAny_pure ?_) | skip
  refine wpAny_bind (wpAny_sequenceKey ht.typeIs (by decide) ?_)
  refine wpAny_bind (wpAny_callSpecial?_slot (name := Str.ofString "__getitem__") ht.typeIs PyProof.Rows.slot_tuple_getitem
    (wpAny_call_entry PyProof.Rows.slot_tuple_getitem ht.typeIs entry_tuple_getitem ?_ (args_tuple_getitem _ _)))
  show wpAny _ _ (Builtin.Tuple.tupleItemsOf (.ref t) >>= _) _ _ s
  refine wpAny_bind (tupleItemsOf_ ht ?_)
  refine wpAny_bind (wpAny_typeOf hTs ?_)
  rw [if_pos (by decide)]
  refine wpAny_bind (applied_rev hs ps ?_)
  show wpAny _ _ (if ((items.size : Int) - 1 == 0 && (-1 : Int) == 1 && items.size == items.size) = true then _ else _) _ _ s
  rw [if_neg (by rw [show ((-1 : Int) == 1) = false from rfl, Bool.and_false, Bool.false_and]; decide), pick_rev]
  first
    | exact wpAny_bind (m := Builtin.Tuple.tupleExact _) (wpAny_newObj_type (wpAny_pure ⟨_, rfl, wpAny_pure h⟩) htake)
    | exact wpAny_bind (m := Builtin.Tuple.tupleExact _) (wpAny_newObj_type (wpAny_bind (wpAny_pure (wpAny_pure ⟨_, rfl, wpAny_pure h⟩))) htake)
    | exact wpAny_bind (wpAny_bind (m := Builtin.Tuple.tupleExact _) (wpAny_newObj_type (wpAny_pure (wpAny_pure ⟨_, rfl, wpAny_pure h⟩)) htake))
    | exact wpAny_bind (wpAny_bind (m := Builtin.Tuple.tupleExact _) (wpAny_newObj_type (wpAny_pure ⟨_, rfl, wpAny_pure h⟩) htake))
end
theorem w_revT {X : Cx} {e : Expr} {σ : L2.St} {H : Hp} {Q : VK} {k : Nat} {p1 p2 p3 pos : Pos} (h : WE X e σ H fun x H1 => ∃ a xs, x = .ref a ∧ SqT X.K H1 a xs ∧ ∀ p H', H1 p = none → Same H1 H' → H' p = some (.tup xs.reverse) → Q (.ref p) H') :
    WE X (.Subscript e (.Slice none none (some (.UnaryOp .USub (.Constant (.int 1) k p1) p2)) p3) pos) σ H Q := by
  refine ⟨fun pins s I => ?_⟩
  refine Subscript_ (thn (h.run pins s I) fun v s1 ⟨x, H1, I1, r1, q1⟩ => ?_)
  obtain ⟨a, xs, ex, hx, q⟩ := q1
  subst ex
  cases r1
  have hst : PO X (some (.UnaryOp .USub (.Constant (.int 1) k p1) p2)) (tPart (tUn (rU fun i => .int (-i)) (tC (.int 1)))) := po_some (pe_un un_neg pe_int)
  refine wpAny_Slice (thn (po_none.run pins s1 σ H1 (fun o H2 => o = none ∧ H2 = H1) I1 ⟨rfl, rfl⟩) fun vl s2 ⟨l, H2, I2, pl, el, e2⟩ => ?_)
  subst el e2
  refine thn (po_none.run pins s2 σ H2 (fun o H3 => o = none ∧ H3 = H2) I2 ⟨rfl, rfl⟩) fun vu s3 ⟨u, H3, I3, pu, eu, e3⟩ => ?_
  subst eu e3
  refine thn (hst.run pins s3 σ H3 (fun o H4 => o = some (-1) ∧ H4 = H3) I3 ⟨1, rfl, -1, rfl, rfl, rfl⟩) fun vs s4 ⟨o, H4, I4, ps, eo, e4⟩ => ?_
  subst eo e4
  cases pl
  cases pu
  have I5 : Inv X pins σ H4 { s4 with heap := s4.heap.push { cls := .type "slice", data := .fields #[.none, .none, vs] } } := I4.kept (t' := s4.toks) fun b ob q => Heap.get?_push_of_some _ q
  obtain ⟨its, r, ht, hz⟩ := I5.tuple hx
  have hlen := r.length
  show wpAny (model X.prog X.w) X.A (subscriptTail e (.Slice none none (some (.UnaryOp .USub (.Constant (.int 1) k p1) p2)) p3) (.ref a) (.ref s4.heap.objs.size)) (EP X pins σ Q) X.xe { s4 with heap := s4.heap.push { cls := .type "slice", data := .fields #[.none, .none, vs] } }
  refine tail_any (ops := [.ref a, .ref s4.heap.objs.size]) ht.typeIs PyProof.Rows.slot_tuple_getitem.lookup ?_ (by with_unfolding_all rfl)
  refine getItem_tuple_rev ht (Heap.IsSliceOf.new _ .none .none vs) ps ?_ (by rw [List.size_toArray]; omega)
  have hn := I5.hok.fresh (Nat.le_refl _)
  refine ⟨.ref _, _, I5.laid (t' := s4.toks) (o := .tup xs.reverse) (fun b ob q => Heap.get?_push_of_some _ q) (Nat.le_refl _) ?_, rfl, q _ _ hn (same_new hn) upd_same⟩
  exact ⟨by rw [List.length_reverse]; exact hz, _, r.reverse, _, Heap.get?_push_size _ rfl, rfl, 0, rfl⟩
end Sv

namespace Sv
open PySem PySem.Spec PyProof.Rows L2
/-! ### != of instances of a class that has no __eq__ and no __ne__ of its own -/
structure PlC (K : PySem.W.Frag) (C : Addr) : Prop where
  ex : ∃ (nm q : Str) (N : Addr) (bs : List Value) (hdct : Bool) (sn : List Str) (sub : List Value) (ab : Bool) (col : Option Bool) (dd : Option Addr) (k0 k1 k2 k3 k5 : Option Value) (newId : String) (oN : Obj) (es : Array DictEntry) (ep : Nat),
    K.lookup C = some (excClassObj nm q C N bs [.type "object"] hdct sn sub ab col dd k0 k1 k2 k3 k5 newId) ∧ K.lookup N = some oN ∧ oN.data = .dict es ep ∧ StrKeys es ∧ nsFind es "__eq__" = none ∧ nsFind es "__ne__" = none
open He in
def plcB (C : Str) (K : PySem.W.Frag) : Bool := (match K.lookup (ga K C) with
  | some ⟨.type t, _, .cls cd, sl⟩ => (match sl.toList with | [_, _, _, _, some (.builtin _), _] => true | _ => false) && decide (t = "type") && decide (cd.mro = [.ref (ga K C), .type "object"]) && !cd.hasDel && (match K.lookup cd.ns with
    | some ⟨_, _, .dict es _, _⟩ => (es.toList.all fun e => match e.key with | .str _ _ => true | _ => false) && decide (nsFind es "__eq__" = none) && decide (nsFind es "__ne__" = none)
    | _ => false)
  | _ => false)
open He in
theorem plcB_ok {C : Str} {K : PySem.W.Frag} (h3 : plcB C K = true) : PlC K (ga K C) := by
  unfold plcB at h3
  refine ⟨?_⟩
  split at h3
  · rename_i t dd cd sl q
    obtain ⟨h3, h8⟩ := ba h3
    obtain ⟨h3, h7⟩ := ba h3
    obtain ⟨h3, h6⟩ := ba h3
    obtain ⟨h12, h5⟩ := ba h3
    obtain ⟨sl⟩ := sl
    split at h12
    case h_2 => cases h12
    rename_i k0 k1 k2 k3 nid k5 es
    have es' : sl = [k0, k1, k2, k3, some (.builtin nid), k5] := es
    subst es'
    split at h8
    · rename_i oc od es ep osl qn
      obtain ⟨h8, h11⟩ := ba h8
      obtain ⟨h9, h10⟩ := ba h8
      refine ⟨cd.name, cd.qualname, cd.ns, cd.bases, cd.hasDict, cd.slotNames, cd.subclasses, cd.abstract, cd.collection, dd, k0, k1, k2, k3, k5, nid, _, es, ep, ?_, qn, rfl, ?_, of_decide_eq_true h10, of_decide_eq_true h11⟩
      · rw [q]
        obtain ⟨n1, n2, n3, n4, n5, n6, n7, n8, n9, n10, n11⟩ := cd
        have e1 : n3 = [.ref (ga K C), .type "object"] := of_decide_eq_true h6
        have e2 : n11 = false := by
          have z : (!n11) = true := h7
          simpa using z
        have e3 : t = "type" := of_decide_eq_true h5
        subst e1 e2 e3
        rfl
      · intro e he
        have z := List.all_eq_true.mp h9 e (Array.mem_toList_iff.mpr he)
        split at z
        · rename_i n tk qk
          exact ⟨n, tk, qk⟩
        · cases z
    · cases h8
  · cases h3
section
variable {X : Cx} {N L S G B : List Str} {σ : L2.St} {H : Hp} {Q : VK} {a b C dx dy : Addr} {fs gs : List (Str × V)} {k j : Nat} {sp : Sp} {E : XK} {x : Str} {e f o : Expr} {p pos apos spos : Pos}
theorem PlC.inst {pins : List (Addr × Obj)} {s : Shared} (c : PlC X.K C) (I : Inv X pins σ H s) (ha : H a = some (.ins C dx fs)) : s.heap.CmpInst a C [.type "object"] := by
  obtain ⟨mA, O, _⟩ := ins_get I.hok ha
  obtain ⟨nm, qn, N, bs, hdct, sn, sub, ab, col, dd, k0, k1, k2, k3, k5, newId, oN, es, ep, lC, lN, dN, hk, he, hne⟩ := c.ex
  have X1 := I.kIn
  exact ⟨_, nm, qn, N, bs, hdct, sn, sub, ab, col, dd, k0, k1, k2, k3, k5, newId, fun z => nsFind es z, O.obj, rfl, X1 _ _ lC, ⟨oN, es, ep, X1 _ _ lN, dN, hk, fun _ => rfl⟩, he, hne⟩
theorem b_neObj (c : PlC X.K C) (hu : X.A.units + 1 < cLine) (ha : H a = some (.ins C dx fs)) (hb : H b = some (.ins C dy gs)) (q : Q (.bl (decide (a ≠ b))) H) : WB X (compareOp .NotEq) (.ref a) (.ref b) σ H Q := by
  refine ⟨fun pins s v u I rx ry => ?_⟩
  cases rx
  cases ry
  have ia := c.inst I ha
  have ib := c.inst I hb
  by_cases hab : a = b
  · subst hab
    rw [decide_eq_false (by simp)] at q
    exact compareOp_ne_same PySem.F.cmp_object ia hu ⟨.bl false, H, I, rfl, q⟩
  · rw [decide_eq_true hab] at q
    exact compareOp_ne_other PySem.F.cmp_object PySem.F.cmp_object ia ib hab hu ⟨.bl true, H, I, rfl, q⟩
/-! ### == of a list with the empty list -/
theorem b_eqNil {xs : List V} (hu : X.A.units + 64 < cLine) (ha : H a = some (.lst xs)) (hb : H b = some (.lst [])) (q : Q (.bl (decide (xs = []))) H) : WB X (compareOp .Eq) (.ref a) (.ref b) σ H Q := by
  by_cases hx : xs = []
  · subst hx
    rw [decide_eq_true rfl] at q
    exact (op_eqD hu).w ⟨.list [], .list [], .lst (.inl (.inl ha)) .nil, .lst (.inl (.inl hb)) .nil, by decide +kernel, by decide +kernel, by rw [show PyData.eqv (.list []) (.list []) = true by decide +kernel]; exact q⟩
  · rw [decide_eq_false hx] at q
    refine ⟨fun pins s v u I rx ry => ?_⟩
    cases rx
    cases ry
    obtain ⟨_, its, n, rv, ea⟩ := (show ObjOk X.prog X.w H s.heap a (.lst xs) from I.hok a _ ha)
    obtain ⟨_, its2, n2, rv2, eb⟩ := (show ObjOk X.prog X.w H s.heap b (.lst []) from I.hok b _ hb)
    cases rv2
    have hl := rv.length
    have hne : xs.length ≠ 0 := fun z => hx (List.length_eq_zero_iff.mp z)
    exact P.eq_list_lengths ea eb (by simp; intro z; rw [z] at hl; exact hne hl) (by omega) ⟨.bl false, H, I, rfl, q⟩
/-! ### C( *e) -/
theorem w_makeS (c : Nm X N L S G B) (mm : Mb x G) (hm : X.mg x = some (.ref C)) (F : Mkr X.prog X.w X.K X.mg X.base C k sp) (hr : Room j X.A) (hj : k + 1 ≤ j) (hx : Passes (L2.CX X.prog X.w) X E)
    (h : WE X e σ H fun y H1 => ∃ a xs, y = .ref a ∧ (SqT X.K H1 a xs ∨ SqL X.K H1 a xs) ∧ Made C sp xs H1 Q E)
    (hst : starEach [.Starred e spos] X.env = [(true, eval e X.env)] := by with_unfolding_all rfl) : WE X (.Call (.Name x p) [.Starred e spos] [] pos) σ H Q := by
  have kp := F.ex
  obtain ⟨f, M, _⟩ := kp
  obtain ⟨ga, gb, gd⟩ := c.glo x mm.mem
  refine ⟨fun pins s I => wpAny_Call_Name_kw (ld_glob I ga hm ?_ gb)⟩
  refine PySem.W.callWith_S (first := []) (h₀ := X.base) I.ok.mod.kin M.kp (thn (h.run pins s I) fun v s1 ⟨y, H1, I1, ry, a, xs, ey, hxs, q⟩ => ?_) hst
  subst ey
  obtain rfl : v = Value.ref a := ry
  exact StX.star_any I1 hxs fun us s2 I2 rv => ⟨I2.kIn, run_mkr F hr hj hx I2 rv q⟩
/-! ### len(o) by an own __len__ -/
structure LenM (P : Program) (w : World) (K : PySem.W.Frag) (mg : Str → Option Value) (base : Heap) (C : Addr) (k : Nat) (sp : Sp) : Prop where
  ex : ∃ f, PySem.W.findIn K (.ref C) "__len__" = some (some (.ref f)) ∧ PySem.W.typeIn K (.ref f) = some (.type "function") ∧ FnR P w K mg base (L2.CX P w) k f sp
def lenB (C : Str) (K : PySem.W.Frag) : Bool := He.eqO (PySem.W.findIn K (.ref (He.ga K C)) "__len__") (some (some (.ref (He.ma K (He.ga K C) "__len__")))) && decide (PySem.W.typeIn K (.ref (He.ma K (He.ga K C) "__len__")) = some (.type "function"))
theorem lenB_ok {C : Str} {K : PySem.W.Frag} (h : lenB C K = true) : PySem.W.findIn K (.ref (He.ga K C)) "__len__" = some (some (.ref (He.ma K (He.ga K C) "__len__"))) ∧ PySem.W.typeIn K (.ref (He.ma K (He.ga K C) "__len__")) = some (.type "function") := by
  unfold lenB at h
  rw [Bool.and_eq_true] at h
  exact ⟨He.eqO_ok h.1, of_decide_eq_true h.2⟩
theorem c_lenO (F : LenM X.prog X.w X.K X.mg X.base C k sp) (hr : Room j X.A) (hj : k + 1 ≤ j) (ha : H a = some (.ins C dx fs)) (q : sp [.ref a] H (fun v H' => ∃ n : Nat, v = .int (n : Nat) ∧ n < 16777216 ∧ Q (.int (n : Nat)) H') E0) : WC X (.builtin "len") [.ref a] σ H Q := by
  obtain ⟨f, h1, h2, F⟩ := F.ex
  refine ⟨fun pins s us I r => ?_⟩
  obtain ⟨u, rfl, hu1⟩ := vals1 r
  obtain rfl : u = Value.ref a := hu1
  obtain ⟨mA, O, _⟩ := ins_get I.hok ha
  obtain ⟨od, J, _⟩ := O.look
  refine Calls.call_function_entry kind_len plain_len entry_len (args_len1 _) ?_
  unfold Builtin.«len»
  refine wpAny_bind (m := oneArg "len" _) (wpAny_pure ?_)
  refine wpAny_bind (m := callSpecial? (.ref a) (PySem.Str.ofString "__len__")) (PySem.W.special_fn I.kIn J h1 h2 ?_)
  have hr1 : Room k X.A.in1 := (hr.mono hj).in1
  refine wpAny_mono (wpAny_call (codeAny_mono (F X.A.in1 X.stack s H [.ref a] [.ref a] _ E0 hr1 I.env0.in1 (.cons rfl .nil) q) fun r s' hq => ?_)) (fun v s' z => z) fun _ _ x => x
  cases r with
  | error er => exact False.elim (passL (X := X.nox) pins σ H s er s' (I.wish _) hq)
  | ok fl =>
    cases fl with
    | ret u =>
      obtain ⟨v, H', I3, rv, n, ev, hn, q3⟩ := I.after hq
      subst ev
      obtain ⟨t, rfl⟩ := rv
      refine wpAny_bind (wpAny_holding (wpAny_of_eq (a := ((n : Nat) : Int)) rfl ?_))
      refine wpAny_bind (wpAny_letGo ?_)
      show wpAny _ _ (if ((n : Nat) : Int) < 0 then _ else _) _ _ _
      rw [if_neg (by omega)]
      show wpAny _ _ (if ((n : Nat) : Int) ≥ 2 ^ 63 then _ else _) _ _ _
      rw [if_neg (by omega)]
      exact wpAny_bind (wpAny_mkInt (wpAny_pure ⟨_, rfl, .int _, H', I3.tok _, ⟨_, rfl⟩, q3⟩))
    | next => exact False.elim hq
    | brk => exact False.elim hq
    | cont => exact False.elim hq
theorem x_lenO (c : Nm X N L S G B) (m : Mb "len" B) (F : LenM X.prog X.w X.K X.mg X.base C k sp) (hr : Room j X.A) (hj : k + 1 ≤ j) (h : WE X e σ H fun y H1 => ∃ a dx fs, y = .ref a ∧ H1 a = some (.ins C dx fs) ∧ sp [.ref a] H1 (fun v H' => ∃ n : Nat, v = .int (n : Nat) ∧ n < 16777216 ∧ Q (.int (n : Nat)) H') E0)
    (hs : starEach [e] X.env = (false, eval e X.env) :: starEach [] X.env := by with_unfolding_all rfl) (hpl : (backTo pos (starEach [] X.env)).any (·.1) = false := by with_unfolding_all rfl) : WE X (.Call (.Name "len" p) [e] [] pos) σ H Q :=
  w_callB c m bt_len (wa_cons (WE.imp h fun y H1 ⟨a, dx, fs, ey, ha, q⟩ => wa_nil (by rw [ey]; exact c_lenO F hr hj ha q)) hs) hs hpl
/-! ### d.get(k, x), d[k] = v of an attribute, l.index(x) -/
theorem w_dget2 (hu : X.A.units + 1 < cLine) (h : WE X o σ H fun x H1 => ∃ a, x = .ref a ∧ IsD H1 a ∧ WE X e σ H1 fun y H2 => WE X f σ H2 fun z H3 => ∃ r, DGet H3 a y r ∧ Q (r.getD z) H3)
    (hbase : attributeBase o "get" X.env (eval o X.env) = eval o X.env := by with_unfolding_all rfl)
    (hfew : ((backTo pos (starEach [e, f] X.env)).all (fun x => !x.1) && (backToKw pos (keywordEach [] X.env)).all (fun x => x.1.isSome)
      && decide (([e, f] : List Expr).length + ([] : List Keyword).length + (if ([] : List Keyword).isEmpty then 0 else 1) < 30)) = true := by with_unfolding_all rfl)
    (hline : (apos.endLine == pos.line) = true := by with_unfolding_all rfl) (hs : backTo pos (starEach [e, f] X.env) = [(false, eval e X.env), (false, eval f X.env)] := by with_unfolding_all rfl) : WE X (.Call (.Attribute o "get" apos) [e, f] [] pos) σ H Q :=
  (pe_dget2 hu pe_w pe_w pe_w ⟨hbase, hfew, hline, hs⟩).w h
end
end Sv

namespace Sv
open PySem PySem.Spec PyProof.Rows L2
/-! the text: each def by its place -/
def topS (i : Nat) : Stmt := PySem.Challenge.pw_sieverows_k30_whole_orders_and_exchanges.main.body.getD i (.Pass ⟨0, 0, 0, 0⟩)
abbrev s_InvalidPattern___init__ : Stmt := inClass (topS 3) 0
abbrev s_InvalidNumber___init__ : Stmt := inClass (topS 4) 0
abbrev s_InvalidRound___init__ : Stmt := inClass (topS 5) 0
abbrev s_NothingKept___init__ : Stmt := inClass (topS 6) 0
abbrev s_LimitExceeded___init__ : Stmt := inClass (topS 7) 0
abbrev s_is_integer : Stmt := topS 9
abbrev s_check_number : Stmt := topS 10
abbrev s_least_pattern : Stmt := topS 11
abbrev s_pattern_of : Stmt := topS 12
abbrev s_Sieve___init__ : Stmt := inClass (topS 13) 1
abbrev s_Sieve_is_pattern : Stmt := inClass (topS 13) 2
abbrev s_Sieve_everything : Stmt := inClass (topS 13) 3
abbrev s_Sieve_pattern : Stmt := inClass (topS 13) 5
abbrev s_Sieve_period : Stmt := inClass (topS 13) 6
abbrev s_Sieve_size : Stmt := inClass (topS 13) 7
abbrev s_Sieve_is_kept : Stmt := inClass (topS 13) 8
abbrev s_Sieve_nth : Stmt := inClass (topS 13) 9
abbrev s_Sieve_rank : Stmt := inClass (topS 13) 10
abbrev s_Sieve___eq__ : Stmt := inClass (topS 13) 12
abbrev s_common_divisor : Stmt := topS 14
abbrev s_common_multiple : Stmt := topS 15
abbrev s_check_limit : Stmt := topS 16
abbrev s_sieve_from : Stmt := topS 17
abbrev s_compose : Stmt := topS 19
abbrev s_Round___init__ : Stmt := inClass (topS 21) 0
abbrev s_Round_sieve : Stmt := inClass (topS 21) 1
abbrev s_Every___init__ : Stmt := inClass (topS 22) 1
abbrev s_Block___init__ : Stmt := inClass (topS 23) 1
abbrev s_check_rounds : Stmt := topS 27
abbrev s_Row___init__ : Stmt := inClass (topS 28) 0
abbrev s_Row_sieve : Stmt := inClass (topS 28) 2
abbrev s_Row_then : Stmt := inClass (topS 28) 5
abbrev s_may_exchange : Stmt := topS 31
abbrev s_all_orders : Stmt := topS 32
abbrev s_orders : Stmt := topS 33
abbrev s_density : Stmt := topS 35
abbrev s__law_pool : Stmt := topS 37
abbrev s__law_take : Stmt := topS 38
abbrev s__law_pattern : Stmt := topS 39
abbrev s__law_spec : Stmt := topS 44
abbrev s__law_round : Stmt := topS 46
abbrev s__law_orders : Stmt := topS 47
abbrev s__law_row : Stmt := topS 48
abbrev s__law_shuffle : Stmt := topS 49
abbrev s__law_share : Stmt := topS 50
abbrev s_law : Stmt := topS 51
abbrev N_InvalidPattern___init__ : List Str := ["self", "value"]
abbrev L_InvalidPattern___init__ : List Str := ["self", "value"]
abbrev G_InvalidPattern___init__ : List Str := ["SieveError"]
abbrev B_InvalidPattern___init__ : List Str := []
theorem sc_InvalidPattern___init__ : scB N_InvalidPattern___init__ ["self", "value"] L_InvalidPattern___init__ G_InvalidPattern___init__ B_InvalidPattern___init__ (defScope s_InvalidPattern___init__) = true := by decide +kernel
abbrev N_InvalidNumber___init__ : List Str := ["self", "value"]
abbrev L_InvalidNumber___init__ : List Str := ["self", "value"]
abbrev G_InvalidNumber___init__ : List Str := ["SieveError"]
abbrev B_InvalidNumber___init__ : List Str := []
theorem sc_InvalidNumber___init__ : scB N_InvalidNumber___init__ ["self", "value"] L_InvalidNumber___init__ G_InvalidNumber___init__ B_InvalidNumber___init__ (defScope s_InvalidNumber___init__) = true := by decide +kernel
abbrev N_InvalidRound___init__ : List Str := ["self", "value"]
abbrev L_InvalidRound___init__ : List Str := ["self", "value"]
abbrev G_InvalidRound___init__ : List Str := ["SieveError"]
abbrev B_InvalidRound___init__ : List Str := []
theorem sc_InvalidRound___init__ : scB N_InvalidRound___init__ ["self", "value"] L_InvalidRound___init__ G_InvalidRound___init__ B_InvalidRound___init__ (defScope s_InvalidRound___init__) = true := by decide +kernel
abbrev N_NothingKept___init__ : List Str := ["self", "value"]
abbrev L_NothingKept___init__ : List Str := ["self", "value"]
abbrev G_NothingKept___init__ : List Str := ["SieveError"]
abbrev B_NothingKept___init__ : List Str := []
theorem sc_NothingKept___init__ : scB N_NothingKept___init__ ["self", "value"] L_NothingKept___init__ G_NothingKept___init__ B_NothingKept___init__ (defScope s_NothingKept___init__) = true := by decide +kernel
abbrev N_LimitExceeded___init__ : List Str := ["self", "limit"]
abbrev L_LimitExceeded___init__ : List Str := ["self", "limit"]
abbrev G_LimitExceeded___init__ : List Str := []
abbrev B_LimitExceeded___init__ : List Str := ["OverflowError"]
theorem sc_LimitExceeded___init__ : scB N_LimitExceeded___init__ ["self", "limit"] L_LimitExceeded___init__ G_LimitExceeded___init__ B_LimitExceeded___init__ (defScope s_LimitExceeded___init__) = true := by decide +kernel
abbrev N_is_integer : List Str := ["value", "minimum"]
abbrev L_is_integer : List Str := ["value", "minimum"]
abbrev G_is_integer : List Str := []
abbrev B_is_integer : List Str := ["isinstance", "int", "bool"]
theorem sc_is_integer : scB N_is_integer ["value", "minimum"] L_is_integer G_is_integer B_is_integer (defScope s_is_integer) = true := by decide +kernel
abbrev N_check_number : List Str := ["value"]
abbrev L_check_number : List Str := ["value"]
abbrev G_check_number : List Str := ["is_integer", "InvalidNumber"]
abbrev B_check_number : List Str := []
theorem sc_check_number : scB N_check_number ["value"] L_check_number G_check_number B_check_number (defScope s_check_number) = true := by decide +kernel
abbrev N_least_pattern : List Str := ["pattern", "length", "period"]
abbrev L_least_pattern : List Str := ["pattern", "length", "period"]
abbrev G_least_pattern : List Str := []
abbrev B_least_pattern : List Str := ["len", "range"]
theorem sc_least_pattern : scB N_least_pattern ["pattern"] L_least_pattern G_least_pattern B_least_pattern (defScope s_least_pattern) = true := by decide +kernel
abbrev N_pattern_of : List Str := ["kept", "period", "marks", "number"]
abbrev L_pattern_of : List Str := ["kept", "period", "marks"]
abbrev G_pattern_of : List Str := []
abbrev B_pattern_of : List Str := ["set", "range"]
theorem sc_pattern_of : scB N_pattern_of ["kept", "period"] L_pattern_of G_pattern_of B_pattern_of (defScope s_pattern_of) = true := by decide +kernel
abbrev bL_pattern_of_0 : List Str := ["number", "marks"]
abbrev bS_pattern_of_0 : List Str := ["number"]
abbrev bG_pattern_of_0 : List Str := []
abbrev bB_pattern_of_0 : List Str := []
abbrev bO_pattern_of_0 : List (Str × Nat) := [("number", 3)]
abbrev N_Sieve___init__ : List Str := ["self", "pattern", "number", "sign"]
abbrev L_Sieve___init__ : List Str := ["self", "pattern"]
abbrev G_Sieve___init__ : List Str := ["least_pattern", "InvalidPattern", "Sieve"]
abbrev B_Sieve___init__ : List Str := ["enumerate"]
theorem sc_Sieve___init__ : scB N_Sieve___init__ ["self", "pattern"] L_Sieve___init__ G_Sieve___init__ B_Sieve___init__ (defScope s_Sieve___init__) = true := by decide +kernel
abbrev bL_Sieve___init___0 : List Str := ["number", "sign"]
abbrev bS_Sieve___init___0 : List Str := ["number", "sign"]
abbrev bG_Sieve___init___0 : List Str := []
abbrev bB_Sieve___init___0 : List Str := []
abbrev bO_Sieve___init___0 : List (Str × Nat) := [("number", 2), ("sign", 3)]
abbrev N_Sieve_is_pattern : List Str := ["value", "sign"]
abbrev L_Sieve_is_pattern : List Str := ["value"]
abbrev G_Sieve_is_pattern : List Str := ["Sieve"]
abbrev B_Sieve_is_pattern : List Str := ["all", "isinstance", "str", "len"]
theorem sc_Sieve_is_pattern : scB N_Sieve_is_pattern ["value"] L_Sieve_is_pattern G_Sieve_is_pattern B_Sieve_is_pattern (defScope s_Sieve_is_pattern) = true := by decide +kernel
abbrev bL_Sieve_is_pattern_0 : List Str := ["sign"]
abbrev bS_Sieve_is_pattern_0 : List Str := ["sign"]
abbrev bG_Sieve_is_pattern_0 : List Str := []
abbrev bB_Sieve_is_pattern_0 : List Str := []
abbrev bO_Sieve_is_pattern_0 : List (Str × Nat) := [("sign", 1)]
abbrev N_Sieve_everything : List Str := ["cls"]
abbrev L_Sieve_everything : List Str := ["cls"]
abbrev G_Sieve_everything : List Str := []
abbrev B_Sieve_everything : List Str := []
theorem sc_Sieve_everything : scB N_Sieve_everything ["cls"] L_Sieve_everything G_Sieve_everything B_Sieve_everything (defScope s_Sieve_everything) = true := by decide +kernel
abbrev N_Sieve_pattern : List Str := ["self"]
abbrev L_Sieve_pattern : List Str := ["self"]
abbrev G_Sieve_pattern : List Str := []
abbrev B_Sieve_pattern : List Str := []
theorem sc_Sieve_pattern : scB N_Sieve_pattern ["self"] L_Sieve_pattern G_Sieve_pattern B_Sieve_pattern (defScope s_Sieve_pattern) = true := by decide +kernel
abbrev N_Sieve_period : List Str := ["self"]
abbrev L_Sieve_period : List Str := ["self"]
abbrev G_Sieve_period : List Str := []
abbrev B_Sieve_period : List Str := ["len"]
theorem sc_Sieve_period : scB N_Sieve_period ["self"] L_Sieve_period G_Sieve_period B_Sieve_period (defScope s_Sieve_period) = true := by decide +kernel
abbrev N_Sieve_size : List Str := ["self"]
abbrev L_Sieve_size : List Str := ["self"]
abbrev G_Sieve_size : List Str := []
abbrev B_Sieve_size : List Str := ["len"]
theorem sc_Sieve_size : scB N_Sieve_size ["self"] L_Sieve_size G_Sieve_size B_Sieve_size (defScope s_Sieve_size) = true := by decide +kernel
abbrev N_Sieve_is_kept : List Str := ["self", "value"]
abbrev L_Sieve_is_kept : List Str := ["self", "value"]
abbrev G_Sieve_is_kept : List Str := ["is_integer"]
abbrev B_Sieve_is_kept : List Str := ["len"]
theorem sc_Sieve_is_kept : scB N_Sieve_is_kept ["self", "value"] L_Sieve_is_kept G_Sieve_is_kept B_Sieve_is_kept (defScope s_Sieve_is_kept) = true := by decide +kernel
abbrev N_Sieve_nth : List Str := ["self", "index", "rounds", "place"]
abbrev L_Sieve_nth : List Str := ["self", "index", "rounds", "place"]
abbrev G_Sieve_nth : List Str := ["check_number"]
abbrev B_Sieve_nth : List Str := ["divmod", "len"]
theorem sc_Sieve_nth : scB N_Sieve_nth ["self", "index"] L_Sieve_nth G_Sieve_nth B_Sieve_nth (defScope s_Sieve_nth) = true := by decide +kernel
abbrev N_Sieve_rank : List Str := ["self", "number", "rounds", "place"]
abbrev L_Sieve_rank : List Str := ["self", "number", "rounds", "place"]
abbrev G_Sieve_rank : List Str := ["check_number"]
abbrev B_Sieve_rank : List Str := ["divmod", "len"]
theorem sc_Sieve_rank : scB N_Sieve_rank ["self", "number"] L_Sieve_rank G_Sieve_rank B_Sieve_rank (defScope s_Sieve_rank) = true := by decide +kernel
abbrev N_Sieve___eq__ : List Str := ["self", "other"]
abbrev L_Sieve___eq__ : List Str := ["self", "other"]
abbrev G_Sieve___eq__ : List Str := ["Sieve"]
abbrev B_Sieve___eq__ : List Str := ["isinstance"]
theorem sc_Sieve___eq__ : scB N_Sieve___eq__ ["self", "other"] L_Sieve___eq__ G_Sieve___eq__ B_Sieve___eq__ (defScope s_Sieve___eq__) = true := by decide +kernel
abbrev N_common_divisor : List Str := ["first", "second"]
abbrev L_common_divisor : List Str := ["first", "second"]
abbrev G_common_divisor : List Str := []
abbrev B_common_divisor : List Str := []
theorem sc_common_divisor : scB N_common_divisor ["first", "second"] L_common_divisor G_common_divisor B_common_divisor (defScope s_common_divisor) = true := by decide +kernel
abbrev N_common_multiple : List Str := ["first", "second"]
abbrev L_common_multiple : List Str := ["first", "second"]
abbrev G_common_multiple : List Str := ["common_divisor"]
abbrev B_common_multiple : List Str := []
theorem sc_common_multiple : scB N_common_multiple ["first", "second"] L_common_multiple G_common_multiple B_common_multiple (defScope s_common_multiple) = true := by decide +kernel
abbrev N_check_limit : List Str := ["period"]
abbrev L_check_limit : List Str := ["period"]
abbrev G_check_limit : List Str := ["Sieve", "LimitExceeded"]
abbrev B_check_limit : List Str := []
theorem sc_check_limit : scB N_check_limit ["period"] L_check_limit G_check_limit B_check_limit (defScope s_check_limit) = true := by decide +kernel
abbrev N_sieve_from : List Str := ["kept", "period"]
abbrev L_sieve_from : List Str := ["kept", "period"]
abbrev G_sieve_from : List Str := ["Sieve", "pattern_of"]
abbrev B_sieve_from : List Str := ["len"]
theorem sc_sieve_from : scB N_sieve_from ["kept", "period"] L_sieve_from G_sieve_from B_sieve_from (defScope s_sieve_from) = true := by decide +kernel
abbrev N_compose : List Str := ["first", "second", "length", "period", "index"]
abbrev L_compose : List Str := ["first", "second", "length", "period"]
abbrev G_compose : List Str := ["common_multiple", "check_limit", "sieve_from"]
abbrev B_compose : List Str := ["range"]
theorem sc_compose : scB N_compose ["first", "second"] L_compose G_compose B_compose (defScope s_compose) = true := by decide +kernel
abbrev bL_compose_0 : List Str := ["index", "first", "second"]
abbrev bS_compose_0 : List Str := ["index"]
abbrev bG_compose_0 : List Str := []
abbrev bB_compose_0 : List Str := []
abbrev bO_compose_0 : List (Str × Nat) := [("index", 4)]
abbrev N_Round___init__ : List Str := ["self", "pattern"]
abbrev L_Round___init__ : List Str := ["self", "pattern"]
abbrev G_Round___init__ : List Str := ["Sieve"]
abbrev B_Round___init__ : List Str := []
theorem sc_Round___init__ : scB N_Round___init__ ["self", "pattern"] L_Round___init__ G_Round___init__ B_Round___init__ (defScope s_Round___init__) = true := by decide +kernel
abbrev N_Round_sieve : List Str := ["self"]
abbrev L_Round_sieve : List Str := ["self"]
abbrev G_Round_sieve : List Str := []
abbrev B_Round_sieve : List Str := []
theorem sc_Round_sieve : scB N_Round_sieve ["self"] L_Round_sieve G_Round_sieve B_Round_sieve (defScope s_Round_sieve) = true := by decide +kernel
abbrev N_Every___init__ : List Str := ["self", "number", "__class__"]
abbrev L_Every___init__ : List Str := ["self", "number"]
abbrev G_Every___init__ : List Str := ["InvalidNumber", "is_integer", "Every"]
abbrev B_Every___init__ : List Str := ["super"]
theorem sc_Every___init__ : xscB N_Every___init__ ["self", "number"] L_Every___init__ G_Every___init__ B_Every___init__ (defScope s_Every___init__) = true := by decide +kernel
abbrev N_Block___init__ : List Str := ["self", "kept", "struck", "__class__"]
abbrev L_Block___init__ : List Str := ["self", "kept", "struck"]
abbrev G_Block___init__ : List Str := ["InvalidNumber", "is_integer", "Block"]
abbrev B_Block___init__ : List Str := ["super"]
theorem sc_Block___init__ : xscB N_Block___init__ ["self", "kept", "struck"] L_Block___init__ G_Block___init__ B_Block___init__ (defScope s_Block___init__) = true := by decide +kernel
abbrev N_check_rounds : List Str := ["rounds", "item"]
abbrev L_check_rounds : List Str := ["rounds", "item"]
abbrev G_check_rounds : List Str := ["Round", "InvalidRound"]
abbrev B_check_rounds : List Str := ["isinstance"]
theorem sc_check_rounds : scB N_check_rounds ["rounds"] L_check_rounds G_check_rounds B_check_rounds (defScope s_check_rounds) = true := by decide +kernel
abbrev N_Row___init__ : List Str := ["self", "rounds", "item"]
abbrev L_Row___init__ : List Str := ["self", "rounds", "item"]
abbrev G_Row___init__ : List Str := ["check_rounds", "Sieve", "compose"]
abbrev B_Row___init__ : List Str := []
theorem sc_Row___init__ : scB N_Row___init__ ["self", "rounds"] L_Row___init__ G_Row___init__ B_Row___init__ (defScope s_Row___init__) = true := by decide +kernel
abbrev N_Row_sieve : List Str := ["self"]
abbrev L_Row_sieve : List Str := ["self"]
abbrev G_Row_sieve : List Str := []
abbrev B_Row_sieve : List Str := []
theorem sc_Row_sieve : scB N_Row_sieve ["self"] L_Row_sieve G_Row_sieve B_Row_sieve (defScope s_Row_sieve) = true := by decide +kernel
abbrev N_Row_then : List Str := ["self", "rounds"]
abbrev L_Row_then : List Str := ["self", "rounds"]
abbrev G_Row_then : List Str := ["Row"]
abbrev B_Row_then : List Str := []
theorem sc_Row_then : scB N_Row_then ["self", "rounds"] L_Row_then G_Row_then B_Row_then (defScope s_Row_then) = true := by decide +kernel
abbrev N_may_exchange : List Str := ["first", "second"]
abbrev L_may_exchange : List Str := ["first", "second"]
abbrev G_may_exchange : List Str := ["compose"]
abbrev B_may_exchange : List Str := []
theorem sc_may_exchange : scB N_may_exchange ["first", "second"] L_may_exchange G_may_exchange B_may_exchange (defScope s_may_exchange) = true := by decide +kernel
abbrev N_all_orders : List Str := ["size", "first", "others", "rest", "index"]
abbrev L_all_orders : List Str := ["size", "first", "others", "rest"]
abbrev G_all_orders : List Str := ["all_orders"]
abbrev B_all_orders : List Str := ["range", "list"]
theorem sc_all_orders : gscB N_all_orders ["size"] L_all_orders G_all_orders B_all_orders (defScope s_all_orders) = true := by decide +kernel
abbrev bL_all_orders_0 : List Str := ["index", "first"]
abbrev bS_all_orders_0 : List Str := ["index"]
abbrev bG_all_orders_0 : List Str := []
abbrev bB_all_orders_0 : List Str := []
abbrev bO_all_orders_0 : List (Str × Nat) := [("index", 4)]
abbrev bL_all_orders_1 : List Str := ["others", "index"]
abbrev bS_all_orders_1 : List Str := ["index"]
abbrev bG_all_orders_1 : List Str := []
abbrev bB_all_orders_1 : List Str := []
abbrev bO_all_orders_1 : List (Str × Nat) := [("index", 4)]
abbrev N_orders : List Str := ["rounds", "found", "order", "chosen", "index", "pattern"]
abbrev L_orders : List Str := ["rounds", "found", "order", "chosen"]
abbrev G_orders : List Str := ["check_rounds", "MOST_ROUNDS", "LimitExceeded", "all_orders", "Row"]
abbrev B_orders : List Str := ["list", "sorted", "len"]
theorem sc_orders : scB N_orders ["rounds"] L_orders G_orders B_orders (defScope s_orders) = true := by decide +kernel
abbrev bL_orders_0 : List Str := ["rounds", "index"]
abbrev bS_orders_0 : List Str := ["index"]
abbrev bG_orders_0 : List Str := []
abbrev bB_orders_0 : List Str := []
abbrev bO_orders_0 : List (Str × Nat) := [("index", 4)]
abbrev bL_orders_1 : List Str := ["order", "pattern"]
abbrev bS_orders_1 : List Str := ["pattern", "order"]
abbrev bG_orders_1 : List Str := []
abbrev bB_orders_1 : List Str := []
abbrev bO_orders_1 : List (Str × Nat) := [("pattern", 5), ("order", 2)]
abbrev N_density : List Str := ["sieve", "divisor"]
abbrev L_density : List Str := ["sieve", "divisor"]
abbrev G_density : List Str := ["common_divisor"]
abbrev B_density : List Str := []
theorem sc_density : scB N_density ["sieve"] L_density G_density B_density (defScope s_density) = true := by decide +kernel
abbrev N__law_pool : List Str := ["_law_script", "_law_k", "_law_cell", "_law_mixed"]
abbrev L__law_pool : List Str := ["_law_script", "_law_k", "_law_cell", "_law_mixed"]
abbrev G__law_pool : List Str := []
abbrev B__law_pool : List Str := ["len", "abs", "int"]
theorem sc__law_pool : scB N__law_pool ["_law_script", "_law_k"] L__law_pool G__law_pool B__law_pool (defScope s__law_pool) = true := by decide +kernel
abbrev N__law_take : List Str := ["_law_pool_here", "_law_count", "_law_result"]
abbrev L__law_take : List Str := ["_law_pool_here", "_law_count", "_law_result"]
abbrev G__law_take : List Str := []
abbrev B__law_take : List Str := []
theorem sc__law_take : scB N__law_take ["_law_pool_here", "_law_count"] L__law_take G__law_take B__law_take (defScope s__law_take) = true := by decide +kernel
abbrev N__law_pattern : List Str := ["_law_pool_here", "_law_most", "_law_signs_here", "_law_turn"]
abbrev L__law_pattern : List Str := ["_law_pool_here", "_law_most", "_law_signs_here"]
abbrev G__law_pattern : List Str := ["_law_take"]
abbrev B__law_pattern : List Str := ["range", "len"]
theorem sc__law_pattern : scB N__law_pattern ["_law_pool_here", "_law_most"] L__law_pattern G__law_pattern B__law_pattern (defScope s__law_pattern) = true := by decide +kernel
abbrev bL__law_pattern_0 : List Str := ["_law_pool_here", "_law_turn"]
abbrev bS__law_pattern_0 : List Str := ["_law_turn"]
abbrev bG__law_pattern_0 : List Str := ["_law_take"]
abbrev bB__law_pattern_0 : List Str := []
abbrev bO__law_pattern_0 : List (Str × Nat) := [("_law_turn", 3)]
abbrev N__law_spec : List Str := ["_law_pool_here", "_law_kind"]
abbrev L__law_spec : List Str := ["_law_pool_here", "_law_kind"]
abbrev G__law_spec : List Str := ["_law_take", "_law_pattern"]
abbrev B__law_spec : List Str := []
theorem sc__law_spec : scB N__law_spec ["_law_pool_here"] L__law_spec G__law_spec B__law_spec (defScope s__law_spec) = true := by decide +kernel
abbrev N__law_round : List Str := ["_law_spec_here"]
abbrev L__law_round : List Str := ["_law_spec_here"]
abbrev G__law_round : List Str := ["Every", "Block", "Round"]
abbrev B__law_round : List Str := []
theorem sc__law_round : scB N__law_round ["_law_spec_here"] L__law_round G__law_round B__law_round (defScope s__law_round) = true := by decide +kernel
abbrev N__law_orders : List Str := ["_law_some"]
abbrev L__law_orders : List Str := ["_law_some"]
abbrev G__law_orders : List Str := ["orders"]
abbrev B__law_orders : List Str := ["len"]
theorem sc__law_orders : scB N__law_orders ["_law_some"] L__law_orders G__law_orders B__law_orders (defScope s__law_orders) = true := by decide +kernel
abbrev N__law_row : List Str := ["_law_some", "_law_result", "_law_item"]
abbrev L__law_row : List Str := ["_law_some", "_law_result", "_law_item"]
abbrev G__law_row : List Str := ["Row"]
abbrev B__law_row : List Str := []
theorem sc__law_row : scB N__law_row ["_law_some"] L__law_row G__law_row B__law_row (defScope s__law_row) = true := by decide +kernel
abbrev N__law_shuffle : List Str := ["_law_pool_here", "_law_items", "_law_turn", "_law_rest", "_law_result"]
abbrev L__law_shuffle : List Str := ["_law_pool_here", "_law_items", "_law_turn", "_law_rest", "_law_result"]
abbrev G__law_shuffle : List Str := ["_law_take"]
abbrev B__law_shuffle : List Str := ["range", "list", "len"]
theorem sc__law_shuffle : scB N__law_shuffle ["_law_pool_here", "_law_items"] L__law_shuffle G__law_shuffle B__law_shuffle (defScope s__law_shuffle) = true := by decide +kernel
abbrev N__law_share : List Str := ["_law_some", "_law_item", "_law_kept_here", "_law_period", "_law_part"]
abbrev L__law_share : List Str := ["_law_some", "_law_item", "_law_kept_here", "_law_period", "_law_part"]
abbrev G__law_share : List Str := ["density"]
abbrev B__law_share : List Str := []
theorem sc__law_share : scB N__law_share ["_law_some"] L__law_share G__law_share B__law_share (defScope s__law_share) = true := by decide +kernel
abbrev N_law : List Str := ["_law_script", "_law_k", "_law_pool_here", "_law_some", "_law_found", "_law_order", "_law_pattern_here", "_law_patterns", "_law_share_here", "_law_part", "_law_turn", "_law_index", "_law_first", "_law_other"]
abbrev L_law : List Str := ["_law_script", "_law_k", "_law_pool_here", "_law_some", "_law_found", "_law_order", "_law_pattern_here", "_law_patterns", "_law_share_here", "_law_part"]
abbrev G_law : List Str := ["_law_pool", "_law_orders", "_law_shuffle", "_law_share", "density", "may_exchange", "Sieve", "_law_row", "orders", "_law_take"]
abbrev B_law : List Str := ["range", "max", "min", "list", "len", "sorted", "tuple"]
theorem sc_law : scB N_law ["_law_script"] L_law G_law B_law (defScope s_law) = true := by decide +kernel
abbrev bL_law_0 : List Str := ["_law_pool_here", "_law_turn"]
abbrev bS_law_0 : List Str := ["_law_turn"]
abbrev bG_law_0 : List Str := ["_law_round", "_law_spec"]
abbrev bB_law_0 : List Str := []
abbrev bO_law_0 : List (Str × Nat) := [("_law_turn", 10)]
abbrev bL_law_1 : List Str := ["_law_pattern_here", "_law_order"]
abbrev bS_law_1 : List Str := ["_law_order", "_law_pattern_here"]
abbrev bG_law_1 : List Str := []
abbrev bB_law_1 : List Str := []
abbrev bO_law_1 : List (Str × Nat) := [("_law_order", 5), ("_law_pattern_here", 6)]
abbrev bL_law_2 : List Str := ["_law_some", "_law_index"]
abbrev bS_law_2 : List Str := ["_law_index"]
abbrev bG_law_2 : List Str := []
abbrev bB_law_2 : List Str := []
abbrev bO_law_2 : List (Str × Nat) := [("_law_index", 11)]
abbrev bL_law_3 : List Str := ["_law_some", "_law_index"]
abbrev bS_law_3 : List Str := ["_law_index"]
abbrev bG_law_3 : List Str := []
abbrev bB_law_3 : List Str := []
abbrev bO_law_3 : List (Str × Nat) := [("_law_index", 11)]
abbrev bL_law_4 : List Str := ["_law_first", "_law_other", "_law_pattern_here", "_law_order"]
abbrev bS_law_4 : List Str := ["_law_first", "_law_other"]
abbrev bG_law_4 : List Str := []
abbrev bB_law_4 : List Str := ["tuple"]
abbrev bO_law_4 : List (Str × Nat) := [("_law_first", 12), ("_law_other", 13)]
abbrev BB : List Str := ["isinstance", "int", "bool", "str", "list", "tuple", "set", "len", "range", "enumerate", "zip", "all", "any", "sum", "min", "max", "abs", "divmod", "sorted", "type", "ValueError", "OverflowError", "RuntimeError", "super", "next", "ord", "chr", "repr", "dict"]
def fnL : List DefY := [
  ⟨fun K => He.ma K (He.ga K "LimitExceeded") "__init__", "__init__", "LimitExceeded.__init__", defArgs s_LimitExceeded___init__, defBody s_LimitExceeded___init__, defScope s_LimitExceeded___init__, [], []⟩,
  ⟨fun K => He.ga K "is_integer", "is_integer", "is_integer", defArgs s_is_integer, defBody s_is_integer, defScope s_is_integer, [.int 0], []⟩,
  ⟨fun K => He.ga K "check_number", "check_number", "check_number", defArgs s_check_number, defBody s_check_number, defScope s_check_number, [], []⟩,
  ⟨fun K => He.ga K "least_pattern", "least_pattern", "least_pattern", defArgs s_least_pattern, defBody s_least_pattern, defScope s_least_pattern, [], []⟩,
  ⟨fun K => He.ga K "pattern_of", "pattern_of", "pattern_of", defArgs s_pattern_of, defBody s_pattern_of, defScope s_pattern_of, [], []⟩,
  ⟨fun K => He.ma K (He.ga K "Sieve") "__init__", "__init__", "Sieve.__init__", defArgs s_Sieve___init__, defBody s_Sieve___init__, defScope s_Sieve___init__, [], []⟩,
  ⟨rcA "staticmethod" "Sieve" "is_pattern", "is_pattern", "Sieve.is_pattern", defArgs s_Sieve_is_pattern, defBody s_Sieve_is_pattern, defScope s_Sieve_is_pattern, [], []⟩,
  ⟨rcA "classmethod" "Sieve" "everything", "everything", "Sieve.everything", defArgs s_Sieve_everything, defBody s_Sieve_everything, defScope s_Sieve_everything, [], []⟩,
  ⟨rcA "property" "Sieve" "pattern", "pattern", "Sieve.pattern", defArgs s_Sieve_pattern, defBody s_Sieve_pattern, defScope s_Sieve_pattern, [], []⟩,
  ⟨rcA "property" "Sieve" "period", "period", "Sieve.period", defArgs s_Sieve_period, defBody s_Sieve_period, defScope s_Sieve_period, [], []⟩,
  ⟨rcA "property" "Sieve" "size", "size", "Sieve.size", defArgs s_Sieve_size, defBody s_Sieve_size, defScope s_Sieve_size, [], []⟩,
  ⟨fun K => He.ma K (He.ga K "Sieve") "is_kept", "is_kept", "Sieve.is_kept", defArgs s_Sieve_is_kept, defBody s_Sieve_is_kept, defScope s_Sieve_is_kept, [], []⟩,
  ⟨fun K => He.ma K (He.ga K "Sieve") "nth", "nth", "Sieve.nth", defArgs s_Sieve_nth, defBody s_Sieve_nth, defScope s_Sieve_nth, [], []⟩,
  ⟨fun K => He.ma K (He.ga K "Sieve") "rank", "rank", "Sieve.rank", defArgs s_Sieve_rank, defBody s_Sieve_rank, defScope s_Sieve_rank, [], []⟩,
  ⟨fun K => He.ma K (He.ga K "Sieve") "__eq__", "__eq__", "Sieve.__eq__", defArgs s_Sieve___eq__, defBody s_Sieve___eq__, defScope s_Sieve___eq__, [], []⟩,
  ⟨fun K => He.ga K "common_divisor", "common_divisor", "common_divisor", defArgs s_common_divisor, defBody s_common_divisor, defScope s_common_divisor, [], []⟩,
  ⟨fun K => He.ga K "common_multiple", "common_multiple", "common_multiple", defArgs s_common_multiple, defBody s_common_multiple, defScope s_common_multiple, [], []⟩,
  ⟨fun K => He.ga K "check_limit", "check_limit", "check_limit", defArgs s_check_limit, defBody s_check_limit, defScope s_check_limit, [], []⟩,
  ⟨fun K => He.ga K "sieve_from", "sieve_from", "sieve_from", defArgs s_sieve_from, defBody s_sieve_from, defScope s_sieve_from, [], []⟩,
  ⟨fun K => He.ga K "compose", "compose", "compose", defArgs s_compose, defBody s_compose, defScope s_compose, [], []⟩,
  ⟨fun K => He.ma K (He.ga K "Round") "__init__", "__init__", "Round.__init__", defArgs s_Round___init__, defBody s_Round___init__, defScope s_Round___init__, [], []⟩,
  ⟨rcA "property" "Round" "sieve", "sieve", "Round.sieve", defArgs s_Round_sieve, defBody s_Round_sieve, defScope s_Round_sieve, [], []⟩,
  ⟨fun K => He.ma K (He.ga K "Every") "__init__", "__init__", "Every.__init__", defArgs s_Every___init__, defBody s_Every___init__, defScope s_Every___init__, [], ["__class__"]⟩,
  ⟨fun K => He.ma K (He.ga K "Block") "__init__", "__init__", "Block.__init__", defArgs s_Block___init__, defBody s_Block___init__, defScope s_Block___init__, [], ["__class__"]⟩,
  ⟨fun K => He.ga K "check_rounds", "check_rounds", "check_rounds", defArgs s_check_rounds, defBody s_check_rounds, defScope s_check_rounds, [], []⟩,
  ⟨fun K => He.ma K (He.ga K "Row") "__init__", "__init__", "Row.__init__", defArgs s_Row___init__, defBody s_Row___init__, defScope s_Row___init__, [], []⟩,
  ⟨rcA "property" "Row" "sieve", "sieve", "Row.sieve", defArgs s_Row_sieve, defBody s_Row_sieve, defScope s_Row_sieve, [], []⟩,
  ⟨fun K => He.ma K (He.ga K "Row") "then", "then", "Row.then", defArgs s_Row_then, defBody s_Row_then, defScope s_Row_then, [], []⟩,
  ⟨fun K => He.ga K "may_exchange", "may_exchange", "may_exchange", defArgs s_may_exchange, defBody s_may_exchange, defScope s_may_exchange, [], []⟩,
  ⟨fun K => He.ga K "all_orders", "all_orders", "all_orders", defArgs s_all_orders, defBody s_all_orders, defScope s_all_orders, [], []⟩,
  ⟨fun K => He.ga K "orders", "orders", "orders", defArgs s_orders, defBody s_orders, defScope s_orders, [], []⟩,
  ⟨fun K => He.ga K "density", "density", "density", defArgs s_density, defBody s_density, defScope s_density, [], []⟩,
  ⟨fun K => He.ga K "_law_pool", "_law_pool", "_law_pool", defArgs s__law_pool, defBody s__law_pool, defScope s__law_pool, [], []⟩,
  ⟨fun K => He.ga K "_law_take", "_law_take", "_law_take", defArgs s__law_take, defBody s__law_take, defScope s__law_take, [], []⟩,
  ⟨fun K => He.ga K "_law_pattern", "_law_pattern", "_law_pattern", defArgs s__law_pattern, defBody s__law_pattern, defScope s__law_pattern, [], []⟩,
  ⟨fun K => He.ga K "_law_spec", "_law_spec", "_law_spec", defArgs s__law_spec, defBody s__law_spec, defScope s__law_spec, [], []⟩,
  ⟨fun K => He.ga K "_law_round", "_law_round", "_law_round", defArgs s__law_round, defBody s__law_round, defScope s__law_round, [], []⟩,
  ⟨fun K => He.ga K "_law_orders", "_law_orders", "_law_orders", defArgs s__law_orders, defBody s__law_orders, defScope s__law_orders, [], []⟩,
  ⟨fun K => He.ga K "_law_row", "_law_row", "_law_row", defArgs s__law_row, defBody s__law_row, defScope s__law_row, [], []⟩,
  ⟨fun K => He.ga K "_law_shuffle", "_law_shuffle", "_law_shuffle", defArgs s__law_shuffle, defBody s__law_shuffle, defScope s__law_shuffle, [], []⟩,
  ⟨fun K => He.ga K "_law_share", "_law_share", "_law_share", defArgs s__law_share, defBody s__law_share, defScope s__law_share, [], []⟩,
  ⟨fun K => He.ga K "law", "law", "law", defArgs s_law, defBody s_law, defScope s_law, [], []⟩]
def fs1 : List (PySem.W.Frag → Bool) := [
  fun K => (He.Fa.glo "SieveError").ok K,
  fun K => (He.Fa.glo "is_integer").ok K,
  fun K => (He.Fa.glo "InvalidNumber").ok K,
  fun K => (He.Fa.glo "least_pattern").ok K,
  fun K => (He.Fa.glo "InvalidPattern").ok K,
  fun K => (He.Fa.glo "Sieve").ok K,
  fun K => (He.Fa.glo "check_number").ok K,
  fun K => (He.Fa.glo "common_divisor").ok K,
  fun K => (He.Fa.glo "LimitExceeded").ok K,
  fun K => (He.Fa.glo "pattern_of").ok K,
  fun K => (He.Fa.glo "common_multiple").ok K,
  fun K => (He.Fa.glo "check_limit").ok K,
  fun K => (He.Fa.glo "sieve_from").ok K,
  fun K => (He.Fa.glo "Every").ok K,
  fun K => (He.Fa.glo "Block").ok K,
  fun K => (He.Fa.glo "Round").ok K,
  fun K => (He.Fa.glo "InvalidRound").ok K,
  fun K => (He.Fa.glo "check_rounds").ok K,
  fun K => (He.Fa.glo "compose").ok K,
  fun K => (He.Fa.glo "Row").ok K,
  fun K => (He.Fa.glo "all_orders").ok K,
  fun K => (He.Fa.int "MOST_ROUNDS" 6).ok K,
  fun K => (He.Fa.glo "_law_take").ok K,
  fun K => (He.Fa.glo "_law_pattern").ok K,
  fun K => (He.Fa.glo "orders").ok K,
  fun K => (He.Fa.glo "density").ok K,
  fun K => (He.Fa.glo "_law_pool").ok K,
  fun K => (He.Fa.glo "_law_orders").ok K,
  fun K => (He.Fa.glo "_law_shuffle").ok K,
  fun K => (He.Fa.glo "_law_round").ok K,
  fun K => (He.Fa.glo "_law_share").ok K,
  fun K => (He.Fa.glo "may_exchange").ok K,
  fun K => (He.Fa.glo "_law_spec").ok K,
  fun K => (He.Fa.glo "_law_row").ok K,
  fun K => (He.Fa.glo "law").ok K,
  fun K => (He.Fa.cls "Sieve").ok K,
  fun K => (He.Fa.mkr "Sieve").ok K,
  creadB "Sieve",
  tyB "Sieve",
  fun K => (He.Fa.noat "Sieve" "text").ok K,
  fun K => (He.Fa.noat "Sieve" "marks").ok K,
  getB "Sieve" "is_pattern" "staticmethod" "staticmethod.__get__",
  keepB (rcA "staticmethod" "Sieve" "is_pattern"),
  getB "Sieve" "everything" "classmethod" "classmethod.__get__",
  keepB (rcA "classmethod" "Sieve" "everything"),
  fnInB (rcA "classmethod" "Sieve" "everything"),
  propB "Sieve" "pattern",
  propB "Sieve" "period",
  propB "Sieve" "size",
  fun K => (He.Fa.meth "Sieve" "is_kept").ok K,
  fun K => (He.Fa.meth "Sieve" "nth").ok K,
  fun K => (He.Fa.meth "Sieve" "rank").ok K,
  eqcB "Sieve",
  cvalB "Sieve" "LONGEST" (.int 10000),
  fun K => (He.Fa.cls "Round").ok K,
  fun K => (He.Fa.mkr "Round").ok K,
  creadB "Round",
  tyB "Round",
  fun K => (He.Fa.noat "Round" "own").ok K,
  propB "Round" "sieve",
  fun K => (He.Fa.cls "Every").ok K,
  fun K => (He.Fa.mkr "Every").ok K,
  creadB "Every",
  tyB "Every",
  fun K => (He.Fa.noat "Every" "step").ok K,
  fun K => (He.Fa.noat "Every" "own").ok K,
  propB "Every" "sieve",
  cvalB "Every" "MOST" (.int 60),
  fun K => (He.Fa.cls "Block").ok K,
  fun K => (He.Fa.mkr "Block").ok K,
  creadB "Block",
  tyB "Block",
  fun K => (He.Fa.noat "Block" "sizes").ok K,
  fun K => (He.Fa.noat "Block" "own").ok K,
  propB "Block" "sieve",
  cvalB "Block" "MOST" (.int 60),
  fun K => (He.Fa.cls "Row").ok K,
  fun K => (He.Fa.mkr "Row").ok K,
  creadB "Row",
  tyB "Row",
  fun K => (He.Fa.noat "Row" "parts").ok K,
  fun K => (He.Fa.noat "Row" "stages").ok K,
  propB "Row" "sieve",
  fun K => (He.Fa.meth "Row" "then").ok K,
  fun K => (He.Fa.keep "InvalidNumber").ok K,
  fun K => (He.Fa.keep "SieveError").ok K,
  fun K => (He.Fa.keep "InvalidPattern").ok K,
  fun K => (He.Fa.keep "LimitExceeded").ok K,
  fun K => (He.Fa.keep "InvalidRound").ok K,
  fun K => (He.Fa.keep "NothingKept").ok K,
  kitC (fun K => .ref (He.ga K "Sieve")) "Round" false,
  kitC (fun K => .ref (He.ga K "Round")) "Round" true,
  kitC (fun K => .ref (He.ga K "Every")) "Round" true,
  kitC (fun K => .ref (He.ga K "Block")) "Round" true,
  kitC (fun K => .ref (He.ga K "Row")) "Round" false,
  kitC (fun _ => .type "int") "Round" false,
  kitC (fun _ => .type "bool") "Round" false,
  kitC (fun _ => .type "str") "Round" false,
  kitC (fun _ => .type "NoneType") "Round" false,
  kitC (fun _ => .type "list") "Round" false,
  kitC (fun _ => .type "tuple") "Round" false,
  kitC (fun K => .ref (He.ga K "Sieve")) "Sieve" true,
  kitC (fun K => .ref (He.ga K "Round")) "Sieve" false,
  kitC (fun K => .ref (He.ga K "Every")) "Sieve" false,
  kitC (fun K => .ref (He.ga K "Block")) "Sieve" false,
  kitC (fun K => .ref (He.ga K "Row")) "Sieve" false,
  kitC (fun _ => .type "int") "Sieve" false,
  kitC (fun _ => .type "bool") "Sieve" false,
  kitC (fun _ => .type "str") "Sieve" false,
  kitC (fun _ => .type "NoneType") "Sieve" false,
  kitC (fun _ => .type "list") "Sieve" false,
  kitC (fun _ => .type "tuple") "Sieve" false,
  supB PySem.Challenge.pw_sieverows_k30_whole_orders_and_exchanges.main.file "Every" (fun K => He.ma K (He.ga K "Every") "__init__"),
  supF "Every" "Every" "__init__" "Round",
  supB PySem.Challenge.pw_sieverows_k30_whole_orders_and_exchanges.main.file "Block" (fun K => He.ma K (He.ga K "Block") "__init__"),
  supF "Block" "Block" "__init__" "Round",
  inhB "Every" "Round" "sieve",
  inhB "Block" "Round" "sieve",
  errOB "OverflowError.__new__" ovTail "LimitExceeded" "limit",
  excCB "LimitExceeded",
  exmB "LimitExceeded" "LimitExceeded" true,
  kitC (fun K => .ref (He.ga K "LimitExceeded")) "InvalidNumber" false,
  kitC (fun K => .ref (He.ga K "LimitExceeded")) "InvalidPattern" false,
  kitC (fun K => .ref (He.ga K "LimitExceeded")) "InvalidRound" false,
  kitC (fun K => .ref (He.ga K "LimitExceeded")) "LimitExceeded" true,
  kitC (fun K => .ref (He.ga K "LimitExceeded")) "SieveError" false]
def fsL : List (PySem.W.Frag → Bool) := fs1 ++ BB.map fun x K => (He.Fa.free x).ok K
abbrev RwL : PySem.W.OpenRow := PySem.W.OpenLaw.row PySem.Challenge.rw_sieverows_k30_whole_orders_and_exchanges
/-! the addresses that the globals reach: level by level, the seen ones in one number -/
def newsB : List Addr → Nat → List Addr
  | [], _ => []
  | a :: as, m => match a, m with
    | 0, m => newsB as m
    | a + 1, 0 => (a + 1) :: newsB as (1 <<< (a + 1))
    | a + 1, k + 1 => if Nat.beq (((k + 1) >>> (a + 1)) % 2) 1 then newsB as (k + 1) else (a + 1) :: newsB as ((k + 1) ||| (1 <<< (a + 1)))
def maskB : List Addr → Nat → Nat
  | [], m => m
  | a :: as, m => match m with
    | 0 => maskB as (1 <<< a)
    | k + 1 => maskB as ((k + 1) ||| (1 <<< a))
def refsB (g : Addr → Option Obj) (as : List Addr) : List Addr := as.flatMap fun a => match g a with
  | some o => He.refsD o
  | none => []
def bfsB (g : Addr → Option Obj) : Nat → List Addr → Nat → List Addr
  | 0, fr, _ => fr
  | n + 1, fr, m => fr ++ bfsB g n (newsB (refsB g fr) m) (maskB (newsB (refsB g fr) m) m)
def asB (g : Addr → Option Obj) (n : Nat) : List Addr := bfsB g n [mainGlobals] (1 <<< mainGlobals)
def obsBG (n : Nat) (fs : List (PySem.W.Frag → Bool)) (fn : List DefY) (g : Addr → Option Obj) : AlY := obsY fs fn (He.frG g (PySem.sysModules :: PySem.cStatics :: asB g n))
def hookB (n : Nat) (fs : List (PySem.W.Frag → Bool)) (fn : List DefY) : PySem.W.Hook where
  α := AlY
  obs := fun s => obsBG n fs fn s.heap.get?
  val := fun _ => valY fn
  says := fun _ h => ∃ K : PySem.W.Frag, K.In h ∧ SaysY fs fn K
  of := fun _ _ e => ⟨_, He.frG_in, e⟩
  keeps := fun _ _ _ ⟨K, hK, c⟩ k => ⟨K, PySem.W.Frag.In.keeps hK k, c⟩
theorem obsBG_eq {n : Nat} {fs : List (PySem.W.Frag → Bool)} {fn : List DefY} {g : Addr → Option Obj} {s : Shared} (h : ∀ a, g a = s.heap.get? a) : obsBG n fs fn g = (hookB n fs fn).obs s := by
  have e : g = s.heap.get? := funext h
  rw [e] <;> rfl
abbrev hkL : PySem.W.Hook := hookB 6 fsL fnL
def obL (s : PySem.W.SharedT) : He.AlD := obsBG 6 fsL fnL (HandSHeadRun.getT s)
theorem obL_eq (s : PySem.W.SharedT) : obL s = hkL.obs s.abs := obsBG_eq (HandSHeadRun.getT_eq s)
--@run
open HandSHeadRun PySem.W PySem.Calls in
def RunA (r : PySem.W.OpenRow) (M : Nat) (w : World) : Prop := ∀ os : OsState, (endF (stepQ (denQ tabQ) r.prog w) M r.prog w os).map (fun s => looksF r.prog (boot_heap w.params) s.abs) = some true
open HandSHeadRun PySem.W PySem.Calls in
def RunB (r : PySem.W.OpenRow) (q : Program) (M : Nat) (loose : List PySem.Str) (w : World) : Prop := ∀ os : OsState, (endF (stepQ (denQ tabQ) r.prog w) M r.prog w os).map (fun s => seenQ q loose (importedModules r.prog.main.body) (fun s => xlAt q [] s && recOk r.toRowW.records s) s.abs) = some (openGood q loose)
open HandSHeadRun PySem.W PySem.Calls in
def RunC (r : PySem.W.OpenRow) (H : PySem.W.Hook) (ob : PySem.W.SharedT → H.α) (M : Nat) (w : World) : Prop := ∀ os : OsState, (endF (stepQ (denQ tabQ) r.prog w) M r.prog w os).map ob = some (H.val w)
open HandSHeadRun PySem.W PySem.Calls in
theorem runEq_of {r : PySem.W.OpenRow} {q : Program} {H : PySem.W.Hook} {ob : PySem.W.SharedT → H.α} {M : Nat} {loose : List PySem.Str} {w : World} (a : RunA r M w) (b : RunB r q M loose w) (c : RunC r H ob M w) : RunEq r q H ob M loose w := fun os => by
  obtain ⟨s, hs, ha⟩ := Option.map_eq_some_iff.mp (a os)
  have hb := b os
  have hc := c os
  rw [hs] at hb hc ⊢
  exact congrArg some (Prod.ext ha (Prod.ext (Option.some.inj hb) (Option.some.inj hc)))
theorem runLc (w : World) : RunC RwL hkL obL 20000 w := by
  intro os
  kernel_rfl
theorem runLa (w : World) : RunA RwL 20000 w := by
  intro os
  kernel_rfl
theorem runLb (w : World) : RunB RwL (PySem.W.view RwL.prog [51]) 20000 [("_wall" : Str), ("SieveError" : Str), ("InvalidPattern" : Str), ("InvalidNumber" : Str), ("InvalidRound" : Str), ("NothingKept" : Str), ("LimitExceeded" : Str), ("is_integer" : Str), ("check_number" : Str), ("least_pattern" : Str), ("pattern_of" : Str), ("Sieve" : Str), ("common_divisor" : Str), ("common_multiple" : Str), ("check_limit" : Str), ("sieve_from" : Str), ("compose" : Str), ("Round" : Str), ("Every" : Str), ("Block" : Str), ("complement" : Str), ("check_rounds" : Str), ("Row" : Str), ("MOST_ROUNDS" : Str), ("may_exchange" : Str), ("all_orders" : Str), ("orders" : Str), ("density" : Str), ("_law_pool" : Str), ("_law_take" : Str), ("_law_pattern" : Str), ("_law_least" : Str), ("_law_kept" : Str), ("_law_text" : Str), ("_law_sieved" : Str), ("_law_spec" : Str), ("_law_signs" : Str), ("_law_round" : Str), ("_law_orders" : Str), ("_law_row" : Str), ("_law_shuffle" : Str), ("_law_share" : Str)] w := by
  intro os
  kernel_rfl
theorem runL (w : World) : HandSHeadRun.RunEq RwL (PySem.W.view RwL.prog [51]) hkL obL 20000 [("_wall" : Str), ("SieveError" : Str), ("InvalidPattern" : Str), ("InvalidNumber" : Str), ("InvalidRound" : Str), ("NothingKept" : Str), ("LimitExceeded" : Str), ("is_integer" : Str), ("check_number" : Str), ("least_pattern" : Str), ("pattern_of" : Str), ("Sieve" : Str), ("common_divisor" : Str), ("common_multiple" : Str), ("check_limit" : Str), ("sieve_from" : Str), ("compose" : Str), ("Round" : Str), ("Every" : Str), ("Block" : Str), ("complement" : Str), ("check_rounds" : Str), ("Row" : Str), ("MOST_ROUNDS" : Str), ("may_exchange" : Str), ("all_orders" : Str), ("orders" : Str), ("density" : Str), ("_law_pool" : Str), ("_law_take" : Str), ("_law_pattern" : Str), ("_law_least" : Str), ("_law_kept" : Str), ("_law_text" : Str), ("_law_sieved" : Str), ("_law_spec" : Str), ("_law_signs" : Str), ("_law_round" : Str), ("_law_orders" : Str), ("_law_row" : Str), ("_law_shuffle" : Str), ("_law_share" : Str)] w := runEq_of (runLa w) (runLb w) (runLc w)
--@endrun
end Sv
/-! the hash table of a set, for masks of any size: the walk of 5 i + 1 meets every slot -/
namespace Sv
open PySem PySem.Spec PyProof.Rows L2

/-! ### (5^b - 1) / 4 -/
def gs : Nat → Nat
  | 0 => 0
  | b + 1 => 5 * gs b + 1
theorem gs_pow : ∀ b, 4 * gs b + 1 = 5 ^ b
  | 0 => rfl
  | b + 1 => by
    have := gs_pow b
    show 4 * (5 * gs b + 1) + 1 = 5 ^ (b + 1)
    rw [Nat.pow_succ]
    omega
theorem gs_add (c : Nat) : ∀ b, gs (b + c) = gs b + 5 ^ b * gs c
  | 0 => by simp [gs]
  | b + 1 => by
    have ih := gs_add c b
    rw [show b + 1 + c = (b + c) + 1 by omega]
    show 5 * gs (b + c) + 1 = 5 * gs b + 1 + 5 ^ (b + 1) * gs c
    rw [ih, Nat.pow_succ, Nat.mul_add, ← Nat.mul_assoc, Nat.mul_comm 5 (5 ^ b)]
    omega
theorem gs_two (b : Nat) : gs (2 * b) = 2 * (gs b * (2 * gs b + 1)) := by
  rw [Nat.two_mul, gs_add, ← gs_pow]
  generalize gs b = x
  rw [Nat.add_mul, Nat.mul_add x, Nat.mul_add 2]
  have e1 : 4 * x * x = 4 * (x * x) := Nat.mul_assoc 4 x x
  have e2 : x * (2 * x) = 2 * (x * x) := by rw [Nat.mul_comm x, Nat.mul_assoc]
  rw [e1, e2]
  omega
theorem gs_odd : ∀ b, gs b % 2 = b % 2
  | 0 => rfl
  | b + 1 => by
    have := gs_odd b
    show (5 * gs b + 1) % 2 = (b + 1) % 2
    omega
theorem odd_free (k x y : Nat) (h : 2 ^ k ∣ y * (2 * x + 1)) : 2 ^ k ∣ y := by
  have c : Nat.Coprime (2 ^ k) (2 * x + 1) := by
    refine Nat.Coprime.pow_left k ?_
    show Nat.gcd 2 (2 * x + 1) = 1
    rw [Nat.gcd_rec, show (2 * x + 1) % 2 = 1 by omega]; rfl
  exact c.dvd_of_dvd_mul_right h
theorem gs_dvd : ∀ (k b : Nat), 2 ^ k ∣ gs b → 2 ^ k ∣ b
  | 0, b, _ => ⟨b, by simp⟩
  | k + 1, b, h => by
    have h2 : 2 ∣ gs b := Nat.dvd_trans ⟨2 ^ k, by rw [Nat.pow_succ, Nat.mul_comm]⟩ h
    have ho := gs_odd b
    obtain ⟨c, rfl⟩ : ∃ c, b = 2 * c := ⟨b / 2, by omega⟩
    rw [gs_two, Nat.pow_succ, Nat.mul_comm] at h
    have h3 := odd_free k (gs c) (gs c) (Nat.dvd_of_mul_dvd_mul_left (by decide) h)
    obtain ⟨q, hq⟩ := gs_dvd k c h3
    exact ⟨q, by rw [hq, Nat.pow_succ, Nat.mul_comm (2 ^ k) 2, Nat.mul_assoc]⟩
theorem dvd_gs : ∀ k, 2 ^ k ∣ gs (2 ^ k)
  | 0 => ⟨_, by simp; rfl⟩
  | k + 1 => by
    obtain ⟨q, hq⟩ := dvd_gs k
    rw [Nat.pow_succ, Nat.mul_comm (2 ^ k) 2, gs_two, hq]
    exact ⟨q * (2 * (2 ^ k * q) + 1), by rw [Nat.mul_assoc, Nat.mul_assoc]⟩
theorem gs_apart {k b c : Nat} (hbc : b < c) (hc : c < 2 ^ k) : gs b % 2 ^ k ≠ gs c % 2 ^ k := fun e => by
  have e1 : gs c = gs b + 5 ^ b * gs (c - b) := by rw [← gs_add, show b + (c - b) = c by omega]
  have hd : 2 ^ k ∣ 5 ^ b * gs (c - b) := by
    have := Nat.dvd_of_mod_eq_zero (Nat.sub_mod_eq_zero_of_mod_eq e.symm)
    rwa [e1, Nat.add_sub_cancel_left] at this
  have hcop : Nat.Coprime (2 ^ k) (5 ^ b) := Nat.Coprime.pow k b (by decide)
  have h1 := gs_dvd k (c - b) (hcop.dvd_of_dvd_mul_left hd)
  have := Nat.le_of_dvd (by omega) h1
  omega
/-! ### the slots are met -/
/-- the masks of tables -/
def Mok (m : Nat) : Prop := ∃ k, 3 ≤ k ∧ k ≤ 15 ∧ m + 1 = 2 ^ k
theorem lcg_gs (m : Nat) : ∀ b, lcgN m b = gs b % (m + 1)
  | 0 => by simp [lcgN, gs]
  | b + 1 => by
    show (lcgN m b * 5 + 1) % (m + 1) = (5 * gs b + 1) % (m + 1)
    rw [lcg_gs m b, Nat.add_mod, Nat.mul_mod, Nat.mod_mod, ← Nat.mul_mod, ← Nat.add_mod, Nat.mul_comm]
theorem Mok.all {m : Nat} (hk : Mok m) {j : Nat} (hj : j ≤ m) : ∃ b, b ≤ m ∧ lcgN m b = j := by
  obtain ⟨k, _, _, e⟩ := hk
  rcases Classical.em (∃ b, b ≤ m ∧ lcgN m b = j) with c | c
  · exact c
  · exfalso
    have nd : ((List.range (m + 1)).map (lcgN m)).Nodup := by
      unfold List.Nodup
      rw [List.pairwise_map]
      refine List.Pairwise.imp_of_mem (fun {a b} ha hb hab => ?_) List.pairwise_lt_range
      rw [lcg_gs, lcg_gs, e]
      exact gs_apart hab (by rw [← e]; exact List.mem_range.mp hb)
    have q := nat_nodup_len _ ((List.range (m + 1)).erase j) nd fun x hx => by
      obtain ⟨b, hb, rfl⟩ := List.mem_map.mp hx
      have hb' := List.mem_range.mp hb
      refine (List.mem_erase_of_ne (fun z => c ⟨b, by omega, z⟩)).2 (List.mem_range.mpr ?_)
      rw [lcg_gs]
      exact Nat.mod_lt _ (Nat.succ_pos _)
    rw [List.length_map, List.length_range, List.length_erase_of_mem (List.mem_range.mpr (by omega)), List.length_range] at q
    omega
theorem Mok.round {m : Nat} (hk : Mok m) : ∀ c, lcgN m (m + 1 + c) = lcgN m c := fun c => by
  obtain ⟨k, _, _, e⟩ := hk
  rw [lcg_gs, lcg_gs, e]
  have h2 : 2 ^ k ∣ gs (2 ^ k + c) - gs c := by
    obtain ⟨q, hq⟩ := dvd_gs k
    have h3 := gs_add (2 ^ k) c
    rw [Nat.add_comm (2 ^ k) c, h3, Nat.add_sub_cancel_left, hq]
    exact ⟨5 ^ c * q, by rw [Nat.mul_left_comm]⟩
  have hle : gs c ≤ gs (2 ^ k + c) := by rw [Nat.add_comm, gs_add]; exact Nat.le_add_right _ _
  obtain ⟨q, hq⟩ := h2
  rw [show gs (2 ^ k + c) = gs c + 2 ^ k * q by omega, Nat.add_mul_mod_self_left]
theorem Mok.odd {m : Nat} (hk : Mok m) : m % 2 = 1 := by
  obtain ⟨k, h3, _, e⟩ := hk
  obtain ⟨j, rfl⟩ : ∃ j, k = j + 1 := ⟨k - 1, by omega⟩
  rw [Nat.pow_succ] at e
  omega
theorem Mok.most {m : Nat} (hk : Mok m) : m ≤ 32767 := by
  obtain ⟨k, _, h, e⟩ := hk
  have : 2 ^ k ≤ 2 ^ 15 := Nat.pow_le_pow_right (by decide) h
  omega
/-- from slot i on every slot comes -/
theorem Mok.from {m : Nat} (hk : Mok m) {i j : Nat} (hi : i ≤ m) (hj : j ≤ m) : ∃ k, k ≤ m ∧ lcgI m i k = j := by
  obtain ⟨x, hx, rfl⟩ := hk.all hi
  obtain ⟨y, hy, rfl⟩ := hk.all hj
  by_cases c : y < x
  · exact ⟨y + (m + 1) - x, by omega, by rw [lcgN_add, show x + (y + (m + 1) - x) = m + 1 + y by omega, hk.round]⟩
  · exact ⟨y - x, by omega, by rw [lcgN_add, show x + (y - x) = y by omega]⟩
theorem Mok.run {m : Nat} (hk : Mok m) (h : Int) {j : Nat} (hj : j ≤ m) : ∃ n, n ≤ m + 12 ∧ runI m (SetTable.bits h) n = j := by
  obtain ⟨k, h1, h2⟩ := hk.from (runI_le m (SetTable.bits h) 12) hj
  exact ⟨12 + k, by omega, (runI_tail (bits_lt h) k).trans h2⟩
theorem Mok.step {m : Nat} (hk : Mok m) (h : Int) {j : Nat} (hj : j ≤ m) : ∃ k, k < 10 * SetTable.turns m ∧ way m h k = j := by
  obtain ⟨n, h1, h2⟩ := hk.run h hj
  obtain ⟨k, h3, h4⟩ := run_nth m (SetTable.bits h) n
  refine ⟨k, by unfold SetTable.turns; omega, ?_⟩
  show (nth m _ k).j = j
  rw [h4]
  exact h2
theorem way_in (m : Nat) (h : Int) (k : Nat) : way m h k ≤ m := by
  have h1 : SetTable.bits h % (m + 1) ≤ m := Nat.le_of_lt_succ (Nat.mod_lt _ (Nat.succ_pos _))
  have h2 := runEnd_bd h1
  have h3 := nth_in (m := m) k (runAt m (SetTable.bits h % (m + 1)) (SetTable.bits h)) (by
    show SetTable.bits h % (m + 1) + (SetTable.runEnd m (SetTable.bits h % (m + 1)) - SetTable.bits h % (m + 1)) ≤ m
    omega)
  exact Nat.le_trans (Nat.le_add_right _ _) h3

/-! ### tables of whatever size -/
structure TabK (t : SetTable) (hs : List Int) : Prop where
  ris : Ris t.place.toList
  dm : t.dummies = #[]
  sz : t.place.size = hs.length
  mok : Mok t.mask
  bd : ∀ x ∈ t.place.toList, x ≤ t.mask
  reach : ∀ (i : Nat) (h : Int) (j : Nat), hs[i]? = some h → t.place.toList[i]? = some j → ∃ k, way t.mask h k = j ∧ ∀ k', k' < k → way t.mask h k' ∈ t.place.toList
section
variable {t : SetTable} {hs : List Int}
/-- the first place on the way where nothing stands -/
theorem TabK.open_ (T : TabK t hs) (hl : hs.length ≤ t.mask) (h : Int) : ∃ K, K < 10 * SetTable.turns t.mask ∧ way t.mask h K ∉ t.place.toList ∧ ∀ k, k < K → way t.mask h k ∈ t.place.toList := by
  obtain ⟨j, hj, hn⟩ := st_missing t.place.toList (t.mask + 1) (by rw [Array.length_toList, T.sz]; omega)
  obtain ⟨k, hk, e⟩ := T.mok.step h (Nat.le_of_lt_succ hj)
  obtain ⟨K, a1, a2, a3⟩ := st_least (p := fun k => way t.mask h k ∉ t.place.toList) k (by rw [e]; exact hn)
  exact ⟨K, by omega, a2, fun k' hk' => Classical.not_not.mp (a3 k' hk')⟩
theorem TabK.ahead (T : TabK t hs) {h : Int} {K i j : Nat} (hK : way t.mask h K ∉ t.place.toList) (hi : hs[i]? = some h) (hj : t.place.toList[i]? = some j) : ∃ k, k < K ∧ way t.mask h k = j := by
  obtain ⟨k, e, b⟩ := T.reach i h j hi hj
  refine ⟨k, Nat.lt_of_not_le fun c => ?_, e⟩
  rcases Nat.lt_or_eq_of_le c with d | d
  · exact hK (b K d)
  · exact hK (by rw [d, e]; exact List.mem_of_getElem? hj)
theorem TabK.put (T : TabK t hs) {h : Int} {K : Nat} (hK : way t.mask h K ∉ t.place.toList) (hb : ∀ k, k < K → way t.mask h k ∈ t.place.toList) : ∃ p, (t.put (way t.mask h K)).2 = p ∧ p ≤ hs.length ∧
    TabK (t.put (way t.mask h K)).1 (hs.take p ++ h :: hs.drop p) ∧ (t.put (way t.mask h K)).1.mask = t.mask ∧ (t.put (way t.mask h K)).1.fill = hs.length + 1 := by
  have jm := way_in t.mask h K
  generalize ej : way t.mask h K = j at hK jm
  obtain ⟨c1, _, _⟩ := below_cut T.ris j
  have p1 : SetTable.below t.place j ≤ t.place.toList.length := by rw [Array.length_toList]; exact c1
  have p2 : SetTable.below t.place j ≤ hs.length := by rw [← T.sz]; exact c1
  have no : t.place[SetTable.below t.place j]? ≠ some j := fun e => hK (List.mem_of_getElem? (by rw [Array.getElem?_toList]; exact e))
  have pl := put_place t j
  have dm := put_dm T.dm j
  have size1 : (t.put j).1.place.size = hs.length + 1 := by rw [← Array.length_toList, pl, len_ins _ p1, Array.length_toList, T.sz]
  have grow : ∀ {x : Nat}, x ∈ t.place.toList → x ∈ (t.put j).1.place.toList := fun hx => by rw [pl]; exact mem_ins.2 (.inr hx)
  refine ⟨_, rfl, p2, ⟨ris_insert T.ris no, dm, by rw [show (t.put j).2 = SetTable.below t.place j from rfl, len_ins _ p2]; exact size1, T.mok, fun x hx => ?_, fun i h' j' e1 e2 => ?_⟩, rfl, ?_⟩
  · rw [pl] at hx
    exact (mem_ins.1 hx).elim (fun z => z ▸ jm) (T.bd x)
  · rw [show (t.put j).2 = SetTable.below t.place j from rfl, tins_get hs p2] at e1
    rw [pl, tins_get _ p1] at e2
    show ∃ k, way t.mask h' k = j' ∧ ∀ k', k' < k → way t.mask h' k' ∈ (t.put j).1.place.toList
    by_cases c : i < SetTable.below t.place j
    · rw [if_pos c] at e1 e2
      obtain ⟨k, a, b⟩ := T.reach i h' j' e1 e2
      exact ⟨k, a, fun k' hk' => grow (b k' hk')⟩
    · by_cases d : i = SetTable.below t.place j
      · rw [if_neg c, if_pos d] at e1 e2
        cases e1
        cases e2
        exact ⟨K, ej, fun k' hk' => grow (hb k' hk')⟩
      · rw [if_neg c, if_neg d] at e1 e2
        obtain ⟨k, a, b⟩ := T.reach (i - 1) h' j' e1 e2
        exact ⟨k, a, fun k' hk' => grow (b k' hk')⟩
  · show (t.put j).1.place.size + (t.put j).1.dummies.size = hs.length + 1
    rw [size1, dm]; rfl
end
/-! ### laid anew -/
theorem find_free {m : Nat} (hk : Mok m) (ow : Array (Option Nat)) (h : Int) {j : Nat} (hj : j ≤ m) (hf : oAt ow j = none) :
    ∃ K, SetTable.layClean.free m ow (SetTable.turns m) (SetTable.bits h % (m + 1)) (SetTable.bits h) = some (way m h K) ∧ oAt ow (way m h K) = none ∧ ∀ k, k < K → oAt ow (way m h k) ≠ none := by
  obtain ⟨n, hn, e⟩ := hk.run h hj
  have hw : way m h (off m (SetTable.bits h % (m + 1)) (SetTable.bits h) n) = j := by
    show (nth m _ (off m _ _ n)).j = j
    rw [nth_off, itL_run]
    exact e
  obtain ⟨K, a1, a2, a3⟩ := st_least (p := fun k => oAt ow (way m h k) = none) _ (by rw [hw]; exact hf)
  refine ⟨K, free_spec m ow _ n _ _ K (by unfold SetTable.turns; omega) a1 (fun k hk => ?_) (by rw [show oAt ow (nth m _ K).j = none from a2]; rfl), a2, a3⟩
  cases z : oAt ow (nth m (runAt m (SetTable.bits h % (m + 1)) (SetTable.bits h)) k).j with
  | none => exact absurd z (a3 k hk)
  | some _ => rfl
theorem own_step {m : Nat} (hk : Mok m) {done : List Int} {ow : Array (Option Nat)} (W : Own m done ow) (hl : done.length ≤ m) (h : Int) :
    ∃ j, SetTable.layClean.free m ow (SetTable.turns m) (SetTable.bits h % (m + 1)) (SetTable.bits h) = some j ∧ Own m (done ++ [h]) (ow.setIfInBounds j (some done.length)) := by
  obtain ⟨ps, l1, l2⟩ := W.ps
  obtain ⟨x, x1, x2⟩ := st_missing ps (m + 1) (by omega)
  have xn : oAt ow x = none := Classical.not_not.mp fun z => x2 (l2 x (Nat.le_of_lt_succ x1) z)
  obtain ⟨K, f1, f2, f3⟩ := find_free hk ow h (Nat.le_of_lt_succ x1) xn
  have jm := way_in m h K
  have js : way m h K < ow.size := by rw [W.sz]; omega
  have own := oAt_set_self (some done.length) js
  have keep : ∀ {i : Nat}, oAt ow i ≠ none → oAt (ow.setIfInBounds (way m h K) (some done.length)) i ≠ none := fun {i} hi => by
    by_cases c : i = way m h K
    · rw [c, own]; exact Option.some_ne_none _
    · rw [oAt_set_ne _ c]; exact hi
  refine ⟨_, f1, by rw [Array.size_setIfInBounds]; exact W.sz, fun j k hj e => ?_, fun k hk => ?_, way m h K :: ps, by simp [l1], fun j hj e => ?_⟩
  · by_cases c : j = way m h K
    · rw [c, own] at e
      cases e
      exact ⟨h, K, by simp, c.symm, fun k' hk' => keep (f3 k' hk')⟩
    · rw [oAt_set_ne _ c] at e
      obtain ⟨h', K', b1, b2, b3⟩ := W.at_ j k hj e
      exact ⟨h', K', by rw [List.getElem?_append_left (List.getElem?_eq_some_iff.mp b1).1]; exact b1, b2, fun k' hk' => keep (b3 k' hk')⟩
  · by_cases c : k < done.length
    · obtain ⟨j, b1, b2⟩ := W.all k c
      exact ⟨j, b1, by rw [oAt_set_ne _ (fun z => by rw [z, f2] at b2; cases b2)]; exact b2⟩
    · rw [List.length_append, List.length_singleton] at hk
      obtain rfl : k = done.length := by omega
      exact ⟨_, jm, own⟩
  · by_cases c : j = way m h K
    · rw [c]; exact List.mem_cons_self
    · rw [oAt_set_ne _ c] at e
      exact List.mem_cons_of_mem _ (l2 j hj e)
theorem own_fold {m : Nat} (hk : Mok m) : ∀ (rest done : List Int) (ow : Array (Option Nat)), Own m done ow → done.length + rest.length ≤ m →
    ∃ ow', rest.foldl (stepF m) (some (ow, done.length)) = some (ow', (done ++ rest).length) ∧ Own m (done ++ rest) ow'
  | [], done, ow, W, _ => ⟨ow, by rw [List.append_nil]; rfl, by rw [List.append_nil]; exact W⟩
  | h :: rest, done, ow, W, hl => by
    rw [List.length_cons] at hl
    obtain ⟨j, e, W'⟩ := own_step hk W (by omega) h
    have e2 : done ++ [h] ++ rest = done ++ h :: rest := by simp
    obtain ⟨ow', f, W2⟩ := own_fold hk rest (done ++ [h]) _ W' (by simp; omega)
    rw [e2] at f W2
    rw [List.length_append, List.length_singleton] at f
    exact ⟨ow', by rw [List.foldl_cons, stepF_some e]; exact f, W2⟩
theorem clean_own {m : Nat} (hk : Mok m) {hs : Array Int} (hn : hs.size ≤ m) : ∃ ow, SetTable.layClean m hs = some ow ∧ Own m hs.toList ow := by
  obtain ⟨ow, f, W⟩ := own_fold hk hs.toList [] _ (Own.init m) (by rw [Array.length_toList]; show 0 + hs.size ≤ m; omega)
  rw [List.nil_append] at f W
  exact ⟨ow, by rw [layClean_eq, show (0 : Nat) = ([] : List Int).length from rfl, f]; rfl, W⟩
theorem relaidK (t : SetTable) {hs : Array Int} {wanted M : Nat} (hw : SetTable.sizeAbove wanted - 1 = M) (hM : Mok M) (hn : hs.size ≤ M) :
    ∃ t' order, t.relaid hs wanted = some (t', order) ∧ order.toList.Perm (List.range hs.size) ∧ TabK t' (order.toList.map fun i => hs.getD i 0) ∧ t'.mask = M := by
  obtain ⟨ow, e, W⟩ := clean_own hM hn
  have ris := ris_live (fun j => ow.getD j none) (List.range (M + 1)) (by unfold Ris; exact List.pairwise_lt_range)
  have r1 : Ris ((liveOf M ow).map (·.1)) := ris.1
  have nd1 : ((liveOf M ow).map (·.1)).Nodup := by
    have r2 := r1
    unfold Ris at r2
    exact r2.imp fun h => Nat.ne_of_lt h
  have hlen : (liveOf M ow).length = hs.size := by
    obtain ⟨ps, p1, p2⟩ := W.ps
    have a := nat_nodup_len ((liveOf M ow).map (·.1)) ps nd1 fun x hx => by
      obtain ⟨⟨y, k⟩, hq, rfl⟩ := List.mem_map.mp hx
      obtain ⟨b1, b2⟩ := (mem_live W.sz).1 hq
      exact p2 y b1 (by rw [b2]; exact Option.some_ne_none _)
    have b := nat_nodup_len (List.range hs.size) ((liveOf M ow).map (·.2)) List.nodup_range fun k hk => by
      obtain ⟨j, b1, b2⟩ := W.all k (by rw [Array.length_toList]; exact List.mem_range.mp hk)
      exact List.mem_map.mpr ⟨(j, k), (mem_live W.sz).2 ⟨b1, b2⟩, rfl⟩
    rw [List.length_map, p1] at a
    rw [List.length_map, List.length_range] at b
    have c : hs.toList.length = hs.size := rfl
    omega
  refine ⟨tabOf t M ow, ((liveOf M ow).map (·.2)).toArray, by rw [relaid_eq, hw, e]; rfl, perm_range hs.size _ (by simpa using hlen) fun k hk => ?_, ⟨r1, rfl, ?_, hM, fun x hx => ?_, fun i h j e1 e2 => ?_⟩, rfl⟩
  · obtain ⟨j, b1, b2⟩ := W.all k (by rw [Array.length_toList]; exact hk)
    exact List.mem_map.mpr ⟨(j, k), (mem_live W.sz).2 ⟨b1, b2⟩, rfl⟩
  · show ((liveOf M ow).map (·.1)).toArray.size = (((liveOf M ow).map (·.2)).map fun i => hs.getD i 0).length
    simp
  · obtain ⟨⟨y, k⟩, hq, rfl⟩ := List.mem_map.mp (show x ∈ (liveOf M ow).map (·.1) from hx)
    exact ((mem_live W.sz).1 hq).1
  · have e1' : (((liveOf M ow).map (·.2)).map fun i => hs.getD i 0)[i]? = some h := e1
    have e2' : ((liveOf M ow).map (·.1))[i]? = some j := e2
    cases hq : (liveOf M ow)[i]? with
    | none => rw [List.getElem?_map, hq] at e2'; cases e2'
    | some q =>
      obtain ⟨y, k⟩ := q
      rw [List.getElem?_map, List.getElem?_map, hq] at e1'
      rw [List.getElem?_map, hq] at e2'
      cases e2'
      obtain ⟨b1, b2⟩ := (mem_live W.sz).1 (List.mem_of_getElem? hq)
      obtain ⟨h0, K, a1, a2, a3⟩ := W.at_ y k b1 b2
      obtain rfl : h0 = h := by
        have : hs.getD k 0 = h := Option.some.inj e1'
        rw [← this, Array.getD_eq_getD_getElem?, ← Array.getElem?_toList, a1]; rfl
      refine ⟨K, a2, fun k' hk' => ?_⟩
      show way M h0 k' ∈ (liveOf M ow).map (·.1)
      cases z : oAt ow (way M h0 k') with
      | none => exact absurd z (a3 k' hk')
      | some k2 => exact List.mem_map.mpr ⟨(way M h0 k', k2), (mem_live W.sz).2 ⟨way_in _ _ _, z⟩, rfl⟩
end Sv

/-! tokens only grow; ints that python made bear tokens that are not 0: calls and comprehensions that tell it -/
namespace Sv
open PySem PySem.Spec PyProof.Rows L2

theorem runs_toks {M : Model} {Γ : PySem.Ctx} {p : Pos} {t : Sem Fin} {fs : List Frame} {s : Shared} {e : End} {s' : Shared} (h : Runs M Γ p t fs s e s') : s.toks ≤ s'.toks := by
  induction h with
  | done | raise | yield => exact Nat.le_refl _
  | fresh _ ih => exact Nat.le_trans (Nat.le_succ _) ih
  | again _ _ ih | rule _ ih | «at» _ ih | load _ _ ih | update _ _ ih | loadIfAlive _ ih | point _ ih | alloc _ ih | ask _ ih | choose _ _ ih | os _ ih | handled _ ih | genState _ _ ih | stack _ ih | thread _ ih | newGen _ ih => exact ih
  | call _ _ ih1 ih2 => exact Nat.le_trans ih1 ih2
  | callSusp _ ih => exact ih
  | resumeFresh _ _ _ _ ih1 ih2 => exact Nat.le_trans ih1 ih2
  | resumeSuspended _ _ _ _ ih1 ih2 => exact Nat.le_trans ih1 ih2
  | resumeJustStarted _ _ _ ih | resumeThrowFresh _ _ ih | resumeRunning _ _ ih | resumeFinished _ _ ih => exact ih
  | segRet _ _ ih1 ih2 => exact Nat.le_trans ih1 ih2
  | segGen _ _ ih1 ih2 => exact Nat.le_trans ih1 ih2
  | segSuspOut _ _ ih => exact ih
  | segSuspGen _ _ _ _ ih1 ih2 => exact Nat.le_trans ih1 ih2
theorem wakes_toks {M : Model} {Γ : PySem.Ctx} {p : Pos} {g : Nat} {r : Resume} {s : Shared} {res : GenResult} {s' : Shared} (h : Wakes M Γ p g r s res s') : s.toks ≤ s'.toks := by
  unfold Wakes at h
  split at h
  · exact h.elim
  · split at h
    · obtain ⟨e1, s1, h1, _, _, rfl⟩ := h
      have z := runs_toks h1
      exact z
    · obtain ⟨_, rfl⟩ := h
      exact Nat.le_refl _
    · obtain ⟨_, rfl⟩ := h
      exact Nat.le_refl _
  · obtain ⟨e1, s1, h1, _, _, rfl⟩ := h
    have z := runs_toks h1
    exact z
  · obtain ⟨_, rfl⟩ := h
    exact Nat.le_refl _
  · obtain ⟨_, rfl⟩ := h
    exact Nat.le_refl _
theorem wp_toks {α : Type} {M : Model} {Γ : PySem.Ctx} (t : Sem α) : ∀ {Q : α → Pos → Shared → Prop} {E : Value → Pos → Shared → Prop} {p : Pos} {s : Shared}, Sem.wp M Γ t Q E p s → Sem.wp M Γ t (fun a p' s' => s.toks ≤ s'.toks ∧ Q a p' s') E p s := by
  have up : ∀ {t : Sem α} {Q : α → Pos → Shared → Prop} {E : Value → Pos → Shared → Prop} {p : Pos} {s1 s : Shared}, s.toks ≤ s1.toks → Sem.wp M Γ t (fun a p' s' => s1.toks ≤ s'.toks ∧ Q a p' s') E p s1 → Sem.wp M Γ t (fun a p' s' => s.toks ≤ s'.toks ∧ Q a p' s') E p s1 := fun {t Q E p s1 s} hl h =>
    Sem.wp_mono M Γ t (fun _ _ _ z => ⟨Nat.le_trans hl z.1, z.2⟩) (fun _ _ _ z => z) p s1 h
  induction t with
  | pure a => intro Q E p s h; simp only [Sem.wp] at h ⊢; exact ⟨Nat.le_refl _, h⟩
  | raise e => intro Q E p s h; simp only [Sem.wp] at h ⊢; exact h
  | call c hd g l k ih =>
    intro Q E p s h
    simp only [Sem.wp] at h ⊢
    obtain ⟨r, s1, hr, h⟩ := h
    exact ⟨r, s1, hr, up (runs_toks hr) (ih r h)⟩
  | resume g r l k ih =>
    intro Q E p s h
    simp only [Sem.wp] at h ⊢
    obtain ⟨res, s1, hr, h⟩ := h
    exact ⟨res, s1, hr, up (wakes_toks hr) (ih res h)⟩
  | fresh k ih =>
    intro Q E p s h
    simp only [Sem.wp] at h ⊢
    exact up (Nat.le_succ _) (ih _ h)
  | load a pt k ih =>
    intro Q E p s h
    simp only [Sem.wp] at h ⊢
    obtain ⟨o, ho, h⟩ := h
    exact ⟨o, ho, ih _ h⟩
  | genState g k ih =>
    intro Q E p s h
    simp only [Sem.wp] at h ⊢
    obtain ⟨o, ho, h⟩ := h
    exact ⟨o, ho, ih _ h⟩
  | update a pt f k ih =>
    intro Q E p s h
    simp only [Sem.wp] at h ⊢
    exact ⟨h.1, up (Nat.le_refl _) (ih _ h.2)⟩
  | choose src n k ih =>
    intro Q E p s h
    simp only [Sem.wp] at h ⊢
    exact ⟨h.1, up (Nat.le_refl _) (ih _ h.2)⟩
  | _ =>
    intro Q E p s h
    simp only [Sem.wp] at h ⊢
    try (rename_i ih; exact up (Nat.le_refl _) (ih _ h))
theorem any_toks {α : Type} {M : Model} {A : Around} {t : Sem α} {Q : α → Shared → Prop} {E : Value → Shared → Prop} {s : Shared} (h : wpAny M A t Q E s) : wpAny M A t (fun a s' => s.toks ≤ s'.toks ∧ Q a s') E s := fun Γ p hΓ => wp_toks t (h Γ p hΓ)

/-- not a private int -/
def TokOk : Value → Prop
  | .int _ t => t ≠ 0
  | _ => True
structure WEp (X : Cx) (e : Expr) (σ : L2.St) (H : Hp) (Q : VK) : Prop where
  run : ∀ (pins : List (Addr × Obj)) (s : Shared), Inv X pins σ H s → wpAny (model X.prog X.w) X.A (eval e X.env) (fun u s' => EP X pins σ Q u s' ∧ 0 < s'.toks) X.xe s
structure WEt (X : Cx) (e : Expr) (σ : L2.St) (H : Hp) (Q : VK) : Prop where
  run : ∀ (pins : List (Addr × Obj)) (s : Shared), Inv X pins σ H s → wpAny (model X.prog X.w) X.A (eval e X.env) (fun u s' => EP X pins σ Q u s' ∧ TokOk u) X.xe s
structure WLt (X : Cx) (sts : List Stmt) (D : Ends) (σ : L2.St) (H : Hp) : Prop where
  run : ∀ (pins : List (Addr × Obj)) (s : Shared), Inv X pins σ H s → wpAny (model X.prog X.w) X.A (execs sts X.env) (fun fl s' => SP X pins D fl s' ∧ ∃ u, fl = .ret u ∧ TokOk u) X.xe s
section
variable {X : Cx} {a b c e : Expr} {es : List Expr} {st : Stmt} {rest : List Stmt} {D : Ends} {σ : L2.St} {H : Hp} {Q : VK} {pos : Pos}
theorem WEt.imp {Q' : VK} (h : WEt X e σ H Q) (q : ∀ v H', Q v H' → Q' v H') : WEt X e σ H Q' :=
  ⟨fun pins s I => thn (h.run pins s I) fun _ _ ⟨⟨v, H', I', r, z⟩, k⟩ => ⟨⟨v, H', I', r, q v H' z⟩, k⟩⟩
theorem wep_mul (h : WE X a σ H fun x H1 => WE X b σ H1 fun y H2 => ∃ i j, x = .int i ∧ y = .int j ∧ IntMulOk i j ∧ Q (.int (i * j)) H2) : WEp X (.BinOp a .Mult b pos) σ H Q :=
  ⟨fun pins s I => wpAny_BinOp (thn (h.run pins s I) fun v s1 ⟨x, H1, I1, r1, q1⟩ => thn (q1.run pins s1 I1) fun u s2 ⟨y, H2, I2, r2, i, j, ex, ey, hm, q2⟩ => by
    subst ex; subst ey
    obtain ⟨t, rfl⟩ := r1
    obtain ⟨t', rfl⟩ := r2
    exact mul_int ⟨⟨.int (i * j), H2, I2.tok _, ⟨_, rfl⟩, q2⟩, Nat.succ_pos _⟩ hm)⟩
theorem wet_add (h : WEp X a σ H fun x H1 => WE X b σ H1 fun y H2 => ∃ i j, x = .int i ∧ y = .int j ∧ Q (.int (i + j)) H2) : WEt X (.BinOp a .Add b pos) σ H Q :=
  ⟨fun pins s I => wpAny_BinOp (thn (h.run pins s I) fun v s1 ⟨⟨x, H1, I1, r1, q1⟩, hp⟩ => thn (any_toks (q1.run pins s1 I1)) fun u s2 ⟨hl, y, H2, I2, r2, i, j, ex, ey, q2⟩ => by
    subst ex; subst ey
    obtain ⟨t, rfl⟩ := r1
    obtain ⟨t', rfl⟩ := r2
    exact add_int ⟨⟨.int (i + j), H2, I2.tok _, ⟨_, rfl⟩, q2⟩, Nat.ne_of_gt (Nat.lt_of_lt_of_le hp hl)⟩)⟩
theorem wlt_cons (h : WS X st { nx := fun σ' H' => WLt X rest D σ' H', rt := fun _ _ => False } σ H) : WLt X (st :: rest) D σ H :=
  ⟨fun pins s I => wpAny_execs_cons (thn (h.run pins s I) fun f s1 q => by
    cases f with
    | next =>
      obtain ⟨σ', H', I', q⟩ := q
      exact q.run pins s1 I'
    | ret v => obtain ⟨_, _, _, _, _, q⟩ := q; exact q.elim
    | brk => obtain ⟨_, _, _, q⟩ := q; exact q.elim
    | cont => obtain ⟨_, _, _, q⟩ := q; exact q.elim)⟩
theorem wlt_ret (h : WEt X e σ H D.rt) : WLt X (.Return (some e) pos :: rest) D σ H :=
  ⟨fun pins s I => wpAny_execs_cons (wpAny_Return_some (thn (h.run pins s I) fun v s1 ⟨⟨x, H1, I1, r1, q1⟩, k⟩ => ⟨⟨x, σ, H1, I1, r1, q1⟩, v, rfl, k⟩))⟩
theorem wlt_start {σ' : L2.St} {sts : List Stmt} (e : σ = σ') (h : WLt X sts D σ' H) : WLt X sts D σ H := e ▸ h
end
/-- a def's promise that its result is no private int -/
def FnT (P : Program) (w : World) (K : PySem.W.Frag) (mg : Str → Option Value) (base : Heap) (k : Nat) (f : Addr) (sp : Sp) : Prop :=
  ∀ (A : Around) (outer : List Env) (s : Shared) (H : Hp) (us : List Value) (vs : List V) (Q : VK) (E : XK), Room k A → Env0 P w K mg base A outer s H → Vals vs us → sp vs H Q E →
    codeAny (model P w) A (.call (.ref f) ⟨us, []⟩) (fun r s' => CR (L2.CX P w) outer P w H s Q E r s' ∧ ∀ u, r = .ok (.ret u) → TokOk u) s
section
variable {P : Program} {w : World} {K : PySem.W.Frag} {mg : Str → Option Value} {base : Heap} {N ps L G B : List Str} {k : Nat} {x qual : Str} {params : Arguments} {body : List Stmt} {sc : Scope} {f : Addr} {fd : FuncData} {sp : Sp}
theorem fnt_of (F : FunD K x qual params body sc [] [] f fd) (S : scB N ps L G B sc = true) (len : ∀ vs H Q E, sp vs H Q E → vs.length = ps.length)
    (hbind : ∀ (kV doc pm : Value) (an : Option Addr) (cdv ct : Value) (us : List Value), us.length = ps.length → bindArgs (PySem.W.fnOf x qual params body sc .none kV doc pm an cdv ct) ⟨us, []⟩ = pure (ps.zip us))
    (hb : ∀ x ∈ B, mg x = none)
    (hbody : ∀ (cd : Value) (A : Around) (outer : List Env) (s : Shared) (H : Hp) (vs : List V) (Q : VK) (E : XK), Room k (cx P w K mg base N qual sc f cd A outer s H E).A → Nm (cx P w K mg base N qual sc f cd A outer s H E) N L L G B → sp vs H Q E →
      WLt (cx P w K mg base N qual sc f cd A outer s H E) body { nx := fun _ H' => Q .non H', rt := Q } (start N vs) H) : FnT P w K mg base (k + 1) f sp := by
  have Sc := (scB_ok S).1
  intro A outer s H us vs Q E hr e0 r hsp
  have hbd := F.bindsN hbind
  obtain ⟨oc, od, dV, kV, doc, pm, an, cdv, ct, osl, rfl, lk, hcd, hD, _⟩ := F.ex
  have hl := len _ _ _ _ hsp
  have inK : K.In s.heap := e0.mod.kin.keeps fun b o e => (e0.bs b o e).1
  have nolim : s.heap.NoLimit := e0.mod.nolimit.keeps fun b o e => (e0.bs b o e).1
  have kinds : ∀ y ∈ ps.zip us, sc.names.lookup y.1 = some .local ∨ (sc.names.lookup y.1 = some .cell ∧ ((cellsFrom (s.heap.objs.size + 1) sc.names []).lookup y.1).isSome = true) := fun ⟨n, v⟩ hy => by
    rcases Sc.par n (List.of_mem_zip hy).1 with q | q
    · exact .inl q
    · exact .inr ⟨q, PySem.W.cellsFrom_some _ _ _ (.inl q)⟩
  have hul : us.length = ps.length := by rw [← r.length]; exact hl
  have bt : BindsTo s (PySem.W.fnOf x qual params body sc dV kV doc pm an cdv ct) ⟨us, []⟩ (ps.zip us) := by
    have z := hbd s us inK (by simpa using hul)
    simpa using z
  refine codeAny_call_function hr.depth (inK _ _ lk) rfl Sc.co Sc.gen rfl (PySem.W.codeRec_of inK hcd) (bt _ _ _ _ ?_)
  refine wpAny_newFunctionEnv_cells Sc.kind kinds fun env he s1 xc => ?_
  subst he
  refine ⟨nolim.keeps xc.toInCall.keep, codeAny_func ?_⟩
  have hw := hbody cdv A outer s H vs Q E (hr.deeper _) (nm_of S hb) hsp
  have I1 : Inv (cx P w K mg base N qual sc f cdv A outer s H E) [] (start N vs) H s1 := inv_start Sc hr.hd e0 hl r xc
  refine wpAny_mono (hw.run [] s1 I1) (fun fl s' hs => ?_) fun e s' hs => wpAny_mono hs (fun _ s'' z => ⟨z, fun u z => (nomatch z)⟩) fun e' s'' z => ⟨z, fun u z => (nomatch z)⟩
  obtain ⟨hs, u, rfl, tk⟩ := hs
  obtain ⟨v, σ', H', J, rv, q⟩ := hs
  exact ⟨⟨v, H', J.os, J.bare, J.base, J.hok, rv, q⟩, fun u' z => by injection z with z; injection z with z; rw [← z]; exact tk⟩
end
theorem FnT.fnr {P : Program} {w : World} {K : PySem.W.Frag} {mg : Str → Option Value} {base : Heap} {k : Nat} {f : Addr} {sp : Sp} (F : FnT P w K mg base k f sp) : FnR P w K mg base (L2.CX P w) k f sp :=
  fun A outer s H us vs Q E hr e0 r hsp => codeAny_mono (F A outer s H us vs Q E hr e0 r hsp) fun _ _ z => z.1
/-- a method of that kind -/
structure MtT (P : Program) (w : World) (K : PySem.W.Frag) (mg : Str → Option Value) (base : Heap) (C : Addr) (m : Str) (k : Nat) (sp : Sp) : Prop where
  ex : ∃ f, Cls K C ∧ Meth K C m f ∧ FnT P w K mg base k f sp
theorem MtT.mth {P : Program} {w : World} {K : PySem.W.Frag} {mg : Str → Option Value} {base : Heap} {C : Addr} {m : Str} {k : Nat} {sp : Sp} (F : MtT P w K mg base C m k sp) : Mth P w K mg base C m k sp := by
  obtain ⟨f, h1, h2, h3⟩ := F.ex
  exact ⟨f, h1, h2, h3.fnr⟩
section
variable {X : Cx} {o e : Expr} {es : List Expr} {σ : L2.St} {H : Hp} {Q : VK} {m : Str} {apos pos : Pos}
theorem wet_meth {C : Addr} {k j : Nat} {sp : Sp} {E : XK} {pl : Sem Bool} (F : MtT X.prog X.w X.K X.mg X.base C m k sp) (hr : Room j X.A) (hj : k ≤ j) (hx : Passes (L2.CX X.prog X.w) X E)
    (h : WE X o σ H fun x H1 => ∃ a dx fs, x = .ref a ∧ H1 a = some (.ins C dx fs) ∧ fs.lookup m = none ∧ WA X (e :: es) σ H1 fun vs H2 => sp (.ref a :: vs) H2 Q E)
    (hst : starEach (e :: es) X.env = (false, eval e X.env) :: starEach es X.env := by with_unfolding_all rfl) (hpl : (backTo pos (starEach es X.env)).any (·.1) = false := by with_unfolding_all rfl)
    (ht : eval (.Call (.Attribute o m apos) (e :: es) [] pos) X.env = (do
      let ov ← eval o X.env
      standAt apos.atName
      let (f, first) ← holding [ov] (getMethod ov m pl)
      callWith pos f first (backTo pos (starEach (e :: es) X.env)) (backToKw pos (keywordEach [] X.env))) := by with_unfolding_all rfl) : WEt X (.Call (.Attribute o m apos) (e :: es) [] pos) σ H Q := by
  obtain ⟨f, c, hm, F⟩ := F.ex
  refine ⟨fun pins s I => ?_⟩
  refine PySem.W.methodCall_KW (pl := pl) (thn (h.run pins s I) fun u s1 ⟨x, H1, I1, rx, a, dx, fs, ex, ea, l, q⟩ => ?_) ht
  subst ex
  obtain rfl : u = Value.ref a := rx
  refine getmeth_ok I1 ea c hm l ?_
  refine PySem.W.callWith_K (first := [.ref a]) (h₀ := X.base) I.ok.mod.kin hm.kp (thn (q.run pos pins s1 I1) fun us s2 ⟨vs, H2, I2, r, q2⟩ => ⟨I2.kIn, ?_⟩) hst hpl
  refine wpAny_call (codeAny_mono (F X.A X.stack s2 H2 (.ref a :: us) (.ref a :: vs) Q E (hr.mono hj) I2.env0 (.cons rfl r) q2) fun rr s' hq => ?_)
  cases rr with
  | error er => exact hx pins σ H2 s2 er s' I2 hq.1
  | ok fl =>
    cases fl with
    | ret u => exact ⟨I2.after hq.1, hq.2 u rfl⟩
    | next => exact False.elim hq.1
    | brk => exact False.elim hq.1
    | cont => exact False.elim hq.1
end
end Sv

/-! lists of ints that python made: their comprehension, their length -/
namespace Sv
open PySem PySem.Spec PyProof.Rows L2

def lstP (D : Addr) (xs : List V) (h : Heap) : Prop := ∃ (its : List Value) (n : Nat), Vals xs its ∧ (∀ u ∈ its, TokOk u) ∧ xs.length ≤ sizeLine ∧ h.get? D = some { cls := .type "list", data := .seq its.toArray n }
def LstT (D : Addr) (xs : List V) : HO := .ext (lstP D xs)
theorem lstT_ok {P : Program} {w : World} {H : Hp} {h : Heap} {D : Addr} {xs : List V} (z : lstP D xs h) : ObjOk P w H h D (LstT D xs) := by
  obtain ⟨its, n, r, k, l, e⟩ := z
  exact ⟨⟨its, n, r, k, l, e⟩, ⟨_, e⟩, fun h1 h2 ⟨its, n, r, k, l, e⟩ q => ⟨its, n, r, k, l, q _ e⟩⟩
theorem lstT_get {X : Cx} {pins : List (Addr × Obj)} {σ : L2.St} {H : Hp} {s : Shared} {D : Addr} {xs : List V} (I : Inv X pins σ H s) (h : H D = some (LstT D xs)) : lstP D xs s.heap := by
  obtain ⟨z, _, _⟩ := (show ObjOk X.prog X.w H s.heap D (LstT D xs) from I.hok D _ h)
  exact z
/-- told as a list -/
theorem lstT_abs {H : Hp} {D : Addr} {xs : List V} (h : H D = some (LstT D xs)) : Abs H (upd H D (.lst xs)) := fun X pins σ s I => by
  obtain ⟨its, n, r, k, l, e⟩ := lstT_get I h
  exact swap_ho I h rfl ⟨l, its, n, r, e⟩
section
variable {X : Cx} {pins : List (Addr × Obj)} {σ : L2.St} {H : Hp} {s : Shared}
theorem app_t {E : Value → Shared → Prop} {D : Addr} {xs : List V} {y : V} {v : Value} {Q : Value → Shared → Prop} (I : Inv X pins σ H s) (hD : H D = some (LstT D xs)) (hz : xs.length < sizeLine) (r : RelV y v) (tk : TokOk v)
    (q : ∀ s', Inv X pins σ (upd H D (LstT D (xs ++ [y]))) s' → Q .none s') : wpAny (model X.prog X.w) X.A (call (.builtin "list.append") [.ref D, v]) Q E s := by
  obtain ⟨its, n, ri, ki, _, e⟩ := lstT_get I hD
  have I0 := lstT_abs hD X pins σ s I
  have hl := ri.length
  refine append_at (hsz := by rw [List.size_toArray]; omega) e fun h' sb ho' => ?_
  have new : lstP D (xs ++ [y]) h' := ⟨its ++ [v], n + 1, ri.append (.cons r .nil), fun u hu => by
    rcases List.mem_append.mp hu with z | z
    · exact ki u z
    · rw [List.mem_singleton.mp z]; exact tk, by rw [List.length_append]; exact hz, by rw [ho']; simp⟩
  have I2 := I0.write (h' := h') (t' := s.toks) (x := D) (e := D) (o := LstT D (xs ++ [y])) (by rw [upd_same]; trivial) (.inl rfl) (fun b u hb q => (sb.2 b hb).trans q) ⟨_, ho'⟩ (lstT_ok new)
  rw [upd_upd] at I2
  exact q _ I2
end
def WEtb (X : Cx) (scope : Scope) (e : Expr) (σ : L2.St) (H : Hp) (Q : VK) : Prop := ∀ X', Blk X scope X' → WEt X' e σ H Q
theorem w_lct {X : Cx} {N L S G B : List Str} {tg elt iter : Expr} {ifs : List Expr} {scope : Scope} {own : List (Str × Nat)} {σ : L2.St} {H : Hp} {Q : VK} {pos : Pos} (c : Nm X N L S G B) (ok0 : blkC N X.env.scope scope own = true) (P : Nat → List V → Prop)
    (h : WI X tg iter σ H fun J H1 => ∃ n it, Wlk J n it H1 ∧ n < sizeLine ∧ P 0 [] ∧
      (∀ i acc H', i < n → acc.length ≤ i → P i acc → Same H1 H' → WGb X scope tg (it i) (wipe σ (own.map (·.2))) H' fun σ2 H2 => H2 = H' ∧ wipe σ2 (own.map (·.2)) = wipe σ (own.map (·.2)) ∧ WTb X scope ifs σ2 H2 fun k H3 => Same H2 H3 ∧
        if k = true then WEtb X scope elt σ2 H3 fun y H4 => Same H3 H4 ∧ P (i + 1) (acc ++ [y]) else P (i + 1) acc) ∧
      ∀ acc D H', acc.length ≤ n → P n acc → H1 D = none → Same H1 H' → H' D = some (LstT D acc) → Q (.ref D) H')
    (hs : ∀ x, foldedSetIterable iter X.env x = pure x := by intro _; with_unfolding_all rfl) : WE X (.ListComp elt [⟨tg, iter, ifs, 0⟩] scope pos) σ H Q := by
  have hN : X.N.Nodup := by rw [c.names]; exact c.nd
  have ok : BlkOk X.N X.env.scope scope own := by rw [c.names]; exact blkOk_by ok0
  have hc := c.calm
  refine ⟨fun pins s I => ?_⟩
  rw [eval_ListComp]
  have hfr : ∀ y ∈ scope.names, y.2 = .free → ∃ c, X.env.cells.lookup y.1 = some c := fun y hy e => by
    rcases ok.free y hy e with k | k
    · exact I.ok.has _ (.inl k)
    · exact I.ok.has _ (.inr k)
  refine wpAny_comprehension_free (use := none) rfl hs (closure_ok hfr) ok.kind (fun y hy e => by rw [ok.uniq y hy, e])
    (thn (h.run pins s I) fun xv s1 hx => thn hx fun itv s2 h2 => ?_)
  obtain ⟨it, fp, tn, J, H2, e, I2, T, st2, f2, n, itm, W, hz, p0, hst, hd⟩ := h2
  subst e
  refine wpAny_newObj_type (newEnv_comp ?_) (by show 0 ≤ sizeLine; decide)
  generalize hD : s2.heap.objs.size = D
  have hDn : H2 D = none := I2.hok.fresh (Nat.le_of_eq hD)
  -- the empty list
  generalize hs3 : ({ s2 with heap := s2.heap.push { cls := .type "list", data := .seq ([] : List Value).toArray } } : Shared) = s3
  have I3 : Inv X pins σ (upd H2 D (LstT D [])) s3 := by
    rw [← hs3]
    refine I2.laid (t' := s2.toks) (fun b o e => Heap.get?_push_of_some _ e) (Nat.le_of_eq hD) (lstT_ok ⟨[], 0, .nil, (fun u hu => nomatch hu), Nat.zero_le _, ?_⟩)
    rw [← hD]
    exact Heap.get?_push_size _ rfl
  have h3 : s3.heap = s2.heap.push { cls := .type "list", data := .seq ([] : List Value).toArray } := by rw [← hs3]
  have sz : ∀ b ∈ fp, b < s2.heap.objs.size := fun b hb => by
    obtain ⟨o, e, _⟩ := T.obj _ _ st2 b hb
    exact Heap.lt_size e
  have f3 : ∀ b ∈ fp, FpOk X pins (upd H2 D (LstT D [])) b ∧ b < s3.heap.objs.size := fun b hb => by
    have hlt := sz b hb
    refine ⟨⟨?_, (f2 b hb).2⟩, by rw [h3, Heap.size_push]; exact Nat.lt_succ_of_lt hlt⟩
    rw [upd_ne (by rw [← hD]; exact Nat.ne_of_lt hlt)]
    exact (f2 b hb).1
  have st3 : tn 0 s3.heap := T.keep _ _ _ st2 fun b _ o e => by rw [h3]; exact Heap.get?_push_of_some _ e
  have I4 := block_start I3 ok hN f3
  have w0 : ∃ acc, acc.length ≤ 0 ∧ P 0 acc ∧ Same H2 (upd H2 D (LstT D [])) ∧ (upd H2 D (LstT D [])) D = some (LstT D acc) := ⟨[], Nat.le_refl _, p0, same_new hDn, upd_same⟩
  have bk : Blk X scope (X.blk s3 (upd H2 D (LstT D [])) scope (compEnvC scope (cellsFrom (s3.heap.objs.size + 1) scope.names (cloFrom X.env.cells scope.names [])) s3.heap.objs.size X.env) fp) := ⟨_, _, _, _, _, rfl⟩
  show codeAny _ _ (.compStart (.ListComp elt [⟨tg, iter, ifs, 0⟩] scope pos) 0 (.ref it) (.ref D) (compEnvC scope (cellsFrom (s3.heap.objs.size + 1) scope.names (cloFrom X.env.cells scope.names [])) s3.heap.objs.size X.env)) (compPost (model X.prog X.w) X.A X.xe none (EP X pins σ Q) (.ref D) s3.heap.objs.size) { s3 with heap := pushCells (s3.heap.push { cls := .type "dict", data := .dict #[] }) scope.names }
  have nfp : ∀ b ∈ fp, (upd H2 D (LstT D [])) b = none := fun b hb => (f3 b hb).1.1
  generalize hce : compEnvC scope (cellsFrom (s3.heap.objs.size + 1) scope.names (cloFrom X.env.cells scope.names [])) s3.heap.objs.size X.env = ce at I4 bk ⊢
  have cL : ce.locals = s3.heap.objs.size := by subst hce; rfl
  generalize hH3 : upd H2 D (LstT D []) = H3 at I3 I4 bk w0 nfp f3
  generalize hs4 : ({ s3 with heap := pushCells (s3.heap.push { cls := .type "dict", data := .dict #[] }) scope.names } : Shared) = s4 at I4 ⊢
  have st4 : tn 0 s4.heap := T.keep _ _ _ st3 fun b _ o e => by rw [← hs4]; exact pushCells_keeps _ _ _ _ (Heap.get?_push_of_some _ e)
  have stat : ∀ {σ' : L2.St} {H' : Hp} {s' : Shared}, Inv (X.blk s3 H3 scope ce fp) [] σ' H' s' → (∀ b ∈ fp, H' b = none) → ∀ b ∈ fp, FpOk (X.blk s3 H3 scope ce fp) [] H' b := fun {σ' H' s'} I' hn b hb =>
    ⟨hn b hb, (I'.ok.exf b hb).1, I'.ok.exfs b hb, .inl hb, fun x c e => (I'.ok.exf b hb).2 x c e, fun p hp => absurd (show p ∈ ([] : List (Addr × Obj)) ++ [] from hp) (by simp)⟩
  have loop : codeAny (model X.prog X.w) X.A (.compLoop (.ListComp elt [⟨tg, iter, ifs, 0⟩] scope pos) 0 (.ref it) (.ref D) ce) (compPost (model X.prog X.w) X.A X.xe none (EP X pins σ Q) (.ref D) s3.heap.objs.size) s4 := by
    refine compLoop_any (fun m s' => ∃ i H', Inv (X.blk s3 H3 scope ce fp) [] (wipe σ (own.map (·.2))) H' s' ∧ tn i s'.heap ∧ (∀ b ∈ fp, H' b = none) ∧ m = n - i ∧ i ≤ n ∧ ∃ acc, acc.length ≤ i ∧ P i acc ∧ Same H2 H' ∧ H' D = some (LstT D acc)) ?_ n ⟨0, H3, I4, st4, nfp, by simp, Nat.zero_le _, w0⟩
    rintro m s5 ⟨i, H5, I5, st5, n5, rfl, hi, acc, hl, hp, hsm, hDa⟩
    by_cases hlt : i < n
    · have ti := T.item (X.blk s3 H3 scope ce fp) rfl rfl rfl hc i [] s5 _ H5 (fun _ _ => False) I5 (stat I5 n5) st5 (W.go i H5 hlt hsm)
      refine thnF ti fun r s6 ⟨u, hr, h6⟩ => ?_
      subst hr
      refine thnF h6 fun _ s7 ⟨x, H7, I7, r7, y7, st7, n7⟩ => ?_
      obtain ⟨rfl, rfl⟩ := W.yld i H5 x H7 hlt hsm y7
      have I7' := I7.pinned (stat I7 n7) (T.obj _ _ st7)
      refine thnF ((hst i acc H7 hlt hl hp hsm _ bk).run _ s7 u I7' r7) fun _ s8 ⟨σ8, H8, I8, e8, hw8, q8⟩ => ?_
      subst e8
      refine thnF ((q8 _ bk).run _ s8 I8) fun b s9 ⟨H9, I9, e9, q9⟩ => ?_
      -- the end of the turn
      have fin : ∀ {s' : Shared} {H' : Hp} {acc' : List V}, Inv (X.blk s3 H3 scope ce fp) ([] ++ pinsAt fp s7.heap) σ8 H' s' → acc'.length ≤ i + 1 → P (i + 1) acc' → Same H2 H' → H' D = some (LstT D acc') →
          ∃ m, m < n - i ∧ ∃ i H', Inv (X.blk s3 H3 scope ce fp) [] (wipe σ (own.map (·.2))) H' s' ∧ tn i s'.heap ∧ (∀ b ∈ fp, H' b = none) ∧ m = n - i ∧ i ≤ n ∧ ∃ acc, acc.length ≤ i ∧ P i acc ∧ Same H2 H' ∧ H' D = some (LstT D acc) := fun {s' H' acc'} I' a1 a2 a3 a4 => by
        have pin' : ∀ b ∈ fp, ∀ o, s7.heap.get? b = some o → s'.heap.get? b = some o ∧ H' b = none := fun b hb o e =>
          let z := I'.pin (b, o) (List.mem_append_right _ (List.mem_append_right _ (mem_pinsAt hb e)))
          ⟨z.1, z.2.1⟩
        have hl : (wipe σ (own.map (·.2))).length = σ8.length := by rw [← hw8, wipe_length]
        refine ⟨n - (i + 1), by omega, i + 1, H', (I'.unpinned (pins := [])).weak hl (fun j v e => ?_), T.keep _ _ _ st7 fun b hb o e => (pin' b hb o e).1, fun b hb => ?_, rfl, hlt, acc', a1, a2, a3, a4⟩
        · rw [← hw8] at e
          exact (wipe_some e).1
        · obtain ⟨o, e, _⟩ := T.obj _ _ st7 b hb
          exact (pin' b hb o e).2
      cases b with
      | false =>
        simp only [Bool.false_eq_true, if_false] at q9 ⊢
        exact fin I9 (Nat.le_succ_of_le hl) q9 (hsm.trans e9) (e9 _ _ hDa)
      | true =>
        simp only [if_true] at q9 ⊢
        refine thnF ((q9 _ bk).run _ s9 I9) fun z s10 ⟨⟨yv, H10, I10, r10, e10, q10⟩, tk⟩ => ?_
        refine app_t (X := X.blk s3 H3 scope ce fp) I10 (e10 _ _ (e9 _ _ hDa)) (by omega) r10 tk fun s11 I11 => fin I11 (by rw [List.length_append]; show acc.length + 1 ≤ i + 1; omega) q10 (same_mut (hsm.trans (e9.trans e10)) hDn) upd_same
    · have ei : i = n := by omega
      subst ei
      have td := T.done (X.blk s3 H3 scope ce fp) rfl rfl rfl hc i [] s5 _ H5 (fun _ _ => False) I5 (stat I5 n5) st5 (W.stop _ _ (Nat.le_refl _) hsm)
      refine thnF td fun r s6 ⟨hr, I6⟩ => ?_
      subst hr
      have I7 : Inv X pins σ H5 s6 := I3.call' (ch := fp) I6.os I6.base I6.hok I6.bare fun b hb => ⟨(f3 b hb).1.2.2.2.1, (f3 b hb).1.2.1, (f3 b hb).1.2.2.2.2.1, (f3 b hb).1.2.2.2.2.2⟩
      have nC : H5 s3.heap.objs.size = none := by
        have z : H5 ce.locals = none := I6.free
        rw [cL] at z
        exact z
      obtain ⟨mm, hn, _⟩ := I6.loc
      have hn : s6.heap.Ns ce.locals mm := hn
      rw [cL] at hn
      obtain ⟨g0, g1, g2, g3, g4, g5⟩ := I3.fpOk (Nat.le_refl _) nC
      refine ⟨mm, hn, fun h'' sb => ?_⟩
      exact ⟨.ref D, H5, I7.turned (t' := s6.toks) (fun b o hb e => (sb.2 b hb).trans e) g0 g1 g3 g4 g5, rfl, hd acc D H5 hl hp hDn hsm hDa⟩
  exact codeAny_compStart_list loop (T.self X.A 0 _ _ _ st4 loop)
section
variable {X : Cx} {σ : L2.St} {H : Hp} {Q : VK}
theorem c_lenT {D : Addr} {xs : List V} (h : H D = some (LstT D xs)) (q : Q (.int xs.length) H) : WC X (.builtin "len") [.ref D] σ H Q := by
  refine ⟨fun pins s us I rv => ?_⟩
  obtain rfl := Vals.ref1 rv
  obtain ⟨its, n, r, k, l, e⟩ := lstT_get I h
  have hlen := r.length
  have hl := line63
  exact Calls.call_len_list (items := its.toArray) ⟨_, e, rfl, n, rfl⟩ (by simp only [List.size_toArray]; omega) ⟨.int xs.length, H, I.tok _, ⟨_, by simp only [List.size_toArray]; rw [hlen]⟩, q⟩
end
end Sv

/-! sets of ints of any size (below 12000): the scan and the hash table behind it -/
namespace Sv
open PySem PySem.Spec PyProof.Rows L2

def MokS (m : Nat) : Prop := m = 7 ∨ m = 31 ∨ m = 127 ∨ m = 511 ∨ m = 2047 ∨ m = 8191 ∨ m = 32767
theorem MokS.mok {m : Nat} (h : MokS m) : Mok m := by
  rcases h with rfl | rfl | rfl | rfl | rfl | rfl | rfl
  · exact ⟨3, by decide, by decide, rfl⟩
  · exact ⟨5, by decide, by decide, rfl⟩
  · exact ⟨7, by decide, by decide, rfl⟩
  · exact ⟨9, by decide, by decide, rfl⟩
  · exact ⟨11, by decide, by decide, rfl⟩
  · exact ⟨13, by decide, by decide, rfl⟩
  · exact ⟨15, by decide, by decide, rfl⟩
theorem sz5 : SetTable.sizeAbove (SetTable.grown 5) = 32 := by decide +kernel
theorem sz19 : SetTable.sizeAbove (SetTable.grown 19) = 128 := by decide +kernel
theorem sz77 : SetTable.sizeAbove (SetTable.grown 77) = 512 := by decide +kernel
theorem sz307 : SetTable.sizeAbove (SetTable.grown 307) = 2048 := by decide +kernel
theorem sz1229 : SetTable.sizeAbove (SetTable.grown 1229) = 8192 := by decide +kernel
theorem sz4915 : SetTable.sizeAbove (SetTable.grown 4915) = 32768 := by decide +kernel
theorem grow_ok {m l : Nat} (h : MokS m) (h1 : l * 5 < m * 3) (h2 : m * 3 ≤ (l + 1) * 5) (h3 : l + 1 ≤ 12000) : ∃ M, SetTable.sizeAbove (SetTable.grown (l + 1)) - 1 = M ∧ MokS M ∧ (l + 1) * 5 < M * 3 ∧ SetTable.sizeAbove (SetTable.grown (l + 1)) ≤ 32768 ∧ l + 1 ≤ M := by
  rcases h with rfl | rfl | rfl | rfl | rfl | rfl | rfl
  · obtain rfl : l = 4 := by omega
    exact ⟨31, by rw [sz5], .inr (.inl rfl), by decide, by rw [sz5]; decide, by decide⟩
  · obtain rfl : l = 18 := by omega
    exact ⟨127, by rw [sz19], .inr (.inr (.inl rfl)), by decide, by rw [sz19]; decide, by decide⟩
  · obtain rfl : l = 76 := by omega
    exact ⟨511, by rw [sz77], .inr (.inr (.inr (.inl rfl))), by decide, by rw [sz77]; decide, by decide⟩
  · obtain rfl : l = 306 := by omega
    exact ⟨2047, by rw [sz307], .inr (.inr (.inr (.inr (.inl rfl)))), by decide, by rw [sz307]; decide, by decide⟩
  · obtain rfl : l = 1228 := by omega
    exact ⟨8191, by rw [sz1229], .inr (.inr (.inr (.inr (.inr (.inl rfl))))), by decide, by rw [sz1229]; decide, by decide⟩
  · obtain rfl : l = 4914 := by omega
    exact ⟨32767, by rw [sz4915], .inr (.inr (.inr (.inr (.inr (.inr rfl))))), by decide, by rw [sz4915]; decide, by decide⟩
  · omega
/-- ints that are their own hashes -/
def Sm (k : Int) : Prop := 0 ≤ k ∧ k < 1152921504606846976
theorem raw_sm {k : Int} (h : Sm k) : rawHash k = k := by
  obtain ⟨h1, h2⟩ := h
  have e : k.natAbs % (2 ^ 61 - 1 : Nat) = k.natAbs := Nat.mod_eq_of_lt (by omega)
  have e2 : ((k.natAbs % (2 ^ 61 - 1 : Nat) : Nat) : Int) = k := by rw [e]; omega
  show (if (if k < 0 then -((k.natAbs % (2 ^ 61 - 1 : Nat) : Nat) : Int) else ((k.natAbs % (2 ^ 61 - 1 : Nat) : Nat) : Int)) == -1 then -2 else (if k < 0 then -((k.natAbs % (2 ^ 61 - 1 : Nat) : Nat) : Int) else ((k.natAbs % (2 ^ 61 - 1 : Nat) : Nat) : Int))) = k
  rw [e2, if_neg (show ¬ k < 0 by omega), if_neg (by simp; omega)]
theorem hash_sm {k : Int} (h : Sm k) : hashInt k = k := by
  unfold hashInt
  rw [raw_sm h, if_neg (by have := h.1; simp; omega)]

def brow (p : Int × Tok) : Int × Value := (hashInt p.1, .int p.1 p.2)
abbrev hsh (L : List (Int × Tok)) : List Int := L.map fun p => hashInt p.1
structure BigR (h : Heap) (a : Addr) (L : List (Int × Tok)) (es : Array (Int × Value)) (ep : Nat) (t : SetTable) : Prop where
  ob : ∃ o, h.get? a = some o ∧ o.ExactSet ∧ o.data = .set es ep t
  rows : es.toList = L.map brow
  tab : TabK t (hsh L)
  nd : (L.map (·.1)).Nodup
  good : ∀ p ∈ L, Sm p.1 ∧ p.2 ≠ 0
  room : L.length * 5 < t.mask * 3
  msk : MokS t.mask
  few : L.length ≤ 12000
section
variable {P : Program} {w : World} {A : Around} {E : Value → Shared → Prop} {s : Shared} {a : Addr} {L : List (Int × Tok)} {es : Array (Int × Value)} {ep : Nat} {t : SetTable}
theorem rows_size (h : es.toList = L.map brow) : es.size = L.length := by
  have z := congrArg List.length h
  rw [Array.length_toList, List.length_map] at z
  exact z
theorem tab_fits {n : Nat} (T : TabK t (hsh L)) (e : n = L.length) (hl : L.length ≤ t.mask) : t.fits n = true := by
  have h1 := T.sz
  rw [List.length_map] at h1
  unfold SetTable.fits SetTable.fill
  rw [T.dm, Bool.and_eq_true, beq_iff_eq, decide_eq_true_eq]
  show t.place.size = n ∧ t.place.size + 0 ≤ t.mask
  omega
theorem BigR.le (R : BigR s.heap a L es ep t) : L.length ≤ t.mask := by
  have := R.room
  omega
theorem BigR.fits (R : BigR s.heap a L es ep t) : t.fits es.size = true := tab_fits R.tab (rows_size R.rows) R.le
theorem row_at (h : es.toList = L.map brow) {i : Nat} {p : Int × Tok} (hi : L[i]? = some p) : es[i]? = some (brow p) := by
  rw [← Array.getElem?_toList, h, List.getElem?_map, hi]; rfl
theorem BigR.noway (R : BigR s.heap a L es ep t) : ¬ t.gaveWay = true := by
  unfold SetTable.gaveWay
  rw [R.msk.mok.odd]
  decide
theorem eq_of_hash {k j : Int} (hk : Sm k) (hj : Sm j) (e : hashInt j = hashInt k) : j = k := by
  rw [hash_sm hk, hash_sm hj] at e
  exact e
theorem same_int {M : Model} {k : Int} {u : Tok} {Q : Bool → Shared → Prop} (hu : u ≠ 0) (q : Q true s) : wpAny M A (isSame (.int k u) (.int k u)) Q E s := by
  have hb : (u == 0) = false := by simpa using hu
  unfold isSame
  dsimp only
  split
  · unfold isSame.cachedInt
    simp only [hb, Bool.or_self, Bool.false_eq_true, if_false]
    exact wpAny_bind (wpAny_rule (wpAny_pure q))
  · unfold isSame.created
    simp only [hb, Bool.or_self, Bool.false_eq_true, if_false, beq_self_eq_true, if_true]
    first
      | exact wpAny_pure q
      | exact wpAny_bind (wpAny_pure (wpAny_pure q))
theorem seen_int {k : Int} {u : Tok} {ys : List Value} {Q : Bool → Shared → Prop} (hy : ∀ y ∈ ys, ∃ j v, y = Value.int j v) (q : Q false s) : wpAny (model P w) A (searchCouldBeSeen (.int k u) ys) Q E s := by
  unfold searchCouldBeSeen
  refine wpAny_bind ?_
  refine wpAny_forIn_list _ (fun rest r s' => r.1 = none ∧ s' = s ∧ ∀ y ∈ rest, ∃ j v, y = Value.int j v) _ ?_ ?_ _ _ ⟨rfl, rfl, hy⟩
  · rintro v rest r s' ⟨hr, rfl, hall⟩
    obtain ⟨j, v', rfl⟩ := hall v List.mem_cons_self
    dsimp only
    refine wp_if_pos (by rfl) ?_
    exact wpAny_pure ⟨rfl, rfl, fun y hy => hall y (List.mem_cons_of_mem _ hy)⟩
  · rintro ⟨r1, r2⟩ s' ⟨hr, rfl, _⟩
    simp only at hr
    subst hr
    exact wpAny_pure q
theorem turns_few (R : BigR s.heap a L es ep t) : 10 * SetTable.turns t.mask ≤ 400000 := by
  have := R.msk.mok.most
  unfold SetTable.turns
  omega
/-- one search: the int itself, or the first slot that is empty -/
theorem big_search (R : BigR s.heap a L es ep t) {k : Int} {u : Tok} (hk : Sm k) {adding : Bool} {Q : SetFound → Shared → Prop}
    (hin : k ∈ L.map (·.1) → ∀ i, adding = false → Q (.there (some i)) s) (hin2 : k ∈ L.map (·.1) → adding = true → Q (.there none) s)
    (hout : ∀ K, k ∉ L.map (·.1) → way t.mask (hashInt k) K ∉ t.place.toList → (∀ c, c < K → way t.mask (hashInt k) c ∈ t.place.toList) → Q (.free (way t.mask (hashInt k) K) false) s) :
    wpAny (model P w) A (setSearch a (.int k u) (hashInt k) adding) Q E s := by
  obtain ⟨o, ho, hex, hd⟩ := R.ob
  obtain ⟨K, hKf, hK, hKb⟩ := R.tab.open_ (by rw [List.length_map]; exact R.le) (hashInt k)
  unfold setSearch
  rw [show (100000 : Nat) = 99999 + 1 from rfl, setSearchFrom_succ]
  refine wpAny_bind (wpAny_setState_of ho hd R.fits ?_)
  dsimp only
  refine wp_if_neg R.noway ?_
  try refine wpAny_bind (wpAny_pure ?_)
  have hashAt : ∀ (i : Nat) p, L[i]? = some p → (es[i]?.map (·.1)).getD 0 = hashInt p.1 := fun i p hp => by rw [row_at R.rows hp]; rfl
  have lt_of : ∀ {i j : Nat}, t.place.toList[i]? = some j → i < L.length := fun {i j} hi => by
    have h1 : i < t.place.toList.length := (List.getElem?_eq_some_iff.mp hi).1
    have h2 := R.tab.sz
    rw [List.length_map] at h2
    rw [Array.length_toList] at h1
    omega
  rcases go_spec t R.tab.ris R.tab.dm (fun i => (es[i]?.map (·.1)).getD 0) (hashInt k) (10 * SetTable.turns t.mask) K (t.probeStart (hashInt k)) rfl hKf hKb hK with ⟨q, i, hq, hi, hh, hno, hpr⟩ | ⟨hno, hpr⟩
  · have hpr' : t.probe (fun i => (es[i]?.map (·.1)).getD 0) (hashInt k) ((none : Option SetTable.Probe).getD (t.probeStart (hashInt k))) = some (.candidate (way t.mask (hashInt k) q) i (nth t.mask (t.probeStart (hashInt k)) (q + 1))) := hpr
    rw [hpr']
    dsimp only
    have hil := lt_of hi
    have hp : L[i]? = some L[i] := List.getElem?_eq_getElem hil
    generalize L[i] = p at hp
    have hm : p ∈ L := List.mem_of_getElem? hp
    obtain ⟨g1, g2⟩ := R.good p hm
    have hpk : p.1 = k := eq_of_hash hk g1 ((hashAt i p hp).symm.trans hh)
    have hmem : k ∈ L.map (·.1) := List.mem_map.mpr ⟨p, hm, hpk⟩
    have rest : wpAny (model P w) A (searchRest a (.int k u) (hashInt k) adding 99999 es t (way t.mask (hashInt k) q) i (nth t.mask (t.probeStart (hashInt k)) (q + 1))) Q E s := by
      unfold searchRest
      rw [row_at R.rows hp]
      dsimp only [brow]
      rw [hpk]
      refine wpAny_bind (wpAny_holding (wpAny_eqBool_int ?_))
      refine wpAny_bind (wpAny_setState_of ho hd R.fits ?_)
      dsimp only
      rw [beq_self_eq_true]
      cases hadd : adding with
      | true =>
        refine wp_if_pos (by rfl) ?_
        exact wpAny_pure (hin2 hmem hadd)
      | false =>
        refine wp_if_neg (by decide) ?_
        try refine wpAny_bind (wpAny_pure ?_)
        rw [sameMem]
        dsimp only
        have hsl : t.slot (way t.mask (hashInt k) q) = .live i := slot_live R.tab.ris hi
        simp only [if_true, hsl, row_at R.rows hp]
        dsimp only [brow]
        rw [hpk]
        refine wpAny_bind (same_int g2 ?_)
        simp only [if_true]
        refine wpAny_bind (wpAny_pure ?_)
        dsimp only
        exact wpAny_pure (hin hmem i hadd)
    by_cases hl : t.led = true
    · refine wp_if_neg (by simp [hl]) ?_
      try refine wpAny_bind (wpAny_pure ?_)
      exact rest
    · refine wp_if_pos (by simp [hl]) ?_
      refine wpAny_bind (seen_int (fun y hy => ?_) ?_)
      · obtain ⟨e, he, ee⟩ := List.mem_map.mp hy
        have he1 : e ∈ es ∧ e.1 = hashInt k := by simpa using he
        have he2 : e ∈ es.toList := by simpa using he1.1
        rw [R.rows] at he2
        obtain ⟨p2, hp2, e2⟩ := List.mem_map.mp he2
        exact ⟨p2.1, p2.2, by rw [← ee, ← e2]; rfl⟩
      · refine wp_if_neg (by decide) ?_
        try refine wpAny_bind (wpAny_pure ?_)
        exact rest
  · have hpr' : t.probe (fun i => (es[i]?.map (·.1)).getD 0) (hashInt k) ((none : Option SetTable.Probe).getD (t.probeStart (hashInt k))) = some (.empty (way t.mask (hashInt k) K) none) := hpr
    rw [hpr']
    dsimp only
    refine wpAny_pure (hout K (fun hm => ?_) hK hKb)
    obtain ⟨p0, h0, hk0⟩ := List.mem_map.mp hm
    obtain ⟨i0, hi0, e0⟩ := List.getElem_of_mem h0
    have h00 : L[i0]? = some p0 := by rw [List.getElem?_eq_getElem hi0, e0]
    have hh0 : (hsh L)[i0]? = some (hashInt k) := by rw [List.getElem?_map, h00, ← hk0]; rfl
    have hil : i0 < t.place.toList.length := by
      have h2 := R.tab.sz
      rw [List.length_map] at h2
      rw [Array.length_toList]
      omega
    obtain ⟨c, hc, e⟩ := R.tab.ahead hK hh0 (List.getElem?_eq_getElem hil)
    exact hno c i0 hc (by rw [List.getElem?_eq_getElem hil]; exact congrArg some e.symm) ((hashAt i0 p0 h00).trans (by rw [hk0]))
/-- the free slot that the scan lays a new int at -/
theorem free_slot (T : TabK t (hsh L)) (hl : L.length ≤ t.mask) (h : Int) : ∃ K, t.freeSlot h = some (way t.mask h K, false) ∧ way t.mask h K ∉ t.place.toList ∧ ∀ c, c < K → way t.mask h c ∈ t.place.toList := by
  obtain ⟨K, hKf, hK, hKb⟩ := T.open_ (by rw [List.length_map]; exact hl) h
  refine ⟨K, ?_, hK, hKb⟩
  rcases go_spec t T.ris T.dm (fun _ => h + 1) h (10 * SetTable.turns t.mask) K (t.probeStart h) rfl hKf hKb hK with ⟨q, i, hq, hi, hh, _⟩ | ⟨_, hpr⟩
  · exact absurd (show h + 1 = h from hh) (by omega)
  · have z : t.probe (fun _ => h + 1) h (t.probeStart h) = some (.empty (way t.mask h K) none) := hpr
    unfold SetTable.freeSlot
    rw [z]
    rfl
theorem put_rows (L : List (Int × Tok)) (p : Nat) (x : Int × Tok) : (L.take p ++ x :: L.drop p).map brow = (L.map brow).take p ++ brow x :: (L.map brow).drop p := by
  rw [List.map_append, List.map_cons, List.map_take, List.map_drop]
theorem order_big (L : List (Int × Tok)) (es : Array (Int × Value)) (order : Array Nat) (hr : es.toList = L.map brow) (hp : order.toList.Perm (List.range L.length)) :
    ∃ L2, (order.filterMap (es[·]?)).toList = L2.map brow ∧ L2.Perm L ∧ hsh L2 = order.toList.map fun i => (es.map (·.1)).getD i 0 := by
  have key : ∀ l : List Nat, (∀ i ∈ l, i < L.length) → ∃ L2 : List (Int × Tok), l.filterMap (fun i => es[i]?) = L2.map brow ∧ L2 = l.filterMap (fun i => L[i]?) ∧ hsh L2 = l.map fun i => (es.map (·.1)).getD i 0 := by
    intro l
    induction l with
    | nil => intro _; exact ⟨[], rfl, rfl, rfl⟩
    | cons i l ih =>
      intro hl
      have hi := hl i List.mem_cons_self
      have hg : L[i]? = some L[i] := List.getElem?_eq_getElem hi
      obtain ⟨L2, e1, e2, e3⟩ := ih fun j hj => hl j (List.mem_cons_of_mem _ hj)
      refine ⟨L[i] :: L2, ?_, ?_, ?_⟩
      · rw [List.filterMap_cons_some (row_at hr hg), e1]; rfl
      · rw [List.filterMap_cons_some hg, e2]
      · show hashInt (L[i]).1 :: hsh L2 = _
        rw [List.map_cons, e3]
        have e5 : (es.map (·.1))[i]? = some (hashInt (L[i]).1) := by rw [Array.getElem?_map, row_at hr hg]; rfl
        have e4 : (es.map (·.1)).getD i 0 = hashInt (L[i]).1 := by simp [Array.getD_eq_getD_getElem?, e5]
        rw [e4]
  obtain ⟨L2, e1, e2, e3⟩ := key order.toList fun i hi => List.mem_range.mp (hp.mem_iff.mp hi)
  refine ⟨L2, by first | (rw [Array.toList_filterMap]; exact e1) | simpa using e1, ?_, e3⟩
  have h1 : L2.Perm ((List.range L.length).filterMap fun i => L[i]?) := by
    rw [e2]
    exact hp.filterMap _
  have h2 : (List.range L.length).filterMap (fun i => L[i]?) = L := List.filterMap_getElem?_range_length L
  rw [h2] at h1
  exact h1
/-- the table laid anew: what comes of it -/
theorem big_relaid {M : Nat} (hr : es.toList = L.map brow) (hw : SetTable.sizeAbove (SetTable.grown L.length) - 1 = M) (hM : MokS M) (hn : L.length ≤ M) :
    ∃ t' order L2, t.relaid (es.map (·.1)) (SetTable.grown L.length) = some (t', order) ∧ order.toList.Perm (List.range es.size) ∧ (order.filterMap (es[·]?)).toList = L2.map brow ∧ L2.Perm L ∧ TabK t' (hsh L2) ∧ t'.mask = M ∧ (order.filterMap (es[·]?)).size = es.size := by
  have hsl := rows_size hr
  obtain ⟨t', order, e, hp, T, em⟩ := relaidK t (hs := es.map (·.1)) (wanted := SetTable.grown L.length) hw hM.mok (by rw [Array.size_map, hsl]; exact hn)
  rw [Array.size_map] at hp
  obtain ⟨L2, r1, r2, r3⟩ := order_big L es order hr (by rw [← hsl]; exact hp)
  rw [← r3] at T
  exact ⟨t', order, L2, e, hp, r1, r2, T, em, by rw [rows_size r1, r2.length_eq, hsl]⟩
theorem big_store {h : Heap} {o : Obj} (ho : h.get? a = some o) (hex : o.ExactSet) (hd : o.data = .set es ep t) {es1 : Array (Int × Value)} {t1 : SetTable} {L1 : List (Int × Tok)} (hr : es1.toList = L1.map brow) (T : TabK t1 (hsh L1)) (nd : (L1.map (·.1)).Nodup)
    (good : ∀ p ∈ L1, Sm p.1 ∧ p.2 ≠ 0) (room : L1.length * 5 < t1.mask * 3) (mk : MokS t1.mask) (few : L1.length ≤ 12000) : BigR (h.update a (Obj.putSet es1 t1)) a L1 es1 (ep + 1) t1 :=
  ⟨⟨_, store_at ho hd, ⟨hex.1, hex.2.1, hex.2.2⟩, rfl⟩, hr, T, nd, good, room, mk, few⟩
theorem by_value {β : Type} (t1 : SetTable) (k : Int) (u : Tok) {f : Bool → Sem β} {Q : β → Shared → Prop} (q : wpAny (model P w) A (f true) Q E s) : wpAny (model P w) A (if t1.plain = true then (hashByValue 8 (.int k u) >>= f) else (pure true >>= f)) Q E s := by
  split
  · rw [hashBy_int]; exact wpAny_bind (wpAny_pure q)
  · exact wpAny_bind (wpAny_pure q)
/-- ADDING an int that is new -/
theorem big_add (R : BigR s.heap a L es ep t) {k : Int} {u : Tok} (hk : Sm k) (hu : u ≠ 0) (hn : k ∉ L.map (·.1)) (hl : L.length + 1 ≤ 12000) {Q : Bool → Shared → Prop}
    (hQ : ∀ h' L' es' ep' t', Heap.SameBut a s.heap h' → BigR h' a L' es' ep' t' → L'.Perm ((k, u) :: L) → Q true { s with heap := h' }) :
    wpAny (model P w) A (setAddHashed a (.int k u) (hashInt k)) Q E s := by
  obtain ⟨o, ho, hex, hd⟩ := R.ob
  have hsl := rows_size R.rows
  have hroom := R.room
  have hzl : sizeLine = 16777216 := sizeLine_eq
  -- what a put gives, wherever the slot came from
  have putR : ∀ K, way t.mask (hashInt k) K ∉ t.place.toList → (∀ c, c < K → way t.mask (hashInt k) c ∈ t.place.toList) → ∃ p, (t.put (way t.mask (hashInt k) K)).2 = p ∧ TabK (t.put (way t.mask (hashInt k) K)).1 (hsh (L.take p ++ (k, u) :: L.drop p)) ∧
      (t.put (way t.mask (hashInt k) K)).1.mask = t.mask ∧ (t.put (way t.mask (hashInt k) K)).1.fill = L.length + 1 ∧ (SetTable.insertAt es p (hashInt k, Value.int k u)).toList = (L.take p ++ (k, u) :: L.drop p).map brow ∧ (L.take p ++ (k, u) :: L.drop p).Perm ((k, u) :: L) := fun K hK hb => by
    obtain ⟨p, e1, e2, e3, e4, e5⟩ := R.tab.put hK hb
    rw [List.length_map] at e5
    refine ⟨p, e1, ?_, e4, e5, ?_, put_perm L p (k, u)⟩
    · have z : hsh (L.take p ++ (k, u) :: L.drop p) = (hsh L).take p ++ hashInt k :: (hsh L).drop p := by
        rw [hsh, List.map_append, List.map_cons, List.map_take, List.map_drop]
      rw [z]
      exact e3
    · rw [SetTable.toList_insertAt, put_rows, R.rows]; rfl
  have facts : ∀ {L1 : List (Int × Tok)}, L1.Perm ((k, u) :: L) → L1.length = L.length + 1 ∧ (L1.map (·.1)).Nodup ∧ ∀ p ∈ L1, Sm p.1 ∧ p.2 ≠ 0 := fun {L1} pm => ⟨pm.length_eq, by
    refine (pm.map (·.1)).nodup_iff.mpr ?_
    rw [List.map_cons]
    exact List.nodup_cons.mpr ⟨hn, R.nd⟩, fun p hp => by
    rcases List.mem_cons.mp (pm.mem_iff.mp hp) with e | z
    · rw [e]; exact ⟨hk, hu⟩
    · exact R.good p z⟩
  unfold setAddHashed
  refine wpAny_holding ?_
  rw [show (100000 : Nat) = 99999 + 1 from rfl, setAddHashedIn_succ]
  refine wpAny_bind (wpAny_setState_of ho hd R.fits ?_)
  dsimp only
  have hall : es.all (fun e => e.2.scannable) = true := by
    rw [← Array.all_toList, R.rows, List.all_map, List.all_eq_true]
    intro p _
    rfl
  by_cases hsc : es.size < scanBound
  · -- the scan
    refine wp_if_pos (by simp only [byScan, Value.scannable, Bool.true_and, Bool.and_eq_true, decide_eq_true_eq]; exact ⟨hsc, hall⟩) ?_
    unfold setAddByScan
    refine wpAny_bind ?_
    refine wpAny_bind (wpAny_rule ?_)
    have hel : ElemsOf (intKind P w) es.toList := fun e he => by
      rw [R.rows] at he
      obtain ⟨p, _, rfl⟩ := List.mem_map.mp he
      exact ⟨⟨p.1, intKind_is _ _ _ _, rfl⟩, rfl⟩
    have hfi : es.toList.findIdx? (fun e => (intKind P w).is k e.2) = none := by
      rw [List.findIdx?_eq_none_iff, R.rows]
      intro e he
      obtain ⟨p, hp, rfl⟩ := List.mem_map.mp he
      cases z : (intKind P w).is k (brow p).2 with
      | false => rfl
      | true =>
        have := (intKind P w).inj _ _ _ z (intKind_is P w p.1 p.2)
        exact absurd (List.mem_map.mpr ⟨p, hp, this.symm⟩) hn
    refine wpAny_bind (wpAny_setScan_of (knd := intKind P w) (k := k) (intKind_is _ _ _ _) ho hd R.fits hel ?_)
    rw [hfi]
    dsimp only
    obtain ⟨K, hfs, hK, hKb⟩ := free_slot R.tab R.le (hashInt k)
    obtain ⟨p, e1, e2, e3, e4, e5, e6⟩ := putR K hK hKb
    obtain ⟨f1, f2, f3⟩ := facts e6
    have hln : layNew t es (hashInt k) (.int k u) = (SetTable.insertAt es p (hashInt k, Value.int k u), (t.put (way t.mask (hashInt k) K)).1, false, false) := by
      unfold layNew
      rw [hfs]
      dsimp only
      rw [e1]
      have hft : (t.put (way t.mask (hashInt k) K)).1.fits (SetTable.insertAt es p (hashInt k, Value.int k u)).size = true := tab_fits e2 (rows_size e5) (by rw [e3, f1]; omega)
      unfold SetTable.orStandIn
      rw [hft]
      rfl
    generalize hpt : (t.put (way t.mask (hashInt k) K)).1 = t1 at e2 e3 e4 hln
    generalize hep : SetTable.insertAt es p (hashInt k, Value.int k u) = es1 at e5 hln
    generalize L.take p ++ (k, u) :: L.drop p = L1 at e2 e5 e6 f1 f2 f3
    rw [hln]
    dsimp only
    refine wpAny_bind (wpAny_pure ?_)
    refine by_value t1 k u ?_
    simp only [if_true, Bool.not_false, Bool.true_and]
    refine wpAny_bind (wpAny_storeSet_of ho hd ?_ (by rw [rows_size e5]; omega))
    have sb : Heap.SameBut a s.heap (s.heap.update a (Obj.putSet es1 t1)) := Heap.SameBut.update ..
    by_cases hf : t1.tooFull = true
    · refine wp_if_pos hf ?_
      have hfull : t1.mask * 3 ≤ (L.length + 1) * 5 := by
        have h := hf
        unfold SetTable.tooFull at h
        rw [decide_eq_true_eq, e4] at h
        exact h
      rw [e3] at hfull
      obtain ⟨M, g1, g2, g3, g4, g5⟩ := grow_ok R.msk hroom hfull hl
      rw [← f1] at g1 g3 g4 g5
      obtain ⟨t2, order, L2, r1, r2, r3, r4, r5, r6, r7⟩ := big_relaid (t := t1) e5 g1 g2 g5
      have hra : relayAll t1 es1 (SetTable.grown es1.size) = (order.filterMap (es1[·]?), t2, false) := by
        unfold relayAll
        rw [rows_size e5, r1]
        dsimp only
        have hcov : coversAll order L1.length = true := by
          unfold coversAll
          rw [List.isPerm_iff, ← rows_size e5]
          exact r2
        have hft : t2.fits (order.filterMap (es1[·]?)).size = true := tab_fits r5 (rows_size r3) (by rw [r4.length_eq, r6]; exact g5)
        rw [hcov, hft]
        rfl
      rw [hra]
      dsimp only
      refine wpAny_bind (wpAny_pure ?_)
      refine wpAny_bind (wpAny_storeSet_of (store_at ho hd) rfl ?_ (by rw [rows_size r3, r4.length_eq]; omega))
      refine wpAny_pure (wpAny_pure ?_)
      refine hQ _ L2 (order.filterMap (es1[·]?)) (ep + 1 + 1) t2 (sb.trans (Heap.SameBut.update ..)) (big_store (store_at ho hd) ⟨hex.1, hex.2.1, hex.2.2⟩ rfl r3 r5 ((r4.map (·.1)).nodup_iff.mpr f2) (fun p hp => f3 p (r4.mem_iff.mp hp)) (by rw [r4.length_eq, r6]; exact g3) (by rw [r6]; exact g2) (by rw [r4.length_eq]; omega)) (r4.trans e6)
    · refine wp_if_neg hf ?_
      refine wpAny_pure (wpAny_pure ?_)
      refine hQ _ L1 es1 (ep + 1) t1 sb (big_store ho hex hd e5 e2 f2 f3 ?_ (by rw [e3]; exact R.msk) (by omega)) e6
      have h := hf
      unfold SetTable.tooFull at h
      rw [decide_eq_true_eq, e4] at h
      rw [f1]
      omega
  · -- the table
    refine wp_if_neg (by simp only [byScan, Bool.and_eq_true, decide_eq_true_eq]; exact fun z => hsc z.1.2) ?_
    try refine wpAny_bind (wpAny_pure ?_)
    refine wpAny_bind (big_search R hk (fun hm => absurd hm hn) (fun hm => absurd hm hn) fun K _ hK hKb => ?_)
    dsimp only
    refine wpAny_bind (wpAny_setState_of ho hd R.fits ?_)
    dsimp only
    obtain ⟨p, e1, e2, e3, e4, e5, e6⟩ := putR K hK hKb
    obtain ⟨f1, f2, f3⟩ := facts e6
    generalize hpt : t.put (way t.mask (hashInt k) K) = pt at e1 e2 e3 e4
    obtain ⟨t1, p'⟩ := pt
    dsimp only at e1 e2 e3 e4 ⊢
    subst e1
    generalize hep : SetTable.insertAt es p' (hashInt k, Value.int k u) = es1 at e5
    generalize L.take p' ++ (k, u) :: L.drop p' = L1 at e2 e5 e6 f1 f2 f3
    refine by_value t1 k u ?_
    simp only [if_true, Bool.not_false, Bool.true_and]
    refine wpAny_bind (wpAny_storeSet_of ho hd ?_ (by rw [rows_size e5]; omega))
    have sb : Heap.SameBut a s.heap (s.heap.update a (Obj.putSet es1 t1)) := Heap.SameBut.update ..
    by_cases hf : t1.tooFull = true
    · refine wp_if_pos hf ?_
      have hfull : t1.mask * 3 ≤ (L.length + 1) * 5 := by
        have h := hf
        unfold SetTable.tooFull at h
        rw [decide_eq_true_eq, e4] at h
        exact h
      rw [e3] at hfull
      obtain ⟨M, g1, g2, g3, g4, g5⟩ := grow_ok R.msk hroom hfull hl
      rw [← f1] at g1 g3 g4 g5
      obtain ⟨t2, order, L2, r1, r2, r3, r4, r5, r6, r7⟩ := big_relaid (t := t1) e5 g1 g2 g5
      rw [hsl, ← f1]
      refine wpAny_bind ?_
      rw [setRelay_eq]
      have ho1 := store_at (es' := es1) (t' := t1) ho hd
      refine wpAny_bind (wpAny_setState_of (s := { s with heap := s.heap.update a (Obj.putSet es1 t1) }) ho1 rfl (tab_fits e2 (rows_size e5) (by rw [e3, f1]; omega)) ?_)
      dsimp only
      refine wp_if_neg (by omega) ?_
      try refine wpAny_bind (wpAny_pure ?_)
      rw [r1]
      dsimp only
      refine wpAny_bind ?_
      refine wp_if_neg (by rw [r7]; simp) ?_
      try refine wpAny_bind (wpAny_pure ?_)
      refine wpAny_pure ?_
      dsimp only
      refine wpAny_storeSet_of ho1 rfl ?_ (by rw [rows_size r3, r4.length_eq]; omega)
      refine wpAny_pure ?_
      refine hQ _ L2 (order.filterMap (es1[·]?)) (ep + 1 + 1) t2 (sb.trans (Heap.SameBut.update ..)) (big_store ho1 ⟨hex.1, hex.2.1, hex.2.2⟩ rfl r3 r5 ((r4.map (·.1)).nodup_iff.mpr f2) (fun p hp => f3 p (r4.mem_iff.mp hp)) (by rw [r4.length_eq, r6]; exact g3) (by rw [r6]; exact g2) (by rw [r4.length_eq]; omega)) (r4.trans e6)
    · refine wp_if_neg hf ?_
      refine wpAny_pure ?_
      refine hQ _ L1 es1 (ep + 1) t1 sb (big_store ho hex hd e5 e2 f2 f3 ?_ (by rw [e3]; exact R.msk) (by omega)) e6
      have h := hf
      unfold SetTable.tooFull at h
      rw [decide_eq_true_eq, e4] at h
      rw [f1]
      omega
end
end Sv

/-! set(xs) of a list of ints that python made, and x in such a set -/
namespace Sv
open PySem PySem.Spec PyProof.Rows L2

theorem rawv_of {u : Value} : ∀ {k : Int}, RelV (.int k) u → TokOk u → ∃ t, u = .int k t ∧ t ≠ 0 := fun {k} r h => by
  obtain ⟨t, rfl⟩ := r
  exact ⟨t, rfl, h⟩
/-- the raw items, with their tokens -/
theorem toks_of : ∀ {ns : List Int} {its : List Value}, Vals (ns.map V.int) its → (∀ u ∈ its, TokOk u) → ∃ ks : List (Int × Tok), ks.map (·.1) = ns ∧ its = ks.map (fun p => Value.int p.1 p.2) ∧ ∀ p ∈ ks, p.2 ≠ 0
  | [], _, .nil, _ => ⟨[], rfl, rfl, fun p hp => nomatch hp⟩
  | n :: ns, u :: us, .cons r t, h => by
    obtain ⟨tk, rfl, h0⟩ := rawv_of r (h u List.mem_cons_self)
    obtain ⟨ks, e1, e2, e3⟩ := toks_of t fun v hv => h v (List.mem_cons_of_mem _ hv)
    refine ⟨(n, tk) :: ks, by rw [List.map_cons, e1], by rw [List.map_cons, ← e2], fun p hp => ?_⟩
    rcases List.mem_cons.mp hp with e | z
    · rw [e]; exact h0
    · exact e3 p z
section
variable {P : Program} {w : World} {A : Around} {E : Value → Shared → Prop} {s : Shared}
theorem BigR.keep {h h' : Heap} {a : Addr} {L : List (Int × Tok)} {es : Array (Int × Value)} {ep : Nat} {t : SetTable} (R : BigR h a L es ep t) (ha : ∀ o, h.get? a = some o → h'.get? a = some o) : BigR h' a L es ep t := by
  obtain ⟨o, ho, r⟩ := R.ob
  exact ⟨⟨o, ha o ho, r⟩, R.rows, R.tab, R.nd, R.good, R.room, R.msk, R.few⟩
theorem big_fresh {h : Heap} {a : Addr} {led : Bool} (ho : h.get? a = some { cls := .type "set", dict := none, data := .set #[] 0 (.fresh 0 0 led) }) : BigR h a [] #[] 0 (.fresh 0 0 led) where
  ob := ⟨_, ho, ⟨rfl, rfl, rfl⟩, rfl⟩
  rows := rfl
  tab := ⟨List.Pairwise.nil, rfl, rfl, ⟨3, by decide, by decide, rfl⟩, fun x hx => (by cases hx), fun i h j hi => (by simp at hi)⟩
  nd := List.nodup_nil
  good := fun p hp => nomatch hp
  room := by
    show 0 * 5 < 7 * 3
    decide
  msk := .inl rfl
  few := Nat.zero_le _
/-- the loop of set.update -/
theorem big_update {I : Addr} {fp wr : List Addr} {G : Array GenState → Array GenState → Prop} {n : Nat} {Pv : Nat → Value → Prop} {St : Nat → Shared → Prop} {R : Result → Shared → Prop}
    (W : WalksS P w A.in1 I fp wr G n Pv St) (S : Addr) (hSf : S ∉ fp) (ks : List (Int × Tok)) (hn : n = ks.length) (hval : ∀ i v, Pv i v → ∃ p, ks[i]? = some p ∧ v = .int p.1 p.2) (hnd : (ks.map (·.1)).Nodup) (hg : ∀ p ∈ ks, Sm p.1 ∧ p.2 ≠ 0) (hlen : ks.length ≤ 12000) :
    ∀ (k i : Nat) (s : Shared), n - i = k → i ≤ n → St i s → (∃ L es ep t, BigR s.heap S L es ep t ∧ L.Perm (ks.take i)) →
      (∀ s' L es ep t, Moved (S :: wr) G s s' → BigR s'.heap S L es ep t → L.Perm ks → R (.ok (.ret .none)) s') →
      codeAny (model P w) A (.builtin "set.update.loop" ⟨[.ref S, .ref I], []⟩) R s := by
  have hSw : S ∉ wr := fun h => hSf (W.sub _ h)
  have hsub : ∀ b ∈ wr, b ∈ S :: wr := fun b hb => List.mem_cons_of_mem _ hb
  intro k
  induction k with
  | zero =>
    intro i s hk' hi hst ⟨L, es, ep, t, hS, g⟩ hR
    obtain rfl : i = n := by omega
    refine codeAny_builtin F.entry_set_update_loop ?_
    rw [Around.under_plainId F.plain_set_update_loop _]
    show wpAny _ A.in1 (pyNext (.ref I) >>= _) _ _ s
    refine wpAny_bind (W.done s _ _ hst fun s' hm => ?_)
    show wpAny _ A.in1 (ret Value.none) _ _ s'
    refine wpAny_pure (hR s' L es ep t (hm.mono hsub) (hS.keep fun o e => hm.heap S o hSw e) ?_)
    rw [hn, List.take_length] at g
    exact g
  | succ k ih =>
    intro i s hk' hi hst ⟨L, es, ep, t, hS, g⟩ hR
    have hlt : i < n := by omega
    refine codeAny_builtin F.entry_set_update_loop ?_
    rw [Around.under_plainId F.plain_set_update_loop _]
    show wpAny _ A.in1 (pyNext (.ref I) >>= _) _ _ s
    refine wpAny_bind (W.item i s _ _ hlt hst fun v s' hP hst' hm => ?_)
    obtain ⟨p, hp, rfl⟩ := hval i v hP
    obtain ⟨g1, g2⟩ := hg p (List.mem_of_getElem? hp)
    have hS' : BigR s'.heap S L es ep t := hS.keep fun o e => hm.heap S o hSw e
    have htk : ks.take (i + 1) = ks.take i ++ [p] := by rw [List.take_succ, hp]; rfl
    have hnew : p.1 ∉ L.map (·.1) := fun hm2 => by
      have hm3 : p.1 ∈ (ks.take i).map (·.1) := (g.map (·.1)).mem_iff.mp hm2
      have hnd2 : ((ks.take (i + 1)).map (·.1)).Nodup := hnd.sublist ((List.take_sublist _ _).map _)
      rw [htk, List.map_append, List.nodup_append] at hnd2
      exact hnd2.2.2 _ hm3 _ (List.mem_singleton.mpr rfl) rfl
    have hl1 : L.length = i := by rw [g.length_eq, List.length_take]; omega
    show wpAny _ A.in1 (holding [Value.int p.1 p.2] (setAdd S (.int p.1 p.2)) >>= _) _ _ s'
    refine wpAny_bind (wpAny_holding ?_)
    unfold setAdd
    refine wpAny_holding ?_
    refine wpAny_bind ((intKind P w).pyHash (k := p.1) (intKind_is _ _ _ _) ?_)
    refine big_add (s := { s' with toks := s'.toks + 1 }) hS' g1 g2 hnew (by omega) fun h' L' es' ep' t' hsb hS2 pm => ?_
    have g' : L'.Perm (ks.take (i + 1)) := by
      rw [htk]
      refine pm.trans (List.Perm.trans ?_ (List.perm_append_comm (l₁ := [p])))
      exact List.Perm.cons _ g
    refine wpAny_pure ⟨plainId_quiet F.plain_set_update_loop _, ih (i + 1) _ (by omega) hlt (W.frame _ s' _ _ hst' (Nat.le_succ _) fun b hb o e => ?_) ⟨L', es', ep', t', hS2, g'⟩ fun s'' L2 es2 ep2 t2 hm'' hS'' g'' => ?_⟩
    · rw [hsb.2 b (fun h : b = S => hSf (by rw [← h]; exact hb))]; exact e
    · refine hR s'' L2 es2 ep2 t2 (Moved.trans W.gtrans ((hm.mono hsub).then_heap (Nat.le_succ _) fun b o hb e => ?_) hm'') hS'' g''
      rw [hsb.2 b (fun h : b = S => hb (by rw [h]; exact List.mem_cons_self))]; exact e
/-- set(xs) -/
theorem call_set_big {l : Addr} {items : Array Value} (ks : List (Int × Tok)) {Q : Value → Shared → Prop} (hh : A.handled = none) (hl : s.heap.IsList l items) (hit : items.toList = ks.map fun p => Value.int p.1 p.2)
    (hnd : (ks.map (·.1)).Nodup) (hg : ∀ p ∈ ks, Sm p.1 ∧ p.2 ≠ 0) (hlen : ks.length ≤ 12000)
    (q : ∀ (h' : Heap) (tk : Nat) L es ep t, BigR h' s.heap.objs.size L es ep t → L.Perm ks → (∀ b o, s.heap.get? b = some o → h'.get? b = some o) → Q (.ref s.heap.objs.size) { s with heap := h', toks := tk }) :
    wpAny (model P w) A (call (.type "set") [.ref l]) Q E s := by
  have hisz : items.size = ks.length := by
    have z := congrArg List.length hit
    rw [Array.length_toList, List.length_map] at z
    exact z
  obtain ⟨c, tl, hmro⟩ := F.called_set.mro
  have k1 := F.called_set.made
  have k2 := F.called_set.sub
  refine wpAny_call (codeAny_of_tree ?_)
  show wpAny _ _ (callAny (.type "set") _) _ _ _
  refine wpAny_pure ⟨Code.quiet_builtin _ (by decide +kernel), codeAny_builtin F.entry_type_call ?_⟩
  rw [Around.under_plain (weight_type_call_type "set" [.ref l] []) rfl]
  have k3 := F.called_set.notType
  have k4 := F.called_set.canCreate
  have k5 := F.typeCall_set_1 (.ref l)
  repeat (any_goals (first | assumption | wp_step))
  refine codeAny_mono (code_set_new_1 (.ref l) (E := E) (Q₁ := fun obj s₁ => ∃ led : Bool, obj = .ref s.heap.objs.size ∧ s₁ = { s with heap := s.heap.push { cls := .type "set", dict := none, data := .set #[] 0 (.fresh 0 0 led) } }) fun led => ⟨led, rfl, rfl⟩) fun r s₁ hr => ?_
  cases r with
  | error e => exact hr
  | ok fl =>
    cases fl with
    | ret obj =>
      obtain ⟨led, rfl, rfl⟩ := hr
      have hS : (s.heap.push { cls := .type "set", dict := none, data := .set #[] 0 (.fresh 0 0 led) }).get? s.heap.objs.size = some { cls := .type "set", dict := none, data := .set #[] 0 (.fresh 0 0 led) } := Heap.get?_push_size _ rfl
      have hT : Shared.TypeIs { s with heap := s.heap.push { cls := .type "set", dict := none, data := .set #[] 0 (.fresh 0 0 led) } } (.ref s.heap.objs.size) "set" := ⟨_, hS, rfl⟩
      have k6 := F.called_set.init.lookup
      have k7 := F.called_set.init.bind (.ref s.heap.objs.size)
      repeat (any_goals (first | assumption | wp_step))
      refine codeAny_mono (codeAny_call_builtin (R := wants (fun r s₂ => r = .none ∧ ∃ h' tk L es ep t, s₂ = { s with heap := h', toks := tk } ∧ BigR h' s.heap.objs.size L es ep t ∧ L.Perm ks ∧
          (∀ b o, s.heap.get? b = some o → h'.get? b = some o)) E) F.called_set.init.plain F.entry_set_init (check_set_init_1 hT ?_)) fun r₂ s₂ hr₂ => ?_
      · obtain ⟨ol, hol, hcl, nl, hdl⟩ := hl
        obtain ⟨ocls, odict, odata, oslots⟩ := ol
        simp only at hcl hdl
        subst hcl; subst hdl
        have hol' : (s.heap.push { cls := .type "set", dict := none, data := .set #[] 0 (.fresh 0 0 led) }).get? l = some { cls := .type "list", dict := odict, data := .seq items nl, slots := oslots } := Heap.get?_push_of_some _ hol
        have k8 := F.sub_list_set
        have k9 := F.sub_list_frozenset
        have k10 : (Value.type "list" == Value.type "dict") = false := by decide
        have hl1 : (s.heap.push { cls := .type "set", dict := none, data := .set #[] 0 (.fresh 0 0 led) }).IsList l items := ⟨_, hol', rfl, nl, rfl⟩
        unfold Builtin.«set.__init__» noKeywords Builtin.Frozenset.updateFrom
        generalize hPI : pyIter = PI
        wp_walk
        subst hPI
        refine wpAny_pyIter_list hl1 ?_
        refine wpAny_bind (wpAny_runValue ?_)
        have hlS : l < s.heap.objs.size := Heap.lt_size hol
        have hh3 : A.in1.in1.in1.handled = none := by simp [hh]
        have hneI : l ≠ (s.heap.push { cls := .type "set", dict := none, data := .set #[] 0 (.fresh 0 0 led) }).objs.size := by
          rw [Heap.size_push]; exact Nat.ne_of_lt (Nat.lt_succ_of_lt hlS)
        have hSf : s.heap.objs.size ∉ [(s.heap.push { cls := .type "set", dict := none, data := .set #[] 0 (.fresh 0 0 led) }).objs.size, l] := by
          rw [Heap.size_push]; simp only [List.mem_cons, List.mem_singleton, List.not_mem_nil, or_false, not_or]
          exact ⟨Nat.ne_of_lt (Nat.lt_succ_self _), Nat.ne_of_gt hlS⟩
        have hval : ∀ (i : Nat) (v : Value), items[i]? = some v → ∃ p, ks[i]? = some p ∧ v = .int p.1 p.2 := fun i v hv => by
          have z : items.toList[i]? = some v := by rw [Array.getElem?_toList]; exact hv
          rw [hit, List.getElem?_map] at z
          cases hq : ks[i]? with
          | none => rw [hq] at z; cases z
          | some p =>
            rw [hq] at z
            exact ⟨p, rfl, (Option.some.inj z).symm⟩
        refine big_update ((Walks.list hh3 _ l hneI items).toS) s.heap.objs.size
          hSf ks hisz hval hnd hg hlen (items.size - 0) 0 _ (by omega) (Nat.zero_le _)
          ⟨⟨_, Heap.get?_push_size _ rfl, rfl, rfl⟩, (hl1.push _)⟩ ?hS0 ?hR
        case hS0 =>
          have hget : ((s.heap.push { cls := .type "set", dict := none, data := .set #[] 0 (.fresh 0 0 led) }).push { cls := .type "list_iterator", data := .fields #[.ref l, .int 0 0] }).get? s.heap.objs.size
              = some { cls := .type "set", dict := none, data := .set #[] 0 (.fresh 0 0 led) } := Heap.get?_push_of_some _ hS
          exact ⟨[], #[], 0, _, big_fresh hget, by rw [List.take_zero]⟩
        case hR =>
          intro s' L es ep t hm hS' g'
          obtain ⟨h', g2, d', tk', os'⟩ := s'
          have eg : g2 = s.gens := hm.gens
          have ed : d' = s.drawn := hm.drawn
          have eo : os' = s.os := hm.os
          subst eg; subst ed; subst eo
          show wpAny _ _ _ _ _ _
          refine wpAny_pure ?_
          show wpAny _ _ (ret Value.none) _ _ _
          refine wpAny_pure ⟨rfl, h', tk', L, es, ep, t, rfl, hS', g', fun b o e => ?_⟩
          have hb := Heap.lt_size e
          have hb1 : b ≠ s.heap.objs.size := Nat.ne_of_lt hb
          have hb2 : b ≠ (s.heap.push { cls := .type "set", dict := none, data := .set #[] 0 (.fresh 0 0 led) }).objs.size := by
            rw [Heap.size_push]; exact Nat.ne_of_lt (Nat.lt_succ_of_lt hb)
          exact hm.heap b o (by simp only [List.mem_cons, List.mem_singleton, List.not_mem_nil, or_false, not_or]; exact ⟨hb1, hb2⟩) (Heap.get?_push_of_some _ (Heap.get?_push_of_some _ e))
      · cases r₂ with
        | error e => exact hr₂
        | ok fl₂ =>
          cases fl₂ with
          | ret r =>
            obtain ⟨rfl, h', tk, L, es, ep, t, rfl, hS', g', hk'⟩ := hr₂
            repeat (any_goals (first | assumption | wp_step))
            exact q _ _ _ _ _ _ hS' g' hk'
          | _ => exact hr₂.elim
    | _ => exact hr.elim
/-- x in s -/
theorem in_big {a : Addr} {L : List (Int × Tok)} {es : Array (Int × Value)} {ep : Nat} {t : SetTable} (R : BigR s.heap a L es ep t) {k : Int} {u : Tok} (hk : Sm k) {Q : Value → Shared → Prop} {b : Bool} (hb : b = true ↔ k ∈ L.map (·.1)) (q : Q (.bool b) { s with toks := s.toks + 1 }) :
    wpAny (model P w) A (compareOp .In (.int k u) (.ref a)) Q E s := by
  obtain ⟨o, ho, hex, hd⟩ := R.ob
  have hT : s.TypeIs (.ref a) "set" := ⟨o, ho, hex.1⟩
  show wpAny _ _ (do return .bool (← contains (.ref a) (.int k u))) Q E s
  refine wpAny_bind ?_
  unfold contains
  try with_reducible refine wpAny_holding ?_
  refine wpAny_bind (wpAny_specialOf hT F.slot_set_contains.lookup ?_)
  show wpAny _ _ (if (some (Value.builtin "set.__contains__") == some Value.none) = true then _ else _) _ E s
  rw [if_neg (by rw [beq_builtin_none]; exact Bool.false_ne_true)]
  refine wpAny_bind (wpAny_callSpecialUnlessNone?_slot (name := Str.ofString "__contains__") hT F.slot_set_contains
    (wpAny_call_entry F.slot_set_contains hT entry_set_contains ?_ (F.args_set_contains_2 _ _)))
  unfold Builtin.«frozenset.__contains__» Builtin.Frozenset.oneOther
  simp only [List.isEmpty_nil, bind_assoc]
  unfold Builtin.Frozenset.addrOf Builtin.Frozenset.withSetAsKey setContains
  refine wpAny_bind (wpAny_pure ?_)
  try dsimp only
  refine wpAny_bind (wpAny_pure ?_)
  try dsimp only
  refine wpAny_bind (wpAny_tryCatch ?_)
  refine wpAny_holding ?_
  refine wpAny_bind ((intKind P w).pyHash (k := k) (intKind_is _ _ _ _) ?_)
  have R1 : BigR ({ s with toks := s.toks + 1 } : Shared).heap a L es ep t := R
  have look : wpAny (model P w) A.in1 (setFind a (.int k u) (hashInt k)) (fun r s' => s' = { s with toks := s.toks + 1 } ∧ (r.isSome = true ↔ k ∈ L.map (·.1))) (fun _ _ => False) { s with toks := s.toks + 1 } := by
    unfold setFind
    rw [show (100000 : Nat) = 99999 + 1 from rfl]
    unfold setFindIn
    refine wpAny_bind (wpAny_setState_of (s := { s with toks := s.toks + 1 }) ho hd R.fits ?_)
    dsimp only
    have hall : es.all (fun e => e.2.scannable) = true := by
      rw [← Array.all_toList, R.rows, List.all_map, List.all_eq_true]
      intro p _
      rfl
    by_cases hsc : es.size < scanBound
    · refine wp_if_pos (by simp only [byScan, Value.scannable, Bool.true_and, Bool.and_eq_true, decide_eq_true_eq]; exact ⟨hsc, hall⟩) ?_
      refine wpAny_bind (wpAny_rule ?_)
      have hel : ElemsOf (intKind P w) es.toList := fun e he => by
        rw [R.rows] at he
        obtain ⟨p, _, rfl⟩ := List.mem_map.mp he
        exact ⟨⟨p.1, intKind_is _ _ _ _, rfl⟩, rfl⟩
      refine wpAny_bind (wpAny_setScan_of (knd := intKind P w) (k := k) (s := { s with toks := s.toks + 1 }) (intKind_is _ _ _ _) ho hd R.fits hel ?_)
      cases hr : List.findIdx? (fun e => (intKind P w).is k e.2) es.toList with
      | none =>
        dsimp only
        refine wpAny_pure ⟨rfl, ⟨fun z => (nomatch z), fun hm => ?_⟩⟩
        obtain ⟨p, hp, e⟩ := List.mem_map.mp hm
        have z := List.findIdx?_eq_none_iff.mp hr (brow p) (by rw [R.rows]; exact List.mem_map.mpr ⟨p, hp, rfl⟩)
        have z2 := intKind_is P w k p.2
        rw [← e] at z z2
        rw [show (brow p).2 = Value.int p.1 p.2 from rfl, z2] at z
        cases z
      | some j =>
        dsimp only
        refine wpAny_pure ⟨rfl, ⟨fun _ => ?_, fun _ => rfl⟩⟩
        obtain ⟨hj, hpj, _⟩ := List.findIdx?_eq_some_iff_getElem.mp hr
        have hm : es.toList[j] ∈ es.toList := List.getElem_mem hj
        generalize es.toList[j] = y at hm hpj
        rw [R.rows] at hm
        obtain ⟨p, hp, e⟩ := List.mem_map.mp hm
        rw [← e] at hpj
        have := (intKind P w).inj _ _ _ hpj (intKind_is P w p.1 p.2)
        exact List.mem_map.mpr ⟨p, hp, this.symm⟩
    · refine wp_if_neg (by simp only [byScan, Bool.and_eq_true, decide_eq_true_eq]; exact fun z => hsc z.1.2) ?_
      try refine wpAny_bind (wpAny_pure ?_)
      refine wpAny_bind (big_search (s := { s with toks := s.toks + 1 }) R1 hk (fun hm i _ => ?_) (fun _ z => nomatch z) fun K hn _ _ => ?_)
      · exact wpAny_pure ⟨rfl, ⟨fun _ => hm, fun _ => rfl⟩⟩
      · exact wpAny_pure ⟨rfl, ⟨fun z => (nomatch z), fun z => absurd z hn⟩⟩
  refine wpAny_bind (wpAny_mono look (fun r s' hr => ?_) fun _ _ z => z.elim)
  obtain ⟨rfl, hr⟩ := hr
  refine wpAny_pure ?_
  show wpAny _ _ (ret (Value.bool r.isSome)) _ _ _
  rw [show r.isSome = b by rw [Bool.eq_iff_iff, hr, hb]]
  exact wpAny_pure ⟨_, rfl, wpAny_truthy_bool (wpAny_pure q)⟩
end
/-! ### told -/
def bigP (a : Addr) (S : Int → Bool) (h : Heap) : Prop := ∃ L es ep t, BigR h a L es ep t ∧ ∀ k, S k = true ↔ k ∈ L.map (·.1)
def BigO (a : Addr) (S : Int → Bool) : HO := .ext (bigP a S)
section
variable {X : Cx} {σ : L2.St} {H : Hp} {Q : VK}
theorem c_setT {a : Addr} {ns : List Int} (hc : X.calm = true) (h : H a = some (LstT a (ns.map V.int))) (hn : ns.Nodup) (hs : ∀ k ∈ ns, Sm k) (hl : ns.length ≤ 12000) (q : ∀ p H', H p = none → Same H H' → H' p = some (BigO p (fun k => ns.any (· == k))) → Q (.ref p) H') : WC X (.type "set") [.ref a] σ H Q := by
  refine ⟨fun pins s us I rv => ?_⟩
  rw [Vals.ref1 rv]
  obtain ⟨its, n, r, tk, _, e⟩ := lstT_get I h
  obtain ⟨ks, e1, e2, e3⟩ := toks_of r tk
  subst e1
  refine call_set_big (items := its.toArray) ks (I.ok.hd hc) ⟨_, e, rfl, n, rfl⟩ e2 hn (fun p hp => ⟨hs _ (List.mem_map.mpr ⟨p, hp, rfl⟩), e3 p hp⟩) (by rw [List.length_map] at hl; exact hl) fun h' tk L es ep t R g hk => ?_
  have hf : H s.heap.objs.size = none := I.fresh
  have z : bigP s.heap.objs.size (fun k => (ks.map (·.1)).any (· == k)) h' := ⟨L, es, ep, t, R, fun k => by
    rw [List.any_eq_true, (g.map (·.1)).mem_iff]
    exact ⟨fun ⟨x, hx, e⟩ => by rw [beq_iff_eq] at e; rw [← e]; exact hx, fun hx => ⟨k, hx, beq_self_eq_true k⟩⟩⟩
  have new : ObjOk X.prog X.w (upd H s.heap.objs.size (BigO s.heap.objs.size (fun k => (ks.map (·.1)).any (· == k)))) h' s.heap.objs.size (BigO s.heap.objs.size (fun k => (ks.map (·.1)).any (· == k))) := by
    obtain ⟨o, ho, _⟩ := R.ob
    exact ⟨z, ⟨o, ho⟩, fun h1 h2 ⟨L, es, ep, t, R, m⟩ k => ⟨L, es, ep, t, R.keep k, m⟩⟩
  exact ⟨.ref s.heap.objs.size, _, I.laid (t' := tk) (fun b o e => hk b o e) (Nat.le_refl _) new, rfl, q _ _ hf (same_new hf) upd_same⟩
theorem b_inBig {k : Int} {a : Addr} {S : Int → Bool} (hk : Sm k) (h : H a = some (BigO a S)) (q : Q (.bl (S k)) H) : WB X (compareOp .In) (.int k) (.ref a) σ H Q :=
  ⟨fun pins s v u I rx ry => by
    obtain ⟨tk, rfl⟩ := rx
    cases ry
    obtain ⟨⟨L, es, ep, t, R, m⟩, _, _⟩ := (show ObjOk X.prog X.w H s.heap a (BigO a S) from I.hok a _ h)
    exact in_big R hk (m k) (show EP X pins σ Q _ _ from ⟨.bl (S k), H, I.tok _, rfl, q⟩)⟩
variable {N L S G B : List Str} {e : Expr} {p pos : Pos}
theorem x_lenT (c : Nm X N L S G B) (m : Mb "len" B) (h : WE X e σ H fun x H1 => ∃ D xs, x = .ref D ∧ H1 D = some (LstT D xs) ∧ Q (.int xs.length) H1) (hs : starEach [e] X.env = (false, eval e X.env) :: starEach [] X.env := by with_unfolding_all rfl) (hpl : (backTo pos (starEach [] X.env)).any (·.1) = false := by with_unfolding_all rfl) : WE X (.Call (.Name "len" p) [e] [] pos) σ H Q :=
  w_callB c m bt_len (wa_cons (WE.imp h fun x H1 ⟨D, xs, ex, l, q⟩ => wa_nil (by rw [ex]; exact c_lenT l q)) hs) hs hpl
theorem x_setT (c : Nm X N L S G B) (m : Mb "set" B) (h : WE X e σ H fun x H1 => ∃ a, ∃ ns : List Int, x = .ref a ∧ H1 a = some (LstT a (ns.map V.int)) ∧ ns.Nodup ∧ (∀ k ∈ ns, Sm k) ∧ ns.length ≤ 12000 ∧ ∀ p H', H1 p = none → Same H1 H' → H' p = some (BigO p (fun k => ns.any (· == k))) → Q (.ref p) H') (hs : starEach [e] X.env = (false, eval e X.env) :: starEach [] X.env := by with_unfolding_all rfl) (hpl : (backTo pos (starEach [] X.env)).any (·.1) = false := by with_unfolding_all rfl) : WE X (.Call (.Name "set" p) [e] [] pos) σ H Q :=
  w_callTy c m bt_set (wa_cons (WE.imp h fun x H1 ⟨a, ns, ex, l, h1, h2, h3, q⟩ => wa_nil (by rw [ex]; exact c_setT c.calm l h1 h2 h3 q)) hs) hs hpl
end
end Sv

/-! C( *e) that may let an error out. -/
namespace Sv
open PySem PySem.Spec PyProof.Rows L2
section
variable {X : Cx} {N L S G B : List Str} {x : Str} {e : Expr} {σ : L2.St} {H : Hp} {Q : VK} {p pos spos : Pos} {C : Addr} {j k : Nat} {sp : Sp} {E : XK}
theorem run_mkrA {pins : List (Addr × Obj)} {s1 : Shared} {us : List Value} {vs : List V} (F : Mkr X.prog X.w X.K X.mg X.base C k sp) (hr : Room j X.A) (hj : k + 1 ≤ j) (hx : PassesAt (L2.CX X.prog X.w) X σ E) (I1 : Inv X pins σ H s1) (r : Vals vs us) (q : Made C sp vs H Q E) :
    wpAny (model X.prog X.w) X.A (call (.ref C) us) (EP X pins σ Q) X.xe s1 := by
  obtain ⟨f, M, F⟩ := F.ex
  have n1 : H (s1.heap.objs.size + 1) = none := I1.hok.fresh (Nat.le_succ _)
  have n2 : H s1.heap.objs.size = none := I1.hok.fresh (Nat.le_refl _)
  have ne : s1.heap.objs.size ≠ s1.heap.objs.size + 1 := Nat.ne_of_lt (Nat.lt_succ_self _)
  have I2 := Inv.made (C := C) I1
  have go := q (s1.heap.objs.size + 1) s1.heap.objs.size (upd (upd H s1.heap.objs.size (.own (s1.heap.objs.size + 1))) (s1.heap.objs.size + 1) (.ins C s1.heap.objs.size [])) n1 n2 ne
    ((same_new n2).trans (same_new (by rw [upd_ne (Ne.symm ne)]; exact n1))) (by rw [upd_ne ne]; exact upd_same) upd_same
  have r2 : Vals (V.ref (s1.heap.objs.size + 1) :: vs) (Value.ref (s1.heap.objs.size + 1) :: us) := .cons rfl r
  refine wpAny_call (make_map (f := f) I1.kIn M.makes M.init (beq_iff_eq.mp M.fn) (codeAny_mono (F _ X.stack _ _ (Value.ref (s1.heap.objs.size + 1) :: us) _ _ E ((hr.mono hj).make C us []) (I2.env0.make C us []) r2 go) fun r s' hq => ?_))
  have z := back_at hx I2 hq
  cases r with
  | error e => exact z
  | ok fl =>
    cases fl with
    | ret u =>
      obtain ⟨v, H', I3, rv, ev, q3⟩ := (show EP X pins σ _ u s' from z)
      subst ev
      exact ⟨rv, V.ref (s1.heap.objs.size + 1), H', I3, rfl, q3⟩
    | next => exact (show False from z).elim
    | brk => exact (show False from z).elim
    | cont => exact (show False from z).elim
theorem w_makeSA (c : Nm X N L S G B) (mm : Mb x G) (hm : X.mg x = some (.ref C)) (F : Mkr X.prog X.w X.K X.mg X.base C k sp) (hr : Room j X.A) (hj : k + 1 ≤ j) (hx : PassesAt (L2.CX X.prog X.w) X σ E)
    (h : WE X e σ H fun y H1 => ∃ a xs, y = .ref a ∧ (SqT X.K H1 a xs ∨ SqL X.K H1 a xs) ∧ Made C sp xs H1 Q E)
    (hst : starEach [.Starred e spos] X.env = [(true, eval e X.env)] := by with_unfolding_all rfl) : WE X (.Call (.Name x p) [.Starred e spos] [] pos) σ H Q := by
  have kp := F.ex
  obtain ⟨f, M, _⟩ := kp
  obtain ⟨ga, gb, gd⟩ := c.glo x mm.mem
  refine ⟨fun pins s I => wpAny_Call_Name_kw (ld_glob I ga hm ?_ gb)⟩
  refine PySem.W.callWith_S (first := []) (h₀ := X.base) I.ok.mod.kin M.kp (thn (h.run pins s I) fun v s1 ⟨y, H1, I1, ry, a, xs, ey, hxs, q⟩ => ?_) hst
  subst ey
  obtain rfl : v = Value.ref a := ry
  exact StX.star_any I1 hxs fun us s2 I2 rv => ⟨I2.kIn, run_mkrA F hr hj hx I2 rv q⟩
end
end Sv

/-! dict displays, dict(d), o[i] = v of a dict as a target. -/
namespace Sv
open PySem PySem.Spec PyProof.Rows L2
section
variable {X : Cx} {N L S G B : List Str} {e : Expr} {σ : L2.St} {H : Hp} {Q : VK} {p pos : Pos}
theorem pps_w {X : Cx} {pos : Pos} : ∀ (ks vs : List Expr), PPs X pos ((ks.zip vs).map fun z => some z.1) ((ks.zip vs).map (·.2)) ((ks.zip vs).map fun z => (WE X z.1, WE X z.2))
  | [], _ => pps_nil
  | _ :: _, [] => pps_nil
  | k :: ks, v :: vs => pps_cons pe_w pe_w (pps_w ks vs)
/-- {k: v, ..} of keys ints and texts -/
theorem w_disp (ks vs : List Expr) (h : ∀ p, H p = none → tPairs ((ks.zip vs).map fun z => (WE X z.1, WE X z.2)) σ (upd H p (.dK [])) fun ps H2 => H2 p = some (.dK []) ∧ ∃ kvs : List (Key × V), ps = kvs.map (fun kv => (kV kv.1, kv.2)) ∧ kvs.length ≤ 15 ∧ Q (.ref p) (upd H2 p (.dK (mergeK [] kvs))))
    (h0 : ((ks.zip vs).map fun z => some z.1) ≠ [] := by exact fun z => nomatch z) (h15 : ((ks.zip vs).map fun z => some z.1).length ≤ 15 := by decide) (hall : ((ks.zip vs).map fun z => some z.1).all (·.isSome) = true := by rfl) :
    WE X (.Dict ((ks.zip vs).map fun z => some z.1) ((ks.zip vs).map (·.2)) pos) σ H Q :=
  (pe_disp (pps_w ks vs) hall (by rw [List.length_map, List.length_map]) h0 h15).w h
/-- dict(d) -/
theorem x_dictD (c : Nm X N L S G B) (m : Mb "dict" B) (h : WE X e σ H fun x H1 => ∃ (a : Addr) (kvs : List (Key × V)), x = .ref a ∧ H1 a = some (.dK kvs) ∧ ∀ p H', H1 p = none → Same H1 H' → H' p = some (.dK kvs) → Q (.ref p) H')
    (hs : starEach [e] X.env = (false, eval e X.env) :: starEach [] X.env := by with_unfolding_all rfl) (hpl : (backTo pos (starEach [] X.env)).any (·.1) = false := by with_unfolding_all rfl) : WE X (.Call (.Name "dict" p) [e] [] pos) σ H Q :=
  w_callTy c m bt_dict (wa_cons (WE.imp h fun x H1 ⟨a, kvs, ex, hq, q⟩ => wa_nil (by rw [ex]; exact call_dictD.w ⟨a, kvs, rfl, .inl hq, newly' (Q := fun p H' => Q (.ref p) H') q⟩)) hs) hs hpl
/-- o[i] = v of a dict, as a target -/
theorem wg_subD {Q : L2.St → Hp → Prop} {o i : Expr} {v : V} (hu : X.A.units + 1 < cLine) (h : WE X o σ H fun x H1 => WE X i σ H1 fun y H2 => ∃ a H', x = .ref a ∧ DPut H2 a y v H' ∧ Q σ H')
    (ha : ∀ v, assign (.Subscript o i pos) X.env v = (do
      let ov ← holding [v] (eval o X.env)
      let iv ← holding [v, ov] (eval i X.env)
      standAt pos
      holding [v, ov, iv] (setItem ov iv v)
      release [v, ov, iv] []) := by intro _; with_unfolding_all rfl) : WG X (.Subscript o i pos) v σ H Q := (pg_sub pe_w pe_w (set_dict hu) ha).w (WE.imp h fun x H1 h1 => WE.imp h1 fun y H2 ⟨a, H', ex, g, q⟩ => ⟨a, H', ex, g, q⟩)
end
end Sv

/-! a dict is locked around an expression; == of dicts of dicts of data; sorted(d) -/
namespace Sv
open PySem PySem.Spec PyProof.Rows L2
section
variable {X : Cx} {N L S G B : List Str} {e : Expr} {σ : L2.St} {H : Hp} {Q : VK} {p pos : Pos}
theorem w_lockD {d : Addr} {kvs : List (Key × V)} (hd : H d = some (.dK kvs)) (h : ∀ od, WE X e σ (upd H d (.frz od (.dK kvs))) fun v H' => H' d = some (.frz od (.dK kvs)) ∧ Q v (upd H' d (.dK kvs))) : WE X e σ H Q := (pe_lock pe_w).w ⟨d, _, hd, True.intro, h⟩
theorem lock_back {H' : Hp} {d : Addr} {od : Obj} {u : HO} (hd : H d = some u) (e : Same (upd H d (.frz od u)) H') : Same H (upd H' d u) := fun b o h => by
  by_cases q : b = d
  · subst q
    rw [upd_same, ← hd, h]
  · rw [upd_ne q]
    exact e b o (by rw [upd_ne q]; exact h)
theorem wi_keys {tg : Expr} {R : It → Hp → Prop} (h : WE X e σ H fun x H1 => ∃ d o kvs, x = .ref d ∧ H1 d = some (.frz o (.dK kvs)) ∧ R (Itk d o kvs) H1) : WI X tg e σ H R :=
  (pi_keys pe_w).w (WE.imp h fun x H1 ⟨d, o, kvs, e1, e2, q⟩ => ⟨d, o, e1, .inl ⟨kvs, e2, q⟩⟩)
theorem wlk_keysS {d : Addr} {o : Obj} {kvs : List (Key × V)} {ks : List Str} {H1 : Hp} (h : H1 d = some (.frz o (.dK kvs))) (hk : kvs.map (·.1) = ks.map Sum.inr) : Wlk (Itk d o kvs) ks.length (fun i => .str (ks.getD i "")) H1 :=
  have hl : kvs.length = ks.length := by have := congrArg List.length hk; rwa [List.length_map, List.length_map] at this
  { go := fun i H hi e => ⟨e _ _ h, by omega⟩
    yld := fun i H v H' hi e y => by
      obtain ⟨rfl, k, w, hkv, rfl⟩ := y
      refine ⟨?_, rfl⟩
      have h2 : (kvs.map (·.1))[i]? = some k := by rw [List.getElem?_map, hkv]; rfl
      rw [hk, List.getElem?_map, List.getElem?_eq_getElem hi] at h2
      injection h2 with h2
      rw [← h2, List.getD_eq_getElem?_getD, List.getElem?_eq_getElem hi]; rfl
    stop := fun i H hi e => ⟨e _ _ h, by omega⟩ }
theorem lock_at {d b : Addr} {od : Obj} {u o : HO} (h : H b = some o) (n : b ≠ d) : upd H d (.frz od u) b = some o := by rw [upd_ne n]; exact h
theorem bt_sorted : bootBuiltins "sorted" = some (.builtin "sorted") := by decide +kernel
theorem x_sortedD (c : Nm X N L S G B) (m : Mb "sorted" B) (h : WE X e σ H fun x H1 => ∃ (a : Addr) (kvs : List (Key × V)) (ks : List Str), x = .ref a ∧ H1 a = some (.dK kvs) ∧ kvs.map (·.1) = ks.map Sum.inr ∧ ks.length < 64 ∧ ∀ (ys : List Str) p H', ys.Perm ks → H1 p = none → Same H1 H' → H' p = some (.lst (ys.map V.str)) → Q (.ref p) H')
    (hs : starEach [e] X.env = (false, eval e X.env) :: starEach [] X.env := by with_unfolding_all rfl) (hpl : (backTo pos (starEach [] X.env)).any (·.1) = false := by with_unfolding_all rfl) : WE X (.Call (.Name "sorted" p) [e] [] pos) σ H Q :=
  w_callB c m bt_sorted (wa_cons (WE.imp h fun x H1 ⟨a, kvs, ks, ex, ha, hk, hl, q⟩ => wa_nil (by rw [ex]; exact (call_sortedD c.calm).w ⟨a, kvs, ks, rfl, .inl ha, hk, hl, fun ys p hp _ hn => newly (Q := fun H' => Q (.ref p) H') (fun H' s h => q ys p H' hp hn s h) hn⟩)) hs) hs hpl
theorem b_neNil {a b : Addr} {xs : List V} (hu : X.A.units + 64 < cLine) (ha : H a = some (.lst xs)) (hb : H b = some (.lst [])) (q : Q (.bl (!decide (xs = []))) H) : WB X (compareOp .NotEq) (.ref a) (.ref b) σ H Q := by
  by_cases hx : xs = []
  · subst hx
    rw [decide_eq_true rfl] at q
    exact (op_neD hu).w ⟨.list [], .list [], .lst (.inl (.inl ha)) .nil, .lst (.inl (.inl hb)) .nil, by decide +kernel, by decide +kernel, by rw [show PyData.eqv (.list []) (.list []) = true by decide +kernel]; exact q⟩
  · rw [decide_eq_false hx] at q
    refine ⟨fun pins s v u I rx ry => ?_⟩
    obtain rfl : v = Value.ref a := rx
    obtain rfl : u = Value.ref b := ry
    obtain ⟨us, r1, p1, _⟩ := I.list (a := a) (xs := xs) (.inl (.inl ha))
    obtain ⟨ws, r2, p2, _⟩ := I.list (a := b) (xs := []) (.inl (.inl hb))
    cases r2
    have hl := r1.length
    have hne : xs.length ≠ 0 := fun z => hx (List.length_eq_zero_iff.mp z)
    exact SeqAt.RcNeAt.lists_lengths p1.isList p2.isList (by simp; intro z; rw [z] at hl; exact hne hl) (by omega) _ _ _ _ ⟨.bl true, H, I, rfl, q⟩
end
/-! ### == of dicts -/
theorem valueAt_mem {K : Type} [DecidableEq K] : ∀ {kvs : List (K × Value)}, (kvs.map (·.1)).Nodup → ∀ {k : K} {v : Value}, (k, v) ∈ kvs → valueAt kvs k = some v
  | [], _, _, _, h => absurd h List.not_mem_nil
  | (k', v') :: r, nd, k, v, h => by
    rw [List.map_cons, List.nodup_cons] at nd
    unfold valueAt
    rw [List.find?_cons]
    rcases List.mem_cons.mp h with e | h'
    · injection e with e1 e2
      subst e1 e2
      simp
    · have : ¬ k' = k := fun z => nd.1 (List.mem_map.mpr ⟨(k, v), h', by rw [z]⟩)
      simp only [decide_eq_false this]
      exact valueAt_mem nd.2 h'
theorem hits_self {K : Type} [DecidableEq K] {P : Program} {w : World} {A : Around} {s : Shared} {vb : List (K × Value)} (nd : (vb.map (·.1)).Nodup) : ∀ (r : List (K × Value)), (∀ p ∈ r, p ∈ vb) → PySem.W.KeqHitsP P w A s vb r true
  | [], _ => .nil
  | (k, v) :: r, h => by
    show PySem.W.KeqHitsP P w A s vb ((k, v) :: r) (true && true)
    exact .hit (valueAt_mem nd (h _ List.mem_cons_self)) (SeqAt.EqAt.same _).eqP (hits_self nd r fun p hp => h p (List.mem_cons_of_mem _ hp))
theorem b_eqSelf {X : Cx} {σ : L2.St} {H : Hp} {Q : VK} {a : Addr} {ks : List (Key × V)} (hu : X.A.units < cLine) (ha : H a = some (.dK ks)) (q : Q (.bl true) H) : WB X (compareOp .Eq) (.ref a) (.ref a) σ H Q := by
  refine ⟨fun pins s v u I rx ry => ?_⟩
  obtain rfl : v = Value.ref a := rx
  obtain rfl : u = Value.ref a := ry
  obtain ⟨_, ya, va, ra, da⟩ := (show ObjOk X.prog X.w H s.heap a (.dK ks) from I.hok a _ ha)
  have nd : (va.map (·.1)).Nodup := by obtain ⟨_, _, _, _, _, _, _, _, nd⟩ := id da; exact nd
  refine PySem.W.rcP_dicts (knd := mixKind X.prog X.w) (r := true) ya ya da da hu (fun _ => hits_self nd va fun _ h => h) _ _ ?_
  rw [show (va.length == va.length && true) = true by simp]
  exact ⟨.bl true, H, I, rfl, q⟩
/-- plain data -/
def CmL (K : PySem.W.Frag) (H : Hp) (x y : V) : Prop := ∃ d e, Dp K H x d ∧ Dp K H y e ∧ d.plain = true ∧ e.plain = true ∧ d.depth ≤ 20
/-- two dicts whose values under the same key may be compared -/
def CmD (H : Hp) (F : V → V → Prop) (x y : V) : Prop := ∃ a b ks ls, x = .ref a ∧ y = .ref b ∧ H a = some (.dK ks) ∧ H b = some (.dK ls) ∧ ∀ k v u, valV ks k = some v → valV ls k = some u → F v u
theorem hits_some {P : Program} {w : World} {A : Around} {s : Shared} {F : V → V → Prop} (ih : ∀ x y v u, F x y → RelV x v → RelV y u → ∃ b, SeqAt.EqP P w A s v u b) {ls : List (Key × V)} {vb : List (Key × Value)} (rb : KV ls vb) {ks : List (Key × V)} {va : List (Key × Value)}
    (ra : KV ks va) : (∀ p ∈ ks, ∀ u, valV ls p.1 = some u → F p.2 u) → ∃ r, PySem.W.KeqHitsP P w A s vb va r := by
  unfold KV at ra
  induction ra with
  | nil => exact fun _ => ⟨true, .nil⟩
  | @cons p q ps qs h t k =>
    intro hp
    obtain ⟨h1, h2⟩ := h
    obtain ⟨key, v⟩ := q
    have h1' : p.1 = key := h1
    obtain ⟨r, hr⟩ := k fun p' hm => hp p' (List.mem_cons_of_mem _ hm)
    have rv := rb.val p.1
    cases e : valV ls p.1 with
    | none =>
      rw [e, h1'] at rv
      refine ⟨false, .miss ?_⟩
      cases hv : valueAt vb key with
      | none => rfl
      | some y => rw [hv] at rv; exact (show False from rv).elim
    | some u =>
      rw [e] at rv
      obtain ⟨y, hy, ry⟩ := rv.some_of
      rw [h1'] at hy
      obtain ⟨b, hb⟩ := ih _ _ _ _ (hp p List.mem_cons_self u e) h2 ry
      exact ⟨b && r, .hit hy hb hr⟩
section
variable {X : Cx} {pins : List (Addr × Obj)} {σ : L2.St} {H : Hp} {s : Shared}
theorem cmL_run (I : Inv X pins σ H s) {A : Around} (hu : A.units + 20 < cLine) {x y : V} {v u : Value} (h : CmL X.K H x y) (rx : RelV x v) (ry : RelV y u) : ∃ b, SeqAt.EqP X.prog X.w A s v u b := by
  obtain ⟨d, e, hd, he, pd, pe, hdp⟩ := h
  obtain ⟨as, r1⟩ := Dp.reads I d x v hd rx
  obtain ⟨bs, r2⟩ := Dp.reads I e y u he ry
  exact ⟨_, (SeqAt.eqAt_plain d e A s v u as bs r1 r2 pd pe (by omega)).eqP⟩
theorem cmD_run (I : Inv X pins σ H s) {A : Around} {F : V → V → Prop} (hu : A.units < cLine) (ih : ∀ x y v u, F x y → RelV x v → RelV y u → ∃ b, SeqAt.EqP X.prog X.w A.in1 s v u b) {x y : V} {v u : Value} (h : CmD H F x y) (rx : RelV x v) (ry : RelV y u) :
    ∃ b, ∀ E Q : Value → Shared → Prop, Q (.bool b) s → wpAny (model X.prog X.w) A (richCompare .Eq v u) Q E s := by
  obtain ⟨a, b, ks, ls, rfl, rfl, ha, hb, hp⟩ := h
  obtain rfl : v = Value.ref a := rx
  obtain rfl : u = Value.ref b := ry
  obtain ⟨_, ya, va, ra, da⟩ := (show ObjOk X.prog X.w H s.heap a (.dK ks) from I.hok a _ ha)
  obtain ⟨_, yb, vb, rb, db⟩ := (show ObjOk X.prog X.w H s.heap b (.dK ls) from I.hok b _ hb)
  have nd : (va.map (·.1)).Nodup := by obtain ⟨_, _, _, _, _, _, _, _, nd⟩ := id da; exact nd
  have ndk : (ks.map (·.1)).Nodup := by rw [ra.keys]; exact nd
  obtain ⟨r, hr⟩ := hits_some ih rb ra fun p hm u e => hp p.1 p.2 u (val_nodup ndk p hm) e
  exact ⟨_, fun E Q q => PySem.W.rcP_dicts (knd := mixKind X.prog X.w) (r := r) ya yb da db hu (fun _ => hr) E Q q⟩
theorem cmD_eq (I : Inv X pins σ H s) {A : Around} {F : V → V → Prop} (hu : A.units < cLine) (ih : ∀ x y v u, F x y → RelV x v → RelV y u → ∃ b, SeqAt.EqP X.prog X.w A.in1 s v u b) {x y : V} {v u : Value} (h : CmD H F x y) (rx : RelV x v) (ry : RelV y u) : ∃ b, SeqAt.EqP X.prog X.w A s v u b := by
  obtain ⟨k, hk⟩ := cmD_run I hu ih h rx ry
  obtain ⟨a, b, ks, ls, rfl, rfl, ha, hb, hp⟩ := h
  obtain rfl : v = Value.ref a := rx
  obtain rfl : u = Value.ref b := ry
  by_cases e : a = b
  · subst e
    exact ⟨_, (SeqAt.EqAt.same _).eqP⟩
  · exact ⟨_, SeqAt.eqP_refs e hk⟩
end
/-- dicts of data and of dicts of data: == gives a bool -/
theorem b_eqSome {X : Cx} {σ : L2.St} {H : Hp} {Q : VK} {x y : V} (hu : X.A.units + 64 < cLine) (h : CmD H (fun x y => CmL X.K H x y ∨ CmD H (CmL X.K H) x y) x y) (q : ∀ b, Q (.bl b) H) : WB X (compareOp .Eq) x y σ H Q := by
  refine ⟨fun pins s v u I rx ry => ?_⟩
  have h1 : ∀ x y v u, (CmL X.K H x y ∨ CmD H (CmL X.K H) x y) → RelV x v → RelV y u → ∃ b, SeqAt.EqP X.prog X.w X.A.in1 s v u b := fun x y v u h rx ry => by
    rcases h with h | h
    · exact cmL_run I (by show X.A.units + 1 + 20 < cLine; omega) h rx ry
    · exact cmD_eq I (by show X.A.units + 1 < cLine; omega) (fun x y v u h rx ry => cmL_run I (by show X.A.units + 1 + 1 + 20 < cLine; omega) h rx ry) h rx ry
  obtain ⟨b, hb⟩ := cmD_run I (by omega) h1 h rx ry
  exact hb _ _ ⟨.bl b, H, I, rfl, q b⟩
end Sv

/-! a comprehension over d.items(), d a locked dict -/
namespace Sv
open PySem PySem.Spec PyProof.Rows L2
theorem wlk_items {d : Addr} {o : Obj} {kvs : List (Key × V)} {H1 : Hp} (h : H1 d = some (.frz o (.dK kvs))) : WlkT (Iti d o kvs) kvs.length (fun i => [kV (kvs.getD i (.inl 0, .non)).1, (kvs.getD i (.inl 0, .non)).2]) H1 where
  go := fun i H hi e => ⟨e _ _ h, hi⟩
  yld := fun i H v H' hi e y => by
    obtain ⟨T, k, w, hk, rfl, hT, rfl⟩ := y
    refine ⟨T, rfl, hT, ?_⟩
    rw [List.getD_eq_getElem?_getD, hk]; rfl
  stop := fun i H hi e => ⟨e _ _ h, hi⟩
section
variable {X : Cx} {e : Expr} {σ : L2.St} {H : Hp} {R : It → Hp → Prop} {apos pos : Pos}
theorem wi_items {elts : List Expr} {kk : Nat} {tpos : Pos} (h : WE X e σ H fun x H1 => ∃ d o kvs, x = .ref d ∧ H1 d = some (.frz o (.dK kvs)) ∧ R (Iti d o kvs) H1)
    (hbase : attributeBase e "items" X.env (eval e X.env) = eval e X.env := by with_unfolding_all rfl) (hline : (apos.endLine == pos.line) = true := by with_unfolding_all rfl) : WI X (.Tuple elts kk tpos) (.Call (.Attribute e "items" apos) [] [] pos) σ H R :=
  (pi_items pe_w hbase hline).w h
end
end Sv

/-! `<` of tuples of ints, for sorted of pairs (tuple of ints, text) -/
namespace Sv
open PySem PySem.Spec PyProof.Rows L2
theorem lexAt_shift {e r : Nat → Bool} {z : Bool} : ∀ (k i : Nat), Ob.lexAt e r z (i + 1) k = Ob.lexAt (fun j => e (j + 1)) (fun j => r (j + 1)) z i k
  | 0, i => rfl
  | k + 1, i => by
    rw [Ob.lexAt_succ, Ob.lexAt_succ, lexAt_shift k (i + 1)]
theorem lexAt_lt : ∀ (ns ms : List Int), Ob.lexAt (fun j => decide (ns.getD j 0 = ms.getD j 0)) (fun j => decide (ns.getD j 0 < ms.getD j 0)) (decide (ns.length < ms.length)) 0 (min ns.length ms.length) = HT.lexLt ns ms
  | [], [] => by rw [HT.lexLt_nil_nil]; rfl
  | [], c :: ms => by
    rw [HT.lexLt_nil_cons, List.length_nil, Nat.zero_min, Ob.lexAt_zero]
    exact decide_eq_true (Nat.succ_pos _)
  | a :: ns, [] => by
    rw [HT.lexLt_cons_nil, List.length_nil, Nat.min_zero, Ob.lexAt_zero]
    exact decide_eq_false (Nat.not_lt_zero _)
  | a :: ns, c :: ms => by
    rw [HT.lexLt_cons, List.length_cons, List.length_cons, show min (ns.length + 1) (ms.length + 1) = min ns.length ms.length + 1 by omega, Ob.lexAt_succ, lexAt_shift, ← lexAt_lt ns ms]
    have e : decide (ns.length + 1 < ms.length + 1) = decide (ns.length < ms.length) := decide_eq_decide.mpr (by omega)
    rw [e]
    by_cases h : a = c
    · rw [if_pos h, if_pos (decide_eq_true (show (a :: ns).getD 0 0 = (c :: ms).getD 0 0 from h))]; rfl
    · rw [if_neg h, if_neg (by rw [decide_eq_false (show ¬ (a :: ns).getD 0 0 = (c :: ms).getD 0 0 from h)]; decide)]; rfl
theorem lt_ints {A : Around} {s : Shared} {a b : Addr} {its its2 : List Value} {ns ms : List Int} (hl : s.heap.IsTuple a its.toArray) (hb : s.heap.IsTuple b its2.toArray) (i1 : IntsAre its ns) (i2 : IntsAre its2 ms) (hu : A.units < cLine) : Ob.RcOp .Lt A s (.ref a) (.ref b) (HT.lexLt ns ms) := by
  have e1 : its.toArray.size = ns.length := by rw [List.size_toArray]; exact i1.length
  have e2 : its2.toArray.size = ms.length := by rw [List.size_toArray]; exact i2.length
  have at1 : ∀ j (h1 : j < its.toArray.size), ∃ t, its.toArray[j] = .int (ns.getD j 0) t := fun j h1 => PyProof.Rows.IntsAre.int_at i1 _ _ (by simp at h1; simp [h1])
  have at2 : ∀ j (h1 : j < its2.toArray.size), ∃ t, its2.toArray[j] = .int (ms.getD j 0) t := fun j h1 => PyProof.Rows.IntsAre.int_at i2 _ _ (by simp at h1; simp [h1])
  have R := Ob.RcOp.tuples_lt (A := A) (s := s) (e := fun j => decide (ns.getD j 0 = ms.getD j 0)) (r := fun j => decide (ns.getD j 0 < ms.getD j 0)) hl hb hu (fun j h1 h2 => by
    obtain ⟨t, et⟩ := at1 j h1
    obtain ⟨t', et'⟩ := at2 j h2
    rw [et, et']
    have z : (ns.getD j 0 == ms.getD j 0) = decide (ns.getD j 0 = ms.getD j 0) := by
      by_cases q : ns.getD j 0 = ms.getD j 0
      · rw [decide_eq_true q]; exact beq_iff_eq.mpr q
      · rw [decide_eq_false q]; exact beq_eq_false_iff_ne.mpr q
    rw [← z]
    exact SeqAt.EqAt.int_int _ _ _ _) (fun j h1 h2 _ => by
    obtain ⟨t, et⟩ := at1 j h1
    obtain ⟨t', et'⟩ := at2 j h2
    rw [et, et']
    exact Ob.RcOp.lt_int _ _ _ _)
  rw [e1, e2, lexAt_lt] at R
  exact R
theorem eqvAll_ints : ∀ ns ms : List Int, PyData.eqvAll (ns.map PyData.int) (ms.map PyData.int) = decide (ns = ms)
  | [], [] => rfl
  | [], _ :: _ => rfl
  | _ :: _, [] => rfl
  | a :: ns, c :: ms => by
    show (PyData.eqv (.int a) (.int c) && PyData.eqvAll (ns.map PyData.int) (ms.map PyData.int)) = _
    rw [eqvAll_ints ns ms]
    show ((a == c) && decide (ns = ms)) = _
    by_cases h : a = c
    · subst h; simp
    · simp [h]
theorem readsAll_ints {h : Heap} : ∀ {its : List Value} {ns : List Int}, IntsAre its ns → ReadsAll h its (ns.map PyData.int) []
  | _, _, .nil => .nil
  | _, _, .cons a t r => .cons (.int a t) (readsAll_ints r)
theorem reads_ints {h : Heap} {T : Addr} {its : List Value} {ns : List Int} (hT : h.IsTuple T its.toArray) (i : IntsAre its ns) : ∃ as, Reads h (.ref T) (.tuple (ns.map PyData.int)) as := by
  obtain ⟨o, ho, hc, n, hd⟩ := hT
  exact ⟨_, .tuple ho hc hd (by simpa using readsAll_ints i)⟩
theorem lay_ints : ∀ ns : List Int, PyData.canLayAll0 (ns.map PyData.int) = true
  | [] => rfl
  | _ :: ns => by
    show (true && PyData.canLayAll0 (ns.map PyData.int)) = true
    rw [lay_ints ns]; rfl
theorem depth_ints : ∀ ns : List Int, PyData.depthAll (ns.map PyData.int) ≤ 1
  | [] => by simp [PyData.depthAll]
  | n :: ns => by
    have := depth_ints ns
    simp only [List.map_cons, PyData.depthAll, PyData.depth]
    omega
theorem ot_keylt {prog : Program} {w : World} {A : Around} {s : Shared} {x y T U : Addr} {ox oy : Obj} {n k : Nat} {its its2 : List Value} {ns ms : List Int} {z1 z2 : Str} {t1 t2 : Tok} (hx : s.heap.get? x = some ox) (dx : ox.data = .seq #[.ref T, .str z1 t1] n) (hy : s.heap.get? y = some oy) (dy : oy.data = .seq #[.ref U, .str z2 t2] k)
    (hT : s.heap.IsTuple T its.toArray) (hU : s.heap.IsTuple U its2.toArray) (i1 : IntsAre its ns) (i2 : IntsAre its2 ms) (hz : ns = ms → z1 = z2) (hu : A.units + 8 < cLine) : wpAny (model prog w) A (keyLt' (tuples' false) (.ref x) (.ref y)) (fun r s' => s' = s ∧ r = HT.lexLt ns ms) (fun _ _ => False) s := by
  refine PySem.W.kat_lt hx dx hy dy ?_
  show PySem.W.KatLex prog w A false _ _ [(.ref T, .ref U), (.str z1 t1, .str z2 t2)] 0 s
  refine PySem.W.kat_cons ?_
  obtain ⟨as, ra⟩ := reads_ints hT i1
  obtain ⟨bs, rb⟩ := reads_ints hU i2
  have d1 := depth_ints ns
  have l1 : PyData.canLay0 (.tuple (ns.map PyData.int)) = true := lay_ints ns
  have l2 : PyData.canLay0 (.tuple (ms.map PyData.int)) = true := lay_ints ms
  have hd : (PyData.tuple (ns.map PyData.int)).depth ≤ 2 := by simp only [PyData.depth]; omega
  have hm : min (PyData.tuple (ns.map PyData.int)).depth (PyData.tuple (ms.map PyData.int)).depth ≤ 2 := Nat.le_trans (Nat.min_le_left _ _) hd
  refine PySem.SeqAt.eqBoolOverData prog w A _ s _ _ _ _ as bs _ ra rb l1 l2 (by omega) ?_
  have ev : PyData.eqv (.tuple (ns.map PyData.int)) (.tuple (ms.map PyData.int)) = decide (ns = ms) := eqvAll_ints ns ms
  rw [ev]
  by_cases h : ns = ms
  · rw [decide_eq_true h]
    refine PySem.W.kat_yes (PySem.W.kat_cons ?_)
    refine eqBool_str ?_
    rw [hz h, beq_self_eq_true]
    refine PySem.W.kat_yes (PySem.W.kat_nil ⟨rfl, ?_⟩)
    rw [h]
    exact ((NtL.swo_lexL (fun v : List Int => v)).refl ms).symm
  · rw [decide_eq_false h]
    refine PySem.W.kat_no ?_
    rw [oneLt'_eq]
    simp only [Bool.false_and, Bool.false_eq_true, if_false]
    refine wpAny_bind (lt_ints hT hU i1 i2 (by omega) prog w _ _ ?_)
    exact wpAny_pure ⟨rfl, rfl⟩
/-- a pair of a tuple of ints and a text -/
def IsOT (h : Heap) (v : Value) (ns : List Int) (z : Str) : Prop := ∃ (x T : Addr) (ox : Obj) (n : Nat) (its : List Value) (t : Tok), v = .ref x ∧ h.get? x = some ox ∧ ox.cls = .type "tuple" ∧ ox.data = .seq #[.ref T, .str z t] n ∧ h.IsTuple T its.toArray ∧ IntsAre its ns
theorem IsOT.keeps {h h' : Heap} {v : Value} {ns : List Int} {z : Str} (x : IsOT h v ns z) (k : ∀ b o, h.get? b = some o → o.cls = .type "tuple" → h'.get? b = some o) : IsOT h' v ns z := by
  obtain ⟨a, T, ox, n, its, t, e, g, c, d, ⟨o, ho, hc, m, hd⟩, i⟩ := x
  exact ⟨a, T, ox, n, its, t, e, k _ _ g c, c, d, ⟨o, k _ _ ho hc, hc, m, hd⟩, i⟩
theorem ot_firsts {h : Heap} : ∀ {vs : List Value}, (∀ v ∈ vs, ∃ ns z, IsOT h v ns z) → ∃ fs : List Value, PySem.W.KatTups h vs fs ∧ fs.length = vs.length ∧ ∀ f ∈ fs, ∃ (T : Addr) (o : Obj), f = .ref T ∧ h.get? T = some o ∧ o.cls = .type "tuple"
  | [], _ => ⟨[], PySem.W.KatTups.nil, rfl, fun _ hm => by simp at hm⟩
  | v :: vs, hp => by
    obtain ⟨fs, h1, h2, h3⟩ := ot_firsts (vs := vs) fun v' hm => hp v' (List.mem_cons_of_mem _ hm)
    obtain ⟨ns, z, x, T, ox, n, its, t, e, g, c, d, ⟨o, ho, hc, m, hd⟩, i⟩ := hp v (List.mem_cons_self ..)
    subst e
    refine ⟨.ref T :: fs, PySem.W.KatTups.cons g c d rfl h1, by rw [List.length_cons, List.length_cons, h2], fun f hm => ?_⟩
    rcases List.mem_cons.mp hm with rfl | hm
    · exact ⟨T, o, rfl, ho, hc⟩
    · exact h3 f hm
theorem ot_sortable {prog : Program} {w : World} {A : Around} {s : Shared} {a : Addr} {vs : List Value} {k : Value → List Int} {z : Value → Str} (h2 : 2 ≤ vs.length) (hu : A.units + 8 < cLine) (hv : ∀ v ∈ vs, IsOT s.heap v (k v) (z v)) (ha : ∀ o, s.heap.get? a = some o → o.cls ≠ .type "tuple") (hz : ∀ v ∈ vs, ∀ u ∈ vs, k v = k u → z v = z u) :
    SrtO.SortableO prog w A s a vs fun v u => HT.lexLt (k v) (k u) := by
  intro h' keep
  have hv' : ∀ v ∈ vs, IsOT h' v (k v) (z v) := fun v hm => (hv v hm).keeps fun b o e c => keep b o (fun q => by subst q; exact ha o e c) e
  obtain ⟨fs, f1, f2, f3⟩ := ot_firsts fun v hm => ⟨_, _, hv' v hm⟩
  refine ⟨tuples' false, fun Q E hq => ?_, fun p q hp hq => ?_⟩
  · refine PySem.W.kat_kind (s := { s with heap := h' }) (T := .type "tuple") f1 (by omega) (fun f hm => ?_) (by rfl) ?_
    · obtain ⟨T, o, rfl, ho, hc⟩ := f3 f hm
      rw [← hc]
      exact (PySem.W.Looks.ld ho).andThen .now
    · have e : (Value.type "tuple" != Value.type "tuple") = false := by first | decide +kernel | rfl | decide
      rw [e]
      exact hq
  · obtain ⟨x, T, ox, n, its, t, e1, g, c, d, hT, i⟩ := hv' p.1 hp
    obtain ⟨y, U, oy, m, its2, t2, e2, g2, c2, d2, hU, i2⟩ := hv' q.1 hq
    have := ot_keylt (prog := prog) (w := w) (A := A) (s := { s with heap := h' }) g d g2 d2 hT hU i i2 (hz p.1 hp q.1 hq) hu
    show wpAny (model prog w) A (keyLt' (tuples' false) p.1 q.1) (fun r s' => s' = { s with heap := h' } ∧ r = HT.lexLt (k p.1) (k q.1)) (fun _ _ => False) { s with heap := h' }
    rw [e1, e2]
    rw [e1, e2] at this
    exact this
/-- two lists of the same items, both in the order of r, r without ties: they are equal -/
theorem perm_sorted {α : Type} {r : α → α → Prop} : ∀ {l m : List α}, (∀ a ∈ l, ∀ b ∈ l, r a b → r b a → a = b) → l.Pairwise r → m.Pairwise r → m.Perm l → m = l
  | [], m, _, _, _, p => p.eq_nil
  | a :: l, [], _, _, _, p => absurd p.symm.eq_nil (by simp)
  | a :: l, b :: m, ht, h1, h2, p => by
    have ha : a ∈ b :: m := p.mem_iff.mpr List.mem_cons_self
    have hb : b ∈ a :: l := p.mem_iff.mp List.mem_cons_self
    rw [List.pairwise_cons] at h1 h2
    have e : b = a := by
      rcases List.mem_cons.mp ha with h | h
      · exact h.symm
      · rcases List.mem_cons.mp hb with k | k
        · exact k
        · exact ht b hb a List.mem_cons_self (h2.1 a h) (h1.1 b k)
    subst e
    rw [perm_sorted (fun a ha b hb => ht a (List.mem_cons_of_mem _ ha) b (List.mem_cons_of_mem _ hb)) h1.2 h2.2 (p.cons_inv)]
open Srt in
theorem sorted_OT {prog : Program} {w : World} {A : Around} {E : Value → Shared → Prop} {s : Shared} {l : Addr} {vs : List Value} {k : Value → List Int} {z : Value → Str} {Q : Value → Shared → Prop} (hl : s.heap.IsList l vs.toArray) (hn : vs.length ≤ sizeLine) (hu : A.units + 16 < cLine) (hp : ∀ v ∈ vs, IsOT s.heap v (k v) (z v)) (hz : ∀ v ∈ vs, ∀ u ∈ vs, k v = k u → z v = z u) (asc : vs.Pairwise fun x y => HT.lexLt (k x) (k y) = true)
    (h : ∀ (h' : Heap) (d : Addr), (∀ b o, s.heap.get? b = some o → h'.get? b = some o) → s.heap.objs.size ≤ d → (∃ n, h'.get? d = some (seqObj "list" vs.toArray n)) → Q (.ref d) { s with heap := h' }) :
    wpAny (model prog w) A (call (.builtin "sorted") [.ref l]) Q E s := by
  have O := NtL.swo_lexL k
  refine SrtO.sorted_ord O hl hn (fun h2 h₁ a ha kk => ?_) fun out hs hb => ?_
  · refine ot_sortable (z := z) (s := { s with heap := h₁ }) h2 (by show A.units + 1 + 1 + 8 < cLine; omega) (fun v hm => (hp v hm).keeps fun b o e _ => (kk b o e).2) (fun o e => ?_) hz
    have e' : some o = some (seqObj "list" vs.toArray 0) := e.symm.trans ha
    cases e'
    intro c
    exact absurd (Value.type.inj c) (by decide)
  · have e : out = vs := by
      refine perm_sorted (r := fun x y => HT.lexLt (k y) (k x) = false) (fun a ha b hb h1 h2 => ?_) (asc.imp fun {x y} q => O.asym x y q) hs hb.perm
      obtain ⟨i, hi, rfl⟩ := List.getElem_of_mem ha
      obtain ⟨j, hj, rfl⟩ := List.getElem_of_mem hb
      have pw := List.pairwise_iff_getElem.mp asc
      rcases Nat.lt_trichotomy i j with q | q | q
      · rw [pw i j hi hj q] at h2; cases h2
      · subst q; rfl
      · rw [pw j i hj hi q] at h1; cases h1
    rw [e]
    exact h _ _ (fun b o e => sortedAll_old e) (Nat.le_succ _) (sortedAll_at s.heap vs vs.toArray)
/-- sorted(xs), xs pairs of a tuple of ints (k) and a text (z), strictly ascending by k: a new list of the same -/
def rSortOT (K : PySem.W.Frag) : List V → Hp → VK → Prop := fun vs H Q => ∃ (a : Addr) (xs : List V) (k : V → List Int) (z : V → Str), vs = [V.ref a] ∧ SqL K H a xs ∧ (∀ x ∈ xs, ∃ t T, x = V.ref t ∧ H t = some (.tup [.ref T, .str (z x)]) ∧ H T = some (.tup ((k x).map V.int))) ∧
  (∀ x ∈ xs, ∀ y ∈ xs, k x = k y → z x = z y) ∧ (xs.Pairwise fun x y => HT.lexLt (k x) (k y) = true) ∧ ∀ p, H p = none → Q (.ref p) (upd H p (.lst xs))
theorem cr_sortedOT {X : Cx} (hu : X.A.units + 64 < cLine) : CallR X (.builtin "sorted") (rSortOT X.K) := by
  intro pins s σ H vs us Q I r h
  obtain ⟨a, xs, k, z, rfl, hs, hx, hzz, asc, q⟩ := h
  obtain ⟨its, rv, hl, hz⟩ := I.list hs
  obtain ⟨u, rfl, ru⟩ := vals1 r
  obtain rfl : u = Value.ref a := ru
  obtain ⟨e1, e2⟩ := refs_back rv fun x m => by
    obtain ⟨t, _, e, _⟩ := hx x m
    exact ⟨t, e⟩
  have hmem : ∀ v ∈ its, backV v ∈ xs := fun v hv => by rw [e1]; exact List.mem_map.mpr ⟨_, hv, rfl⟩
  refine sorted_OT (k := fun u => k (backV u)) (z := fun u => z (backV u)) hl.isList (by rw [← rv.length]; exact hz) (by omega) (fun v hv => ?_) (fun v hv u hu' e => hzz _ (hmem v hv) _ (hmem u hu') e) (by rw [e1, List.pairwise_map] at asc; exact asc) fun h' d kp hd hn => ?_
  · obtain ⟨t, rfl⟩ := e2 v hv
    have hm : V.ref t ∈ xs := hmem _ hv
    obtain ⟨t', T, e, ht, hT⟩ := hx _ hm
    cases e
    obtain ⟨_, its2, r2, o, ho, hc, n, hd⟩ := I.hok _ _ ht
    obtain ⟨u1, u2, rfl, ri, rj⟩ := vals2 r2
    obtain rfl : u1 = Value.ref T := ri
    obtain ⟨t2, rfl⟩ := rj
    obtain ⟨its3, r3, p3, _⟩ := I.tuple (.inl (.inl hT))
    exact ⟨t, T, o, n, its3, t2, rfl, ho, hc, hd, p3, Vals.ints r3⟩
  · obtain ⟨n, hn⟩ := hn
    refine ⟨.ref d, upd H d (.lst xs), I.laid (t' := s.toks) kp hd ⟨?_, its, n, rv, hn⟩, rfl, q d (I.hok.fresh hd)⟩
    exact hz
section
variable {X : Cx} {N L S G B : List Str} {e : Expr} {σ : L2.St} {H : Hp} {Q : VK} {p pos : Pos}
theorem x_sortedOT (c : Nm X N L S G B) (m : Mb "sorted" B) (hu : X.A.units + 64 < cLine) (h : WE X e σ H fun x H1 => ∃ (a : Addr) (xs : List V) (k : V → List Int) (z : V → Str), x = .ref a ∧ SqL X.K H1 a xs ∧ (∀ x ∈ xs, ∃ t T, x = V.ref t ∧ H1 t = some (.tup [.ref T, .str (z x)]) ∧ H1 T = some (.tup ((k x).map V.int))) ∧
      (∀ x ∈ xs, ∀ y ∈ xs, k x = k y → z x = z y) ∧ (xs.Pairwise fun x y => HT.lexLt (k x) (k y) = true) ∧ ∀ p, H1 p = none → Q (.ref p) (upd H1 p (.lst xs)))
    (hs : starEach [e] X.env = (false, eval e X.env) :: starEach [] X.env := by with_unfolding_all rfl) (hpl : (backTo pos (starEach [] X.env)).any (·.1) = false := by with_unfolding_all rfl) : WE X (.Call (.Name "sorted" p) [e] [] pos) σ H Q :=
  w_callB c m bt_sorted (wa_cons (WE.imp h fun x H1 ⟨a, xs, k, z, ex, q⟩ => wa_nil ((cr_sortedOT hu).w ⟨a, xs, k, z, by rw [ex], q⟩)) hs) hs hpl
end
end Sv

/-! list.count of texts; tuple(range(n)); <= of tuples of ints -/
namespace Sv
open PySem PySem.Spec PyProof.Rows L2
section
variable {X : Cx} {N L S G B : List Str} {a o e : Expr} {σ : L2.St} {H : Hp} {Q : VK} {p p2 p3 pos : Pos}
theorem vals_strs : ∀ {ys : List Str} {its : List Value}, Vals (ys.map V.str) its → StrsAre its ys
  | [], its, h => by cases h; exact .nil
  | y :: ys, its, h => by
    cases h with
    | @cons _ u _ ur r rs =>
      obtain ⟨t, rfl⟩ := r
      exact .cons y t (vals_strs rs)
theorem count_strs (k : Str) : ∀ ys : List Str, PySem.Spec.countIn (.str k) (ys.map PyData.str) = ((ys.countP fun y => decide (y = k) : Nat) : Int)
  | [] => rfl
  | y :: ys => by
    have h : PySem.Spec.same (.str y) (.str k) = decide (y = k) := by
      by_cases e : y = k <;> simp [PySem.Spec.same, e]
    rw [List.map_cons, PySem.Spec.countIn, count_strs k ys, List.countP_cons, h]
    by_cases e : y = k
    · rw [decide_eq_true e]
      simp only [if_true]
      omega
    · rw [decide_eq_false e]
      simp
theorem mt_countT : MtR X "list.count" (fun x xs H Q => ∃ (a : Addr) (ys : List Str) (k : Str), x = .ref a ∧ xs = [.str k] ∧ SqL X.K H a (ys.map V.str) ∧ Q (.int ((ys.countP fun y => decide (y = k) : Nat) : Int)) H) := by
  intro pins s σ H x xs v us Q I rx rxs h
  obtain ⟨a, ys, k, rfl, rfl, hs, q⟩ := h
  cases rx
  obtain ⟨u, rfl, hu⟩ := vals1 rxs
  obtain ⟨t, rfl⟩ := hu
  obtain ⟨its, rv, hl, hlen⟩ := I.list hs
  refine count_list_strs hl.isList (vals_strs rv) ?_
  rw [count_strs]
  exact ⟨.int _, H, I.tok _, ⟨_, rfl⟩, q⟩
/-- xs.count(t) of texts -/
theorem w_countT {apos : Pos} (h : WE X o σ H fun x H1 => ∃ (l : Addr) (ys : List Str), x = .ref l ∧ SqL X.K H1 l (ys.map V.str) ∧ WE X e σ H1 fun y H2 => ∃ k : Str, y = .str k ∧ SqL X.K H2 l (ys.map V.str) ∧ Q (.int ((ys.countP fun y => decide (y = k) : Nat) : Int)) H2)
    (hbase : attributeBase o "count" X.env (eval o X.env) = eval o X.env := by with_unfolding_all rfl)
    (hfew : ((backTo pos (starEach [e] X.env)).all (fun x => !x.1) && (backToKw pos (keywordEach [] X.env)).all (fun x => x.1.isSome)
      && decide ([e].length + ([] : List Keyword).length + (if ([] : List Keyword).isEmpty then 0 else 1) < 30)) = true := by with_unfolding_all rfl)
    (hline : (apos.endLine == pos.line) = true := by with_unfolding_all rfl) (hs : starEach [e] X.env = (false, eval e X.env) :: starEach [] X.env := by with_unfolding_all rfl) : WE X (.Call (.Attribute o "count" apos) [e] [] pos) σ H Q := by
  refine (pe_bm PySem.F.plainAttrs_list PySem.F.slot_list_count PySem.F.type_list_count mt_countT pe_w (pa_cons pe_w pa_nil hs) hbase hfew hline hs rfl).w ?_
  exact WE.imp h fun x H1 ⟨l, bs, e1, hx, q⟩ => ⟨by rw [e1]; exact Or.inl ⟨rfl, _, hx⟩, WE.imp q fun y H2 ⟨b, ey, h2, q⟩ => ⟨l, bs, b, e1, by rw [ey], h2, q⟩⟩
/-- tuple(range(n)) -/
theorem x_tupRg (c : Nm X N L S G B) (m : Mb "tuple" B) (m2 : Mb "range" B) (h : WE X a σ H fun x H1 => ∃ n : Nat, x = .int (n : Nat) ∧ n ≤ 16777216 ∧ ∀ q H', H1 q = none → Same H1 H' → H' q = some (.tup ((List.range n).map fun i => V.int ((i : Nat) : Int))) → Q (.ref q) H')
    (na2 : starEach [a] X.env = (false, eval a X.env) :: starEach [] X.env := by with_unfolding_all rfl)
    (na : starEach [.Call (.Name "range" p2) [a] [] p3] X.env = (false, eval (.Call (.Name "range" p2) [a] [] p3) X.env) :: starEach [] X.env := by with_unfolding_all rfl) : WE X (.Call (.Name "tuple" p) [.Call (.Name "range" p2) [a] [] p3] [] pos) σ H Q :=
  (pe_tupRg c.calm (c.bgl _ m.mem).1 (c.blt _ m.mem) (prg_1 (c.bgl _ m2.mem).1 (c.blt _ m2.mem) pe_w na2) na).w (WE.imp h fun x H1 ⟨n, e, hn, q⟩ => ⟨((n : Nat) : Int), e, RgOk.of_le (by omega) (by omega) (by omega) (by omega), fun q' hq => by rw [rgV_nat]; exact q q' _ hq (same_new hq) upd_same⟩)
/-- t <= u of tuples of ints -/
theorem b_leT {a b : Addr} {ns ms : List Int} (hu : X.A.units < cLine) (ha : SqT X.K H a (ns.map V.int)) (hb : SqT X.K H b (ms.map V.int)) (q : Q (.bl (Ob.lexAt (fun j => decide (ns.getD j 0 = ms.getD j 0)) (fun j => decide (ns.getD j 0 ≤ ms.getD j 0)) (decide (ns.length ≤ ms.length)) 0 (min ns.length ms.length))) H) : WB X (compareOp .LtE) (.ref a) (.ref b) σ H Q :=
  (op_leT hu).w ⟨a, b, ns, ms, rfl, rfl, ha, hb, q⟩
end
end Sv

namespace Sv
open PySem PySem.Spec PyProof.Rows L2
local macro_rules
  | `(tactic| walk_at "mb") => `(tactic| with_reducible (repeat' first | exact Mb.here | apply Mb.there))
local macro_rules
  | `(tactic| walk_at "at") => `(tactic| with_reducible (repeat' first | exact At.here | apply At.there))
local macro_rules
  | `(tactic| walk_at "put") => `(tactic| with_reducible (repeat' first | exact Put.here | apply Put.there))
local macro_rules
  | `(tactic| walk_at "hm") => `(tactic| first | rfl | exact nomark _ | with_unfolding_all rfl)
local macro_rules
  | `(tactic| walk_at "built") => `(tactic| first
    | refine x_len (by assumption) (by walk_at "mb") ?_
    | refine x_isi (by assumption) (by walk_at "mb") (by walk_at "mb") bt_int ?_
    | refine x_isi (by assumption) (by walk_at "mb") (by walk_at "mb") bt_bool ?_
    | refine x_isi (by assumption) (by walk_at "mb") (by walk_at "mb") bt_str ?_
    | refine x_all (by assumption) (by walk_at "mb") ?_
    | refine x_sum (by assumption) (by walk_at "mb") ?_
    | refine x_set (by assumption) (by walk_at "mb") ?_
    | refine x_max (by assumption) (by walk_at "mb") ?_
    | refine x_min (by assumption) (by walk_at "mb") ?_
    | refine x_dm (by assumption) (by walk_at "mb") ?_
    | refine x_abs (by assumption) (by walk_at "mb") ?_
    | refine x_int (by assumption) (by walk_at "mb") ?_
    | refine x_list (by assumption) (by walk_at "mb") ?_)
local macro_rules
  | `(tactic| walk_at "we") => `(tactic| first
    | (refine gNm ?_; refine w_name (by assumption) (by walk_at "at") (by walk_at "mb") ?_)
    | (refine gCn ?_; first | refine w_int ?_ | refine w_str ?_ | refine w_bl ?_ | refine w_non ?_)
    | (refine gCall ?_; walk_at "built")
    | refine w_bin ?_ | refine w_cmp ?_ (by walk_at "hm") | refine w_attr ?_ | refine w_ix ?_ | refine w_slice ?_ | refine w_and ?_ | refine w_or ?_ | refine w_one ?_ | refine w_not ?_ | refine w_un ?_ | refine w_if ?_
    | refine w_lst ?_ | refine w_tup ?_)
local macro_rules
  | `(tactic| walk_at "ws") => `(tactic| first
    | refine ws_set (by assumption) (by walk_at "mb") ?_ | refine ws_ret ?_ | refine ws_if ?_ | refine ws_expr ?_ | refine ws_retN ?_ | refine ws_pass ?_ | refine ws_break ?_ | refine ws_continue ?_)
local macro_rules
  | `(tactic| walk_at "wt") => `(tactic| first
    | refine wt_cmp ?_ (by walk_at "hm") | refine wt_of_ww (ww_and ?_) | refine wt_of_ww (ww_or ?_) | refine wt_not ?_ | refine wt_chain ?_ | refine wt_val ?_)
local macro_rules
  | `(tactic| walk_at "ww") => `(tactic| first | refine ww_and ?_ | refine ww_or ?_ | refine ww_and1 ?_ | refine ww_or1 ?_)
local macro_rules
  | `(tactic| walk_at "wb") => `(tactic| first
    | (refine gBo ?_; first | refine b_add ?_ | refine b_sub ?_)
    | (refine gCo ?_; first | refine b_lt ?_ | refine b_le ?_ | refine b_gt ?_ | refine b_ge ?_ | refine b_eqI ?_ | refine b_neI ?_ | refine b_eqS ?_ | refine b_neS ?_ | refine b_eqB ?_ | refine b_neB ?_ | refine b_isN ?_ | refine b_notN ?_ | refine b_isB ?_ | refine b_notB ?_))
local macro_rules
  | `(tactic| walk_at "v1") => `(tactic| with_reducible first
    | (refine gWE ?_; walk_at "we")
    | (refine gWB ?_; walk_at "wb")
    | (refine gWL ?_; refine wl_nil ?_)
    | (refine gWS ?_; walk_at "ws")
    | (refine gWT ?_; walk_at "wt")
    | (refine gWA ?_; first | refine wa_cons ?_ | refine wa_nil ?_)
    | (refine gWW ?_; walk_at "ww")
    | (refine gWU ?_; refine u_neg ?_)
    | (refine gWG ?_; refine wg_name (by assumption) (by walk_at "put") (by walk_at "mb") ?_)
    | (refine gWGs ?_; first | refine wgs_cons ?_ | refine wgs_nil ?_)
    | apply ite_t | apply ite_f | apply ite_nt | apply ite_nf | apply ite_nn | apply ite_rn | apply ite_nnn | apply ite_nrn
    | (apply gEx; first
        | (refine ⟨_, (by walk_at "put"), ?_⟩)
        | refine ⟨_, _, tInt, kit_self, ?_⟩ | refine ⟨_, _, tInt, kit_int_bool, ?_⟩ | refine ⟨_, _, tBl, kit_bool_int, ?_⟩ | refine ⟨_, _, tBl, kit_self, ?_⟩ | refine ⟨_, _, tStr, kit_self, ?_⟩ | refine ⟨_, _, tStr, kit_str_int, ?_⟩ | refine ⟨_, _, tInt, kit_int_str, ?_⟩
        | refine ⟨_, tru_bl, ?_⟩
        | refine ⟨_, rfl, ?_⟩)
    | apply wp_none | apply wp_some)
local macro_rules
  | `(tactic| walk_at "s") => `(tactic| first | walk_at "v1" | with_reducible refine wl_cons ?_)
local macro_rules
  | `(tactic| walk_at "w") => `(tactic| repeat walk_at "s")
local macro_rules
  | `(tactic| walk_at "v") => `(tactic| repeat walk_at "v1")
local macro_rules
  | `(tactic| walk_at "go") => `(tactic| refine wl_cons ?_)

section
variable {P : Program} {w : World} {K : PySem.W.Frag} {mg : Str → Option Value} {base : Heap} {f : Addr} {fd : FuncData}
/-- data that repr shows -/
structure Shw (K : PySem.W.Frag) (H : Hp) (v : V) (d : PyData) : Prop where
  dp : Dp K H v d
  sh : d.showable = true
  nd : d.hasDict = false
  dep : d.depth < 60
  len : d.shown.length ≤ sizeLine
mutual
theorem dp_same {H H' : Hp} (e : Same H H') : ∀ (d : PyData) (v : V), Dp K H v d → Dp K H' v d
  | .none, _, h => by cases h; exact .non
  | .bool b, _, h => by cases h; exact .bl b
  | .int i, _, h => by cases h; exact .int i
  | .str x, _, h => by cases h; exact .str x
  | .list ds, _, h => by
    cases h with
    | lst h1 h2 => exact .lst (Same.seq e h1) (dpall_same e ds _ h2)
  | .tuple ds, _, h => by
    cases h with
    | tup h1 h2 => exact .tup (same_t e h1) (dpall_same e ds _ h2)
  | .dict ds, _, h => by cases h
theorem dpall_same {H H' : Hp} (e : Same H H') : ∀ (ds : List PyData) (vs : List V), DpAll K H vs ds → DpAll K H' vs ds
  | [], _, h => by cases h; exact .nil
  | d :: ds, _, h => by
    cases h with
    | cons h1 h2 => exact .cons (dp_same e d _ h1) (dpall_same e ds _ h2)
end
theorem Shw.same {H H' : Hp} {v : V} {d : PyData} (h : Shw K H v d) (e : Same H H') : Shw K H' v d := ⟨dp_same e d v h.dp, h.sh, h.nd, h.dep, h.len⟩
/-- the error of class c with its field, wished for -/
def Rs (K : PySem.W.Frag) (c fld : Str) (v : V) (H : Hp) (E : XK) : Prop := ∀ d H', Same H H' → H' d = some (.xd [(fld, v)]) → E (.ref (He.ga K c)) (some d) H'
theorem Rs.at {c fld : Str} {v : V} {H H1 : Hp} {E : XK} (h : Rs K c fld v H E) (e : Same H H1) : ∀ d, H1 d = none → E (.ref (He.ga K c)) (some d) (upd H1 d (.xd [(fld, v)])) := fun d hd => h d _ (e.trans (same_new hd)) upd_same
theorem Rs.same {c fld : Str} {v : V} {H H1 : Hp} {E : XK} (h : Rs K c fld v H E) (e : Same H H1) : Rs K c fld v H1 E := fun d H' e' hd => h d H' (e.trans e') hd
/-- what an error's class owes its __init__ -/
structure SvE (K : PySem.W.Frag) (mg : Str → Option Value) : Prop where
  g : mg "SieveError" = some (.ref (He.ga K "SieveError"))
  r : ClX.CRead K (He.ga K "SieveError") (.type "type")
  v : PySem.W.findCls K (.ref (He.ga K "SieveError")) (.type "type") "__init__" = some (.val (.builtin "ValueError.__init__"))
theorem ok_LimitExceeded___init__ (F : FunD K "__init__" "LimitExceeded.__init__" (defArgs s_LimitExceeded___init__) (defBody s_LimitExceeded___init__) (defScope s_LimitExceeded___init__) [] [] f fd) (hb : ∀ x ∈ BB, mg x = none) (ER : ErrCB K (He.ga K "LimitExceeded") "limit" (He.ma K (He.ga K "LimitExceeded") "__init__") "OverflowError.__new__" ovTail) : FnR P w K mg base (L2.CX P w) 1 f (spErrI K (He.ga K "LimitExceeded") "limit") := by
  refine fnr_of F sc_LimitExceeded___init__ (fun vs H Q E h => ?_) (fun kV doc pm an cdv ct us hl => match us, hl with | [_, _], _ => rfl) (fun x hx => hb x (by revert x; decide +kernel)) fun cd A outer s H vs Q E hr hc h => ?_
  · obtain ⟨a, v, rfl, _⟩ := h; rfl
  · obtain ⟨a, v, rfl, ha, q⟩ := h
    refine wl_start (σ' := [some (.ref a), some v]) rfl (wl_cons ?_)
    refine ws_expr ?_
    refine w_binit base_ov hc (by walk_at "mb") bt_ovf typ_ov (by decide +kernel) (by decide +kernel) fc_ov ?_
    walk_at "w"
    refine ⟨a, He.ga K "LimitExceeded", _, rfl, (by decide), ER.T, ha, ?_⟩
    walk_at "go"
    refine ws_ostB base_ov ?_
    walk_at "w"
    refine ⟨a, He.ga K "LimitExceeded", rfl, ER.T, ER.no, ha, fun dx h1 h2 => ?_⟩
    walk_at "w"
    exact q dx h1 h2
def NotInt (K : PySem.W.Frag) (H : Hp) (v : V) : Prop := (∃ b, v = .bl b) ∨ ∃ t, TyX K H v t ∧ PySem.W.kitOne K t (.type "int") = some false
def spInt2 (K : PySem.W.Frag) : Sp := fun vs H Q _ => ∃ v m, vs = [v, .int m] ∧ ((∃ i, v = .int i ∧ Q (.bl (decide (m ≤ i))) H) ∨ (NotInt K H v ∧ Q (.bl false) H))
def spIsInt (K : PySem.W.Frag) : Sp := fun vs H Q _ => ∃ v m, (vs = [v, .int m] ∨ (vs = [v] ∧ m = 0)) ∧ ((∃ i, v = .int i ∧ Q (.bl (decide (m ≤ i))) H) ∨ (NotInt K H v ∧ Q (.bl false) H))
theorem ok_is_integer {P : Program} {w : World} {K : PySem.W.Frag} {mg : Str → Option Value} {base : Heap} {f : Addr} {fd : FuncData} (F : FunD K "is_integer" "is_integer" (defArgs s_is_integer) (defBody s_is_integer) (defScope s_is_integer) [.int 0] [] f fd) (hb : ∀ x ∈ BB, mg x = none) : FnR P w K mg base (L2.CX P w) 2 f (spIsInt K) := by
  have G : FnOk P w K mg base (L2.CX P w) 2 f fd ["value", "minimum"] (spInt2 K) := by
    refine fnr_ofD F sc_is_integer (fun vs H Q E h => ?_) (fun x hx => hb x (by revert x; decide +kernel)) fun cd A outer s H vs Q E hr hc h => ?_
    · obtain ⟨v, m, rfl, _⟩ := h; rfl
    · obtain ⟨v, m, rfl, h⟩ := h
      refine wl_start (σ' := [some v, some (.int m)]) rfl (wl_cons ?_)
      rcases h with ⟨i, rfl, q⟩ | ⟨⟨b, rfl⟩ | ⟨t, ht, hk⟩, q⟩
      · walk_at "w"
        exact q
      · walk_at "w"
        exact q
      · walk_at "w"
        refine ⟨_, _, ht, hk, ?_⟩
        walk_at "w"
        exact q
  obtain ⟨ds, rd, hB⟩ := F.binds1 (ps := ["value", "minimum"]) 1 0 (by simp) rfl fun T kV doc pm an cdv ct us its h1 h2 => match us, its, h1, h2 with
    | [u], [d], _, _ => ⟨_, rfl, rfl⟩
  obtain ⟨ds', rd', hB'⟩ := F.binds1 (ps := ["value", "minimum"]) 2 1 (by simp) rfl fun T kV doc pm an cdv ct us its h1 h2 => match us, its, h1, h2 with
    | [u, u2], [d], _, _ => ⟨_, rfl, rfl⟩
  refine (fnr_or (G.raw hB rd) (G.raw hB' rd')).imp fun vs H Q E h => ?_
  obtain ⟨v, m, rfl | ⟨rfl, rfl⟩, h⟩ := h
  · exact .inr ⟨v, m, rfl, h⟩
  · exact .inl ⟨v, 0, rfl, h⟩
abbrev cS (K : PySem.W.Frag) : Addr := He.ga K "Sieve"
structure SvC (K : PySem.W.Frag) (mg : Str → Option Value) : Prop where
  cls : Cls K (cS K)
  nt : NoAttr K (cS K) "text"
  nm : NoAttr K (cS K) "marks"
  g : mg "Sieve" = some (.ref (cS K))
  rd : ClX.CRead K (cS K) (.type "type")
  lim : ∃ u, ClX.CVal K (cS K) (.type "type") "LONGEST" (.int 10000) u
  eqT : ∀ {H : Hp} {a dx : Addr} {fs : List (Str × V)}, H a = some (.ins (cS K) dx fs) → TyX K H (.ref a) (.ref (cS K))
def SieveAt (K : PySem.W.Frag) (H : Hp) (a : Addr) (l : List Bool) : Prop :=
  Good l ∧ ∃ dx p, H a = some (.ins (cS K) dx [("text", .str (sOf l)), ("marks", .ref p)]) ∧ H p = some (.lst ((marks l).map fun i => V.int (i : Nat)))
theorem SieveAt.same {H H' : Hp} {a : Addr} {l : List Bool} (h : SieveAt K H a l) (e : Same H H') : SieveAt K H' a l := by
  obtain ⟨g, dx, p, h1, h2⟩ := h
  exact ⟨g, dx, p, e _ _ h1, e _ _ h2⟩
def spCheckN : Sp := fun vs H Q _ => ∃ i : Int, vs = [.int i] ∧ 0 ≤ i ∧ Q .non H
theorem ok_check_number (F : FunD K "check_number" "check_number" (defArgs s_check_number) (defBody s_check_number) (defScope s_check_number) [] [] f fd) (hb : ∀ x ∈ BB, mg x = none) (h1 : Fn P w K mg base "is_integer" 2 (spIsInt K)) : FnR P w K mg base (L2.CX P w) 3 f spCheckN := by
  refine fnr_of F sc_check_number (fun vs H Q E h => ?_) (fun kV doc pm an cdv ct us hl => match us, hl with | [_], _ => rfl) (fun x hx => hb x (by revert x; decide +kernel)) fun cd A outer s H vs Q E hr hc h => ?_
  · obtain ⟨i, rfl, _⟩ := h; rfl
  · obtain ⟨i, rfl, hi, q⟩ := h
    refine wl_start (σ' := [some (.int i)]) rfl (wl_cons ?_)
    walk_at "w"
    refine w_call hc (by walk_at "mb") h1 hr (by decide) passL ?_
    walk_at "w"
    refine ⟨_, _, .inr ⟨rfl, rfl⟩, .inl ⟨_, rfl, ?_⟩⟩
    rw [decide_eq_true hi]
    walk_at "w"
    exact q
def spLeast : Sp := fun vs H Q _ => ∃ l, vs = [.str (sOf l)] ∧ Pat l ∧ ∀ m, Good m → (∀ n, kp m n = kp l n) → m.length ∣ l.length → Q (.str (sOf m)) H
theorem ok_least_pattern (F : FunD K "least_pattern" "least_pattern" (defArgs s_least_pattern) (defBody s_least_pattern) (defScope s_least_pattern) [] [] f fd) (hb : ∀ x ∈ BB, mg x = none) : FnR P w K mg base (L2.CX P w) 3 f spLeast := by
  refine fnr_of F sc_least_pattern (fun vs H Q E h => ?_) (fun kV doc pm an cdv ct us hl => match us, hl with | [_], _ => rfl) (fun x hx => hb x (by revert x; decide +kernel)) fun cd A outer s H vs Q E hr hc h => ?_
  · obtain ⟨i, rfl, _⟩ := h; rfl
  · obtain ⟨l, rfl, p, q⟩ := h
    have hz : sizeLine = 16777216 := sizeLine_eq
    have hp1 := p.one
    have hp2 := p.most
    refine wl_start (σ' := [some (.str (sOf l)), none, none]) rfl (wl_cons ?_)
    walk_at "w"
    refine ⟨l.length, ⟨by rw [sOf_len]; omega, by rw [sOf_len]⟩, ?_⟩
    walk_at "w"
    refine ws_for owns_cx hc ?_
    refine wi_range2 hc (by walk_at "mb") ?_
    walk_at "w"
    refine ⟨_, _, rfl, rfl, ⟨by omega, by omega, by omega, by omega⟩, ?_⟩
    refine ⟨_, _, wlk_range, fun i σ' H' => H' = H ∧ (∃ o, σ' = [some (.str (sOf l)), some (.int (l.length : Nat)), o]) ∧ ∀ e, 0 < e → e ≤ i → ¬ Cuts l e, ⟨rfl, ⟨_, rfl⟩, fun e h1 h2 => by omega⟩, fun i σ' H' ⟨h, _⟩ => by rw [h]; exact Same.refl _, fun i σ' H' hi ⟨hH, ⟨o, hσ⟩, hn⟩ => ?_, fun σ' H' ⟨hH, ⟨o, hσ⟩, hn⟩ => ?_⟩
    · subst hH hσ
      refine wg_name hc (by walk_at "put") (by walk_at "mb") ?_
      have ek : (1 : Int) + (i : Nat) = ((i + 1 : Nat) : Int) := by omega
      have hi' : i + 1 ≤ l.length := by omega
      rw [ek]
      walk_at "go"
      walk_at "w"
      refine b_mod (by omega) ?_
      walk_at "w"
      refine if_dec (fun h1 => ?_) (fun h1 => ?_)
      · have hm : l.length % (i + 1) = 0 := by omega
        walk_at "w"
        refine sl_s (by rw [sOf_len]; omega) ?_
        rw [cut_to l rfl hi']
        walk_at "w"
        refine b_fdiv (by omega) (by omega) ?_
        rw [← Int.natCast_ediv]
        have hd : l.length / (i + 1) * (i + 1) = l.length := Nat.div_mul_cancel (Nat.dvd_of_mod_eq_zero hm)
        have ht : (l.take (i + 1)).length = i + 1 := by rw [List.length_take]; omega
        refine b_mulS (Int.natCast_nonneg _) (by have := Nat.div_le_self l.length (i + 1); omega) (by rw [sOf_len, ht, Int.toNat_natCast, Nat.mul_comm, hd]; omega) ?_
        rw [Int.toNat_natCast, rep_sOf]
        walk_at "w"
        refine if_dec (fun h2 => ?_) (fun h2 => ?_)
        · have hc2 : Cuts l (i + 1) := ⟨Nat.dvd_of_mod_eq_zero hm, (cuts_iff (by omega) hi' hm).mp (sOf_inj h2)⟩
          walk_at "w"
          refine sl_s (by rw [sOf_len]; omega) ?_
          rw [cut_to l rfl hi']
          have hg := least_good p (by omega) hi' hc2 fun e h1 h2 => hn e h1 (by omega)
          exact q _ hg.1 hg.2.1 hg.2.2
        · walk_at "w"
          refine ⟨rfl, ⟨_, rfl⟩, fun e h3 h4 h5 => ?_⟩
          by_cases he : e = i + 1
          · subst he
            exact h2 (congrArg sOf ((cuts_iff (by omega) hi' hm).mpr h5.2))
          · exact hn e h3 (by omega) h5
      · walk_at "w"
        refine ⟨rfl, ⟨_, rfl⟩, fun e h3 h4 h5 => ?_⟩
        by_cases he : e = i + 1
        · subst he
          have := Nat.mod_eq_zero_of_dvd h5.1
          omega
        · exact hn e h3 (by omega) h5
    · exact absurd ⟨Nat.dvd_refl _, kp_per l⟩ (hn l.length hp1 (by omega))

def MarkIn (P : Program) (w : World) (ps : Addr) (ns : List Int) (H1 : Hp) : Prop := ∀ (X : Cx) (σ : L2.St) (H' : Hp) (Q' : VK) (k : Int), X.prog = P → X.w = w → Sm k → Same H1 H' → Q' (.bl (ns.any (· == k))) H' → WB X (compareOp .In) (.int k) (.ref ps) σ H' Q'
def spPatOf (K : PySem.W.Frag) : Sp := fun vs H Q _ => ∃ (a : Addr) (ns : List Int) (p : Nat), vs = [.ref a, .int (p : Nat)] ∧ SqL K H a (ns.map V.int) ∧ ns.length < 4090 ∧ p ≤ 10000 ∧ ∀ H', Same H H' → Q (.str (sOf (lof (fun i => ns.any (· == ((i : Nat) : Int))) p))) H'
def BigL (H : Hp) (a : Addr) (ns : List Int) : Prop := H a = some (LstT a (ns.map V.int)) ∧ ns.Nodup ∧ (∀ k ∈ ns, Sm k) ∧ ns.length ≤ 12000
def spPatOf2 (K : PySem.W.Frag) : Sp := fun vs H Q _ => ∃ (a : Addr) (ns : List Int) (p : Nat), vs = [.ref a, .int (p : Nat)] ∧ ((SqL K H a (ns.map V.int) ∧ ns.length < 4090) ∨ BigL H a ns) ∧ p ≤ 10000 ∧ ∀ H', Same H H' → Q (.str (sOf (lof (fun i => ns.any (· == ((i : Nat) : Int))) p))) H'
theorem wk_pattern_of (F : Fn P w K mg base "pattern_of" 3 (spPatOf2 K)) : Fn P w K mg base "pattern_of" 3 (spPatOf K) := by
  obtain ⟨f, h1, h2, h3⟩ := F.ex
  exact ⟨f, h1, h2, h3.imp fun vs H Q E ⟨a, ns, p, e, hs, hn, hp, q⟩ => ⟨a, ns, p, e, .inl ⟨hs, hn⟩, hp, q⟩⟩
theorem ok_pattern_of (F : FunD K "pattern_of" "pattern_of" (defArgs s_pattern_of) (defBody s_pattern_of) (defScope s_pattern_of) [] [] f fd) (hb : ∀ x ∈ BB, mg x = none) : FnR P w K mg base (L2.CX P w) 3 f (spPatOf2 K) := by
  refine fnr_of F sc_pattern_of (fun vs H Q E h => ?_) (fun kV doc pm an cdv ct us hl => match us, hl with | [_, _], _ => rfl) (fun x hx => hb x (by revert x; decide +kernel)) fun cd A outer s H vs Q E hr hc h => ?_
  · obtain ⟨a, ns, p, rfl, _⟩ := h; rfl
  · obtain ⟨a, ns, p, rfl, hs, hp, q⟩ := h
    have hz : sizeLine = 16777216 := sizeLine_eq
    have hsb : scanBound = 4096 := by decide +kernel
    refine wl_start (σ' := [some (.ref a), some (.int (p : Nat)), none, none]) rfl (wl_cons ?_)
    have cont : ∀ ps H1, Same H H1 → MarkIn P w ps ns H1 → WL (cx P w K mg base N_pattern_of "pattern_of" (defScope s_pattern_of) f cd A outer s H E) ((defBody s_pattern_of).drop 1) { nx := fun _ H' => Q .non H', rt := Q } [some (.ref a), some (.int (p : Nat)), some (.ref ps), none] H1 := by
      intro ps H1 e1 hin
      refine wl_cons ?_
      walk_at "w"
      refine w_join ?_
      walk_at "w"
      refine w_lc hc (own := bO_pattern_of_0) (by kernel_rfl) (fun i acc => acc = (lof (fun i => ns.any (· == ((i : Nat) : Int))) i).map fun b => V.str (sOf [b])) ?_
      refine wi_range1 hc (by walk_at "mb") ?_
      walk_at "w"
      refine ⟨by omega, by omega, _, _, wlk_range, by omega, rfl, fun i acc H' hi hl hP hS => ?_, fun acc D H' hl hP hD hS hDa => ?_⟩
      · intro X1 b1
        have c1 := nm_blk (L' := bL_pattern_of_0) (S' := bS_pattern_of_0) (G' := bG_pattern_of_0) (B' := bB_pattern_of_0) b1 hc (by kernel_rfl) (fun x hx => nomatch hx)
        obtain ⟨_, _, _, _, _, rfl⟩ := b1
        simp only [wipe, List.map_cons, List.map_nil, List.set_cons_succ, List.set_cons_zero]
        refine wg_name c1 (by walk_at "put") (by walk_at "mb") ?_
        refine ⟨rfl, rfl, ?_⟩
        intro X2 b2
        refine wts_nil ?_
        refine ⟨Same.refl _, ite_t ?_⟩
        have c2 := nm_blk (L' := bL_pattern_of_0) (S' := bS_pattern_of_0) (G' := bG_pattern_of_0) (B' := bB_pattern_of_0) b2 hc (by kernel_rfl) (fun x hx => nomatch hx)
        intro X3 b3
        have c3 := nm_blk (L' := bL_pattern_of_0) (S' := bS_pattern_of_0) (G' := bG_pattern_of_0) (B' := bB_pattern_of_0) b3 hc (by kernel_rfl) (fun x hx => nomatch hx)
        obtain ⟨_, _, _, _, _, rfl⟩ := b3
        walk_at "w"
        have e0 : (0 : Int) + (i : Nat) = ((i : Nat) : Int) := by omega
        rw [e0]
        refine hin _ _ _ _ _ rfl rfl ⟨by omega, by omega⟩ hS ?_
        have hlast : ∀ b, (ns.any fun x => x == ((i : Nat) : Int)) = b → acc ++ [V.str (sOf [b])] = List.map (fun b => V.str (sOf [b])) (lof (fun i => ns.any fun x => x == ((i : Nat) : Int)) (i + 1)) := fun b e => by
          rw [hP, ← e]
          simp [lof, List.range_succ]
        cases hb2 : (ns.any fun x => x == ((i : Nat) : Int)) with
        | true =>
          walk_at "w"
          exact ⟨Same.refl _, hlast true hb2⟩
        | false =>
          walk_at "w"
          exact ⟨Same.refl _, hlast false hb2⟩
      · have e2 : acc = (((lof (fun i => ns.any fun x => x == ((i : Nat) : Int)) p)).map fun b => sOf [b]).map V.str := by
          rw [hP, Int.toNat_natCast, List.map_map]; rfl
        refine ⟨D, _, rfl, .inl (.inl (.inl (by rw [hDa, e2]))), ?_, ?_⟩
        · have hl1 : ∀ l : List Bool, ((l.map fun b => sOf [b]).map fun x => x.length).sum = l.length := fun l => by
            induction l with
            | nil => rfl
            | cons b r ih => simp only [List.map_cons, List.sum_cons, ih, sOf_len, List.length_cons, List.length_nil]; omega
          rw [hl1, lof_len, List.length_map, lof_len]
          have : ("" : Str).length = 0 := by decide +kernel
          rw [this]
          omega
        · rw [join_sOf]
          exact q _ (e1.trans hS)
    rcases hs with ⟨hs, hn⟩ | ⟨hs, hn1, hn2, hn3⟩
    · walk_at "w"
      refine ⟨_, ns, rfl, hs, by omega, fun ps H1 n hps e1 hset => ?_⟩
      refine ⟨_, by walk_at "put", ?_⟩
      refine cont ps H1 e1 fun X σ H' Q' k eP eW _ hS q' => ?_
      subst eP; subst eW
      exact b_inSetI (hS _ _ hset) q'
    · refine ws_set hc (by walk_at "mb") ?_
      refine x_setT hc (by walk_at "mb") ?_
      walk_at "w"
      refine ⟨_, ns, rfl, hs, hn1, hn2, hn3, fun ps H1 hps e1 hset => ?_⟩
      refine ⟨_, by walk_at "put", ?_⟩
      refine cont ps H1 e1 fun X σ H' Q' k eP eW hk hS q' => ?_
      exact b_inBig hk (hS _ _ hset) q'

def spIsPat : Sp := fun vs H Q _ => ∃ l, vs = [.str (sOf l)] ∧ Pat l ∧ ∀ H', Same H H' → Q (.bl true) H'
theorem ok_Sieve_is_pattern (F : FunD K "is_pattern" "Sieve.is_pattern" (defArgs s_Sieve_is_pattern) (defBody s_Sieve_is_pattern) (defScope s_Sieve_is_pattern) [] [] f fd) (hb : ∀ x ∈ BB, mg x = none) (SC : SvC K mg) : FnR P w K mg base (L2.CX P w) 3 f spIsPat := by
  refine fnr_of F sc_Sieve_is_pattern (fun vs H Q E h => ?_) (fun kV doc pm an cdv ct us hl => match us, hl with | [_], _ => rfl) (fun x hx => hb x (by revert x; decide +kernel)) fun cd A outer s H vs Q E hr hc h => ?_
  · obtain ⟨l, rfl, _⟩ := h; rfl
  · obtain ⟨l, rfl, p, q⟩ := h
    have hz : sizeLine = 16777216 := sizeLine_eq
    have p1 := p.one
    have p2 := p.most
    obtain ⟨u, hu⟩ := SC.lim
    refine wl_start (σ' := [some (.str (sOf l)), none]) rfl (wl_cons ?_)
    walk_at "w"
    refine ⟨l.length, ⟨by rw [sOf_len]; omega, by rw [sOf_len]⟩, ?_⟩
    walk_at "w"
    rw [decide_eq_true (show (1 : Int) ≤ (l.length : Nat) by omega)]
    walk_at "w"
    refine w_gref hc (by walk_at "mb") SC.g ?_
    refine a_cval SC.rd hu ?_
    walk_at "w"
    rw [decide_eq_true (show ((l.length : Nat) : Int) ≤ 10000 by omega)]
    walk_at "w"
    refine b_inPlus ?_
    rw [decide_eq_true p.plus]
    walk_at "w"
    refine w_lc hc (own := bO_Sieve_is_pattern_0) (by kernel_rfl) (fun i acc => acc = (List.replicate i true).map V.bl) ?_
    refine wi_str ?_
    walk_at "w"
    refine ⟨_, _, wlk_str, ?_, rfl, fun i acc H' hi hl hP hS => ?_, fun acc D H' hl hP hD hS hDa => ?_⟩
    · have := sOf_len l
      show (sOf l).length < sizeLine
      omega
    · have hi' : i < l.length := by
        have := sOf_len l
        show i < l.length
        rw [← this]; exact hi
      intro X1 b1
      have c1 := nm_blk (L' := bL_Sieve_is_pattern_0) (S' := bS_Sieve_is_pattern_0) (G' := bG_Sieve_is_pattern_0) (B' := bB_Sieve_is_pattern_0) b1 hc (by kernel_rfl) (fun x hx => nomatch hx)
      simp only [wipe, List.map_cons, List.map_nil, List.set_cons_succ, List.set_cons_zero]
      refine wg_name c1 (by walk_at "put") (by walk_at "mb") ?_
      refine ⟨rfl, rfl, ?_⟩
      intro X2 b2
      refine wts_nil ?_
      refine ⟨Same.refl _, ite_t ?_⟩
      intro X3 b3
      have c3 := nm_blk (L' := bL_Sieve_is_pattern_0) (S' := bS_Sieve_is_pattern_0) (G' := bG_Sieve_is_pattern_0) (B' := bB_Sieve_is_pattern_0) b3 hc (by kernel_rfl) (fun x hx => nomatch hx)
      walk_at "w"
      rw [signAt_sOf hi']
      refine b_inPM ?_
      refine ⟨Same.refl _, ?_⟩
      rw [hP, List.replicate_succ', List.map_append]; rfl
    · refine ⟨D, _, rfl, .inl (.inl (by rw [hDa, hP])), ?_⟩
      have e : ((List.replicate (sOf l).cps.size true).all fun k => k) = true := by simp
      rw [e]
      walk_at "w"
      exact q _ hS
def spSvInit (K : PySem.W.Frag) : Sp := fun vs H Q _ => ∃ (a dx : Addr) (l : List Bool), vs = [.ref a, .str (sOf l)] ∧ H a = some (.ins (cS K) dx []) ∧ Pat l ∧
  ∀ m H', Good m → (∀ n, kp m n = kp l n) → m.length ∣ l.length → (∀ b o, b ≠ a → H b = some o → H' b = some o) → SieveAt K H' a m → Q .non H'
theorem ok_Sieve___init__ (F : FunD K "__init__" "Sieve.__init__" (defArgs s_Sieve___init__) (defBody s_Sieve___init__) (defScope s_Sieve___init__) [] [] f fd) (hb : ∀ x ∈ BB, mg x = none) (SC : SvC K mg) (h1 : SMt P w K mg base (cS K) "is_pattern" 3 spIsPat) (h2 : Fn P w K mg base "least_pattern" 3 spLeast) : FnR P w K mg base (L2.CX P w) 4 f (spSvInit K) := by
  refine fnr_of F sc_Sieve___init__ (fun vs H Q E h => ?_) (fun kV doc pm an cdv ct us hl => match us, hl with | [_, _], _ => rfl) (fun x hx => hb x (by revert x; decide +kernel)) fun cd A outer s H vs Q E hr hc h => ?_
  · obtain ⟨a, dx, l, rfl, _⟩ := h; rfl
  · obtain ⟨a, dx, l, rfl, ha, p, q⟩ := h
    have hz : sizeLine = 16777216 := sizeLine_eq
    refine wl_start (σ' := [some (.ref a), some (.str (sOf l)), none, none]) rfl (wl_cons ?_)
    walk_at "w"
    refine w_smeth h1 hr (by decide) passL ?_
    refine w_gref hc (by walk_at "mb") SC.g ⟨rfl, ?_⟩
    walk_at "w"
    refine ⟨l, rfl, p, fun H1 e1 => ?_⟩
    walk_at "w"
    refine ws_fld ?_
    refine w_call hc (by walk_at "mb") h2 hr (by decide) passL ?_
    walk_at "w"
    refine ⟨l, rfl, p, fun m gm km dm => ?_⟩
    walk_at "w"
    refine ⟨a, _, _, _, rfl, e1 _ _ ha, SC.cls, SC.nt, by decide, ?_⟩
    walk_at "w"
    refine ws_fld ?_
    refine w_lcT hc (own := bO_Sieve___init___0) (by kernel_rfl) (fun i acc => acc = ((List.range i).filter fun i => m.getD i false).map fun i => V.int (i : Nat)) ?_
    refine wi_enumS hc (by walk_at "mb") ?_
    walk_at "w"
    refine a_fld SC.cls SC.nt upd_same rfl ?_
    have hml : (sOf m).length = m.length := sOf_len m
    have hm1 := gm.most
    refine ⟨_, rfl, _, _, wlk_g, (by show (sOf m).length < sizeLine; omega), rfl, fun i acc H0 H' T hi hl hP hS0 hS hT => ?_, fun acc D H' hl hP hD hS hDa => ?_⟩
    · have hi' : i < m.length := by
        show i < m.length
        rw [← hml]; exact hi
      intro X1 b1
      have c1 := nm_blk (L' := bL_Sieve___init___0) (S' := bS_Sieve___init___0) (G' := bG_Sieve___init___0) (B' := bB_Sieve___init___0) b1 hc (by kernel_rfl) (fun x hx => nomatch hx)
      simp only [wipe, List.map_cons, List.map_nil, List.set_cons_succ, List.set_cons_zero]
      refine wg_tup c1 (.inl (.inl hT)) ?_
      walk_at "w"
      refine ⟨rfl, rfl, ?_⟩
      intro X2 b2
      refine wts_one ?_
      have c2 := nm_blk (L' := bL_Sieve___init___0) (S' := bS_Sieve___init___0) (G' := bG_Sieve___init___0) (B' := bB_Sieve___init___0) b2 hc (by kernel_rfl) (fun x hx => nomatch hx)
      walk_at "w"
      rw [signAt_sOf hi']
      refine b_eqPlus ?_
      have hst := marks_step hi'
      refine ⟨_, rfl, Same.refl _, ?_⟩
      cases hb2 : m[i] with
      | true =>
        refine ite_t ?_
        intro X3 b3
        have c3 := nm_blk (L' := bL_Sieve___init___0) (S' := bS_Sieve___init___0) (G' := bG_Sieve___init___0) (B' := bB_Sieve___init___0) b3 hc (by kernel_rfl) (fun x hx => nomatch hx)
        walk_at "w"
        refine ⟨Same.refl _, ?_⟩
        rw [hst, hb2, hP, if_pos rfl, List.map_append]; rfl
      | false =>
        refine ite_f ?_
        rw [hst, hb2, hP]; simp
    · walk_at "w"
      refine ⟨a, _, _, _, rfl, hS _ _ upd_same, SC.cls, SC.nm, (by show 1 < 1000; decide), ?_⟩
      walk_at "w"
      have hDa2 : D ≠ a := fun z => by
        rw [z, upd_same] at hD
        cases hD
      refine q m _ gm km dm (fun b o hb2 ho => ?_) ⟨gm, dx, D, upd_same, ?_⟩
      · rw [upd_ne hb2]
        exact hS _ _ (by rw [upd_ne hb2]; exact e1 _ _ ho)
      · rw [upd_ne hDa2, hDa, hP]
        have e : (sOf m).cps.size = m.length := hml
        rw [e]; rfl
/-- what C(pattern) promises -/
def spMkSv (K : PySem.W.Frag) (l : List Bool) (H : Hp) (Q : VK) : Prop := Pat l ∧ ∀ a m H', Same H H' → Good m → (∀ n, kp m n = kp l n) → m.length ∣ l.length → SieveAt K H' a m → Q (.ref a) H'
theorem made_sv {H : Hp} {Q : VK} {E : XK} {l : List Bool} (h : spMkSv K l H Q) : Made (cS K) (spSvInit K) [.str (sOf l)] H Q E := by
  intro x dx H2 h1 h2 h3 e h4 h5
  refine ⟨x, dx, l, rfl, h5, h.1, fun m H' gm km dm hf hs => ⟨rfl, h.2 x m H' (fun b o ho => ?_) gm km dm hs⟩⟩
  exact hf b o (fun z => by rw [z, h1] at ho; cases ho) (e _ _ ho)
def spEvery (K : PySem.W.Frag) : Sp := fun vs H Q _ => vs = [.ref (cS K)] ∧ ∀ a H', Same H H' → SieveAt K H' a [true] → Q (.ref a) H'
theorem good_one : Good [true] := ⟨⟨by decide, by decide, by decide⟩, fun d h1 h2 => by
  have : d < 1 := h2
  omega⟩
theorem ok_Sieve_everything (F : FunD K "everything" "Sieve.everything" (defArgs s_Sieve_everything) (defBody s_Sieve_everything) (defScope s_Sieve_everything) [] [] f fd) (hb : ∀ x ∈ BB, mg x = none) (SC : SvC K mg) (h1 : Mkr P w K mg base (cS K) 4 (spSvInit K)) : FnR P w K mg base (L2.CX P w) 6 f (spEvery K) := by
  refine fnr_of F sc_Sieve_everything (fun vs H Q E h => ?_) (fun kV doc pm an cdv ct us hl => match us, hl with | [_], _ => rfl) (fun x hx => hb x (by revert x; decide +kernel)) fun cd A outer s H vs Q E hr hc h => ?_
  · rw [h.1]; rfl
  · obtain ⟨rfl, q⟩ := h
    refine wl_start (σ' := [some (.ref (cS K))]) rfl (wl_cons ?_)
    walk_at "w"
    refine w_makeL hc (by walk_at "at") (by walk_at "mb") h1 hr (by decide) passL ?_
    walk_at "w"
    rw [plus_sOf]
    refine made_sv ⟨good_one.toPat, fun a m H' e gm km dm hs => ?_⟩
    have e1 : m = [true] := gm.uniq good_one km
    subst e1
    exact q a H' e hs

structure SvP (P : Program) (w : World) (K : PySem.W.Frag) (mg : Str → Option Value) (base : Heap) (m : Str) (sp : Sp) : Prop where
  ex : ∃ p g, PropOf K (cS K) m p g ∧ FnR P w K mg base (L2.CX P w) 3 g sp
/-- o.m, a property of a sieve -/
theorem a_svp {X : Cx} {m : Str} {σ : L2.St} {H : Hp} {Q : VK} {sp : Sp} {j : Nat} {a : Addr} {l : List Bool} (SC : SvC X.K X.mg) (F : SvP X.prog X.w X.K X.mg X.base m sp) (hr : Room j X.A) (hj : 4 ≤ j) (hs : SieveAt X.K H a l) (q : sp [.ref a] H Q E0) : WAt X (.ref a) m σ H Q := by
  obtain ⟨p, g, c, F⟩ := F.ex
  obtain ⟨_, dx, p2, ha, _⟩ := hs
  exact a_prop (E := E0) SC.cls c F (hr.mono hj) ha q
def spPat (K : PySem.W.Frag) : Sp := fun vs H Q _ => ∃ a l, vs = [.ref a] ∧ SieveAt K H a l ∧ Q (.str (sOf l)) H
def spPer (K : PySem.W.Frag) : Sp := fun vs H Q _ => ∃ a l, vs = [.ref a] ∧ SieveAt K H a l ∧ Q (.int (l.length : Nat)) H
def spSize (K : PySem.W.Frag) : Sp := fun vs H Q _ => ∃ a l, vs = [.ref a] ∧ SieveAt K H a l ∧ Q (.int (ct (kp l) l.length : Nat)) H
theorem ok_Sieve_pattern (F : FunD K "pattern" "Sieve.pattern" (defArgs s_Sieve_pattern) (defBody s_Sieve_pattern) (defScope s_Sieve_pattern) [] [] f fd) (hb : ∀ x ∈ BB, mg x = none) (SC : SvC K mg) : FnR P w K mg base (L2.CX P w) 3 f (spPat K) := by
  refine FnR.mono (fnr_of (k := 1) F sc_Sieve_pattern (fun vs H Q E h => ?_) (fun kV doc pm an cdv ct us hl => match us, hl with | [_], _ => rfl) (fun x hx => hb x (by revert x; decide +kernel)) fun cd A outer s H vs Q E hr hc h => ?_) (by decide)
  · obtain ⟨a, l, rfl, _⟩ := h; rfl
  · obtain ⟨a, l, rfl, ⟨g, dx, p, ha, hp⟩, q⟩ := h
    refine wl_start (σ' := [some (.ref a)]) rfl (wl_cons ?_)
    walk_at "w"
    refine a_fld SC.cls SC.nt ha rfl ?_
    exact q
theorem ok_Sieve_period (F : FunD K "period" "Sieve.period" (defArgs s_Sieve_period) (defBody s_Sieve_period) (defScope s_Sieve_period) [] [] f fd) (hb : ∀ x ∈ BB, mg x = none) (SC : SvC K mg) : FnR P w K mg base (L2.CX P w) 3 f (spPer K) := by
  refine FnR.mono (fnr_of (k := 1) F sc_Sieve_period (fun vs H Q E h => ?_) (fun kV doc pm an cdv ct us hl => match us, hl with | [_], _ => rfl) (fun x hx => hb x (by revert x; decide +kernel)) fun cd A outer s H vs Q E hr hc h => ?_) (by decide)
  · obtain ⟨a, l, rfl, _⟩ := h; rfl
  · obtain ⟨a, l, rfl, ⟨g, dx, p, ha, hp⟩, q⟩ := h
    have hz : sizeLine = 16777216 := sizeLine_eq
    have hm := g.most
    refine wl_start (σ' := [some (.ref a)]) rfl (wl_cons ?_)
    walk_at "w"
    refine a_fld SC.cls SC.nt ha rfl ?_
    exact ⟨l.length, ⟨by rw [sOf_len]; omega, by rw [sOf_len]⟩, q⟩
theorem ok_Sieve_size (F : FunD K "size" "Sieve.size" (defArgs s_Sieve_size) (defBody s_Sieve_size) (defScope s_Sieve_size) [] [] f fd) (hb : ∀ x ∈ BB, mg x = none) (SC : SvC K mg) : FnR P w K mg base (L2.CX P w) 3 f (spSize K) := by
  refine FnR.mono (fnr_of (k := 1) F sc_Sieve_size (fun vs H Q E h => ?_) (fun kV doc pm an cdv ct us hl => match us, hl with | [_], _ => rfl) (fun x hx => hb x (by revert x; decide +kernel)) fun cd A outer s H vs Q E hr hc h => ?_) (by decide)
  · obtain ⟨a, l, rfl, _⟩ := h; rfl
  · obtain ⟨a, l, rfl, ⟨g, dx, p, ha, hp⟩, q⟩ := h
    refine wl_start (σ' := [some (.ref a)]) rfl (wl_cons ?_)
    walk_at "w"
    refine a_fld SC.cls SC.nm ha rfl ?_
    refine ⟨_, .inl ⟨_, .inl (.inl hp), rfl⟩, ?_⟩
    rw [List.length_map, marks_len]
    exact q
def spKept (K : PySem.W.Frag) : Sp := fun vs H Q _ => ∃ (a : Addr) (l : List Bool) (n : Nat), vs = [.ref a, .int n] ∧ SieveAt K H a l ∧ Q (.bl (kp l n)) H
theorem ok_Sieve_is_kept (F : FunD K "is_kept" "Sieve.is_kept" (defArgs s_Sieve_is_kept) (defBody s_Sieve_is_kept) (defScope s_Sieve_is_kept) [] [] f fd) (hb : ∀ x ∈ BB, mg x = none) (SC : SvC K mg) (h1 : Fn P w K mg base "is_integer" 2 (spIsInt K)) : FnR P w K mg base (L2.CX P w) 4 f (spKept K) := by
  refine fnr_of F sc_Sieve_is_kept (fun vs H Q E h => ?_) (fun kV doc pm an cdv ct us hl => match us, hl with | [_, _], _ => rfl) (fun x hx => hb x (by revert x; decide +kernel)) fun cd A outer s H vs Q E hr hc h => ?_
  · obtain ⟨a, l, n, rfl, _⟩ := h; rfl
  · obtain ⟨a, l, n, rfl, ⟨g, dx, p, ha, hp⟩, q⟩ := h
    have hz : sizeLine = 16777216 := sizeLine_eq
    have hm := g.most
    have h0 := g.one
    refine wl_start (σ' := [some (.ref a), some (.int n)]) rfl (wl_cons ?_)
    walk_at "w"
    refine w_call hc (by walk_at "mb") h1 hr (by decide) passL ?_
    walk_at "w"
    refine ⟨_, _, .inr ⟨rfl, rfl⟩, .inl ⟨_, rfl, ?_⟩⟩
    rw [decide_eq_true (show (0 : Int) ≤ (n : Nat) by omega)]
    walk_at "w"
    refine a_fld SC.cls SC.nt ha rfl ?_
    walk_at "w"
    refine a_fld SC.cls SC.nt ha rfl ?_
    refine ⟨l.length, ⟨by rw [sOf_len]; omega, by rw [sOf_len]⟩, ?_⟩
    refine b_mod (by omega) ?_
    have hi : n % l.length < l.length := Nat.mod_lt _ h0
    refine ix_s (by rw [sOf_len]; omega) (sOf_at (i := n % l.length) (by simp) hi) ?_
    walk_at "w"
    rw [dec_plus]
    have e : l[n % l.length] = kp l n := by rw [← kp_lt hi, (kp_per l).mod]
    rw [e]
    exact q
theorem mul_small {i j : Int} (h0 : 0 ≤ j) (h : j ≤ 1000000000) : IntMulOk i j := .of_right (intBits_le_64 (by omega) (by omega))
theorem mul_small' {i j : Int} (h0 : 0 ≤ i) (h : i ≤ 1000000000) : IntMulOk i j := .of_left (intBits_le_64 (by omega) (by omega))
def spNth (K : PySem.W.Frag) : Sp := fun vs H Q _ => ∃ (a : Addr) (l : List Bool) (i : Nat), vs = [.ref a, .int i] ∧ SieveAt K H a l ∧ ∀ n H', Same H H' → kp l n = true → ct (kp l) n = i → Q (.int (n : Nat)) H'
theorem ok_Sieve_nth (F : FunD K "nth" "Sieve.nth" (defArgs s_Sieve_nth) (defBody s_Sieve_nth) (defScope s_Sieve_nth) [] [] f fd) (hb : ∀ x ∈ BB, mg x = none) (SC : SvC K mg) (h1 : Fn P w K mg base "check_number" 3 spCheckN) : FnT P w K mg base 4 f (spNth K) := by
  refine fnt_of F sc_Sieve_nth (fun vs H Q E h => ?_) (fun kV doc pm an cdv ct us hl => match us, hl with | [_, _], _ => rfl) (fun x hx => hb x (by revert x; decide +kernel)) fun cd A outer s H vs Q E hr hc h => ?_
  · obtain ⟨a, l, n, rfl, _⟩ := h; rfl
  · obtain ⟨a, l, i, rfl, hs, q⟩ := h
    obtain ⟨g, dx, p, ha, hp⟩ := hs
    have hz : sizeLine = 16777216 := sizeLine_eq
    have hm := g.most
    have h0 := g.one
    have hsz := g.toPat.size
    have hsz2 := ct_le (kp l) l.length
    refine wlt_start (σ' := [some (.ref a), some (.int i), none, none]) rfl (wlt_cons ?_)
    walk_at "w"
    refine w_call hc (by walk_at "mb") h1 hr (by decide) passL ?_
    walk_at "w"
    refine ⟨_, rfl, by omega, ?_⟩
    walk_at "w"
    refine wlt_cons ?_
    refine ws_asg ?_
    walk_at "w"
    refine a_fld SC.cls SC.nm ha rfl ?_
    refine ⟨_, .inl ⟨_, .inl (.inl hp), rfl⟩, ?_⟩
    rw [List.length_map, marks_len]
    refine ⟨_, _, rfl, rfl, ⟨by omega, by omega⟩, fun T H1 hT e1 hT1 => ?_⟩
    refine wg_tup hc (.inl (.inl hT1)) ?_
    walk_at "w"
    refine wlt_ret ?_
    refine wet_add ?_
    refine wep_mul ?_
    walk_at "w"
    refine a_fld SC.cls SC.nt (e1 _ _ ha) rfl ?_
    refine ⟨l.length, ⟨by rw [sOf_len]; omega, by rw [sOf_len]⟩, ?_⟩
    refine ⟨_, _, rfl, rfl, mul_small (by omega) (by omega), ?_⟩
    walk_at "w"
    refine a_fld SC.cls SC.nm (e1 _ _ ha) rfl ?_
    walk_at "w"
    have hr2 : i % ct (kp l) l.length < ct (kp l) l.length := Nat.mod_lt _ hsz
    obtain ⟨m, e2, m1, m2, m3⟩ := filter_range hr2
    refine ix_l (.inl (.inl (e1 _ _ hp))) (at_of (i := i % ct (kp l) l.length) (v := .int (m : Nat)) (by simp) (by rw [List.getElem?_map, marks_eq, e2]; rfl)) ?_
    refine ⟨_, _, rfl, rfl, ?_⟩
    have e3 : (i : Int) / (ct (kp l) l.length : Nat) * (l.length : Nat) + (m : Nat) = ((i / ct (kp l) l.length * l.length + m : Nat) : Int) := by simp
    rw [e3]
    refine q _ _ e1 ?_ ?_
    · rw [Nat.add_comm, (kp_per l).mul]; exact m2
    · rw [ct_mul (kp_per l), m3, Nat.mul_comm, Nat.div_add_mod]

def spRank (K : PySem.W.Frag) : Sp := fun vs H Q _ => ∃ (a : Addr) (l : List Bool) (n : Nat), vs = [.ref a, .int n] ∧ SieveAt K H a l ∧ ∀ H', Same H H' → Q (.int (ct (kp l) n : Nat)) H'
theorem ok_Sieve_rank (F : FunD K "rank" "Sieve.rank" (defArgs s_Sieve_rank) (defBody s_Sieve_rank) (defScope s_Sieve_rank) [] [] f fd) (hb : ∀ x ∈ BB, mg x = none) (SC : SvC K mg) (h1 : Fn P w K mg base "check_number" 3 spCheckN) : FnR P w K mg base (L2.CX P w) 4 f (spRank K) := by
  refine fnr_of F sc_Sieve_rank (fun vs H Q E h => ?_) (fun kV doc pm an cdv ct us hl => match us, hl with | [_, _], _ => rfl) (fun x hx => hb x (by revert x; decide +kernel)) fun cd A outer s H vs Q E hr hc h => ?_
  · obtain ⟨a, l, n, rfl, _⟩ := h; rfl
  · obtain ⟨a, l, i, rfl, hs, q⟩ := h
    obtain ⟨g, dx, p, ha, hp⟩ := hs
    have hz : sizeLine = 16777216 := sizeLine_eq
    have hm := g.most
    have h0 := g.one
    have hsz := g.toPat.size
    have hsz2 := ct_le (kp l) l.length
    refine wl_start (σ' := [some (.ref a), some (.int i), none, none]) rfl (wl_cons ?_)
    walk_at "w"
    refine w_call hc (by walk_at "mb") h1 hr (by decide) passL ?_
    walk_at "w"
    refine ⟨_, rfl, by omega, ?_⟩
    walk_at "w"
    refine ws_asg ?_
    walk_at "w"
    refine a_fld SC.cls SC.nt ha rfl ?_
    refine ⟨l.length, ⟨by rw [sOf_len]; omega, by rw [sOf_len]⟩, ?_⟩
    refine ⟨_, _, rfl, rfl, ⟨by omega, by omega⟩, fun T H1 hT e1 hT1 => ?_⟩
    refine wg_tup hc (.inl (.inl hT1)) ?_
    walk_at "w"
    refine a_fld SC.cls SC.nm (e1 _ _ ha) rfl ?_
    refine ⟨_, .inl ⟨_, .inl (.inl (e1 _ _ hp)), rfl⟩, ?_⟩
    rw [List.length_map, marks_len]
    refine b_mul (mul_small (by omega) (by omega)) ?_
    refine w_count ?_
    walk_at "w"
    refine a_fld SC.cls SC.nt (e1 _ _ ha) rfl ?_
    walk_at "w"
    have hr2 : i % l.length < l.length := Nat.mod_lt _ h0
    refine sl_s (by rw [sOf_len]; omega) ?_
    rw [cut_to l (d := i % l.length) (by simp) (by omega)]
    walk_at "w"
    rw [count_sOf, countP_take (by omega)]
    walk_at "w"
    have e3 : (i : Int) / (l.length : Nat) * (ct (kp l) l.length : Nat) + (ct (kp l) (i % l.length) : Nat) = ((ct (kp l) i : Nat) : Int) := by
      rw [ct_mod (kp_per l) i]; simp
    rw [e3]
    exact q _ e1
def spSvEq (K : PySem.W.Frag) : Sp := fun vs H Q _ => ∃ (a b : Addr) (l m : List Bool), vs = [.ref a, .ref b] ∧ SieveAt K H a l ∧ SieveAt K H b m ∧ Q (.bl (decide (l = m))) H
theorem ok_Sieve___eq__ (F : FunD K "__eq__" "Sieve.__eq__" (defArgs s_Sieve___eq__) (defBody s_Sieve___eq__) (defScope s_Sieve___eq__) [] [] f fd) (hb : ∀ x ∈ BB, mg x = none) (SC : SvC K mg) : FnR P w K mg base (L2.CX P w) 4 f (spSvEq K) := by
  refine fnr_of F sc_Sieve___eq__ (fun vs H Q E h => ?_) (fun kV doc pm an cdv ct us hl => match us, hl with | [_, _], _ => rfl) (fun x hx => hb x (by revert x; decide +kernel)) fun cd A outer s H vs Q E hr hc h => ?_
  · obtain ⟨a, b, l, n, rfl, _⟩ := h; rfl
  · obtain ⟨a, b, l, m, rfl, ⟨g, dx, p, ha, hp⟩, ⟨g2, dx2, p2, hb2, hp2⟩, q⟩ := h
    refine wl_start (σ' := [some (.ref a), some (.ref b)]) rfl (wl_cons ?_)
    walk_at "w"
    refine x_isiC hc (by walk_at "mb") (by walk_at "mb") SC.g ?_
    walk_at "w"
    refine ⟨_, true, SC.eqT hb2, kit_own, ?_⟩
    walk_at "w"
    refine a_fld SC.cls SC.nt ha rfl ?_
    walk_at "w"
    refine a_fld SC.cls SC.nt hb2 rfl ?_
    walk_at "w"
    have e : decide (sOf l = sOf m) = decide (l = m) := by
      by_cases h : l = m
      · rw [decide_eq_true h, decide_eq_true (congrArg sOf h)]
      · rw [decide_eq_false h, decide_eq_false (fun z => h (sOf_inj z))]
    rw [e]
    exact q
def spGcd : Sp := fun vs H Q _ => ∃ a b : Nat, vs = [.int a, .int b] ∧ Q (.int (Nat.gcd a b : Nat)) H
theorem ok_common_divisor (F : FunD K "common_divisor" "common_divisor" (defArgs s_common_divisor) (defBody s_common_divisor) (defScope s_common_divisor) [] [] f fd) (hb : ∀ x ∈ BB, mg x = none) : FnR P w K mg base (L2.CX P w) 2 f spGcd := by
  refine fnr_of F sc_common_divisor (fun vs H Q E h => ?_) (fun kV doc pm an cdv ct us hl => match us, hl with | [_, _], _ => rfl) (fun x hx => hb x (by revert x; decide +kernel)) fun cd A outer s H vs Q E hr hc h => ?_
  · obtain ⟨a, b, rfl, _⟩ := h; rfl
  · obtain ⟨a, b, rfl, q⟩ := h
    refine wl_start (σ' := [some (.int a), some (.int b)]) rfl (wl_cons ?_)
    refine ws_while owns_cx (fun m σ' H' => ∃ x y : Nat, m = y ∧ H' = H ∧ σ' = [some (.int x), some (.int y)] ∧ Nat.gcd x y = Nat.gcd a b) b ⟨a, b, rfl, rfl, rfl, rfl⟩ fun m σ' H' ⟨x, y, hm, hH, hσ, hg⟩ => ?_
    subst hm hH hσ
    walk_at "w"
    refine if_dec (fun h1 => ?_) (fun h1 => ?_)
    · walk_at "go"
      refine ws_par hc (by kernel_rfl) (by kernel_rfl) (by decide +kernel) ?_ (by with_unfolding_all rfl) (by with_unfolding_all rfl) (by with_unfolding_all rfl) (by with_unfolding_all rfl) ⟨0, 1, rfl, rfl⟩
      walk_at "w"
      refine b_mod (by omega) ?_
      refine ⟨_, _, by walk_at "put", by walk_at "put", ?_⟩
      walk_at "w"
      refine ⟨_, Nat.mod_lt x (show 0 < m by omega), m, x % m, rfl, rfl, by simp, ?_⟩
      rw [← hg, Nat.gcd_comm x m, Nat.gcd_rec m x, Nat.gcd_comm]
    · have hy : m = 0 := by omega
      subst hy
      rw [Nat.gcd_zero_right] at hg
      walk_at "w"
      rw [hg]
      exact q
def spLcm : Sp := fun vs H Q _ => ∃ a b : Nat, vs = [.int a, .int b] ∧ 0 < a ∧ a < 1000000000 ∧ 0 < b ∧ b < 1000000000 ∧ Q (.int (Nat.lcm a b : Nat)) H
theorem ok_common_multiple (F : FunD K "common_multiple" "common_multiple" (defArgs s_common_multiple) (defBody s_common_multiple) (defScope s_common_multiple) [] [] f fd) (hb : ∀ x ∈ BB, mg x = none) (h1 : Fn P w K mg base "common_divisor" 2 spGcd) : FnR P w K mg base (L2.CX P w) 3 f spLcm := by
  refine fnr_of F sc_common_multiple (fun vs H Q E h => ?_) (fun kV doc pm an cdv ct us hl => match us, hl with | [_, _], _ => rfl) (fun x hx => hb x (by revert x; decide +kernel)) fun cd A outer s H vs Q E hr hc h => ?_
  · obtain ⟨a, b, rfl, _⟩ := h; rfl
  · obtain ⟨a, b, rfl, ha, ha2, hb1, hb2, q⟩ := h
    refine wl_start (σ' := [some (.int a), some (.int b)]) rfl (wl_cons ?_)
    walk_at "w"
    refine w_call hc (by walk_at "mb") h1 hr (by decide) passL ?_
    walk_at "w"
    refine ⟨a, b, rfl, ?_⟩
    have hg := Nat.gcd_le_left b ha
    have hg0 := Nat.gcd_pos_of_pos_left b ha
    refine b_fdiv (by omega) (by omega) ?_
    walk_at "w"
    have hd := Nat.div_le_self a (Nat.gcd a b)
    refine b_mul (mul_small (by omega) (by omega)) ?_
    have e : (a : Int) / (Nat.gcd a b : Nat) * (b : Nat) = ((Nat.lcm a b : Nat) : Int) := by
      rw [Nat.lcm, Nat.mul_comm a b, Nat.mul_div_assoc _ (Nat.gcd_dvd_left a b), Nat.mul_comm]
      simp
    rw [e]
    exact q
def spLimit : Sp := fun vs H Q _ => ∃ p : Nat, vs = [.int p] ∧ p ≤ 10000 ∧ Q .non H
/-- LimitExceeded(10000), wished for -/
abbrev RsL (K : PySem.W.Frag) (H : Hp) (E : XK) : Prop := Rs K "LimitExceeded" "limit" (.int 10000) H E
def spLimitE (K : PySem.W.Frag) : Sp := fun vs H Q E => ∃ p : Nat, vs = [.int p] ∧ ((p ≤ 10000 ∧ Q .non H) ∨ (10000 < p ∧ RsL K H E))
theorem ok_check_limit (F : FunD K "check_limit" "check_limit" (defArgs s_check_limit) (defBody s_check_limit) (defScope s_check_limit) [] [] f fd) (hb : ∀ x ∈ BB, mg x = none) (SC : SvC K mg) (gL : mg "LimitExceeded" = some (.ref (He.ga K "LimitExceeded"))) (EL : ErrB P w K mg base (He.ga K "LimitExceeded") "limit" 1 "OverflowError" "OverflowError.__new__" "OverflowError.__init__" ovTail) : FnR P w K mg base (L2.CX P w) 3 f (spLimitE K) := by
  refine fnr_of F sc_check_limit (fun vs H Q E h => ?_) (fun kV doc pm an cdv ct us hl => match us, hl with | [_], _ => rfl) (fun x hx => hb x (by revert x; decide +kernel)) fun cd A outer s H vs Q E hr hc h => ?_
  · obtain ⟨a, rfl, _⟩ := h; rfl
  · obtain ⟨p, rfl, h⟩ := h
    obtain ⟨u, hu⟩ := SC.lim
    refine wl_start (σ' := [some (.int p)]) rfl (wl_cons ?_)
    walk_at "w"
    refine w_gref hc (by walk_at "mb") SC.g ?_
    refine a_cval SC.rd hu ?_
    walk_at "w"
    rcases h with ⟨hp, q⟩ | ⟨hp, hE⟩
    · rw [decide_eq_false (show ¬ (10000 : Int) < (p : Nat) by omega)]
      walk_at "w"
      exact q
    · rw [decide_eq_true (show (10000 : Int) < (p : Nat) by omega)]
      walk_at "v"
      walk_at "go"
      refine ws_raise hc takes_cx ?_
      refine wmk_errB hc (by walk_at "mb") gL EL hr (by decide) ?_
      refine w_attr ?_
      refine w_gref hc (by walk_at "mb") SC.g ?_
      refine a_cval SC.rd hu ?_
      exact hE.at (Same.refl _)
theorem wk_check_limit (h : Fn P w K mg base "check_limit" 3 (spLimitE K)) : Fn P w K mg base "check_limit" 3 spLimit := by
  obtain ⟨f, a, b, F⟩ := h.ex
  exact ⟨f, a, b, F.imp fun vs H Q E ⟨p, e, hp, q⟩ => ⟨p, e, .inl ⟨hp, q⟩⟩⟩
def spSvFrom (K : PySem.W.Frag) : Sp := fun vs H Q _ => ∃ (a : Addr) (ns : List Int) (p : Nat), vs = [.ref a, .int (p : Nat)] ∧ SqL K H a (ns.map V.int) ∧ ns.length < 4090 ∧ 0 < p ∧ p ≤ 10000 ∧
  ((ns = [] ∧ Q .non H) ∨ ∃ f : Nat → Bool, ns ≠ [] ∧ Per f p ∧ (∃ i, f i = true) ∧ (∀ i, i < p → (ns.any (· == ((i : Nat) : Int))) = f i) ∧ ∀ b m H', Same H H' → (∀ n, kp m n = f n) → m.length ∣ p → SieveAt K H' b m → Q (.ref b) H')
def spSvFrom2 (K : PySem.W.Frag) : Sp := fun vs H Q _ => ∃ (a : Addr) (ns : List Int) (p : Nat), vs = [.ref a, .int (p : Nat)] ∧ ((SqL K H a (ns.map V.int) ∧ ns.length < 4090) ∨ BigL H a ns) ∧ 0 < p ∧ p ≤ 10000 ∧
  ((ns = [] ∧ Q .non H) ∨ ∃ f : Nat → Bool, ns ≠ [] ∧ Per f p ∧ (∃ i, f i = true) ∧ (∀ i, i < p → (ns.any (· == ((i : Nat) : Int))) = f i) ∧ ∀ b m H', Same H H' → (∀ n, kp m n = f n) → m.length ∣ p → SieveAt K H' b m → Q (.ref b) H')
theorem wk_sieve_from (F : Fn P w K mg base "sieve_from" 6 (spSvFrom2 K)) : Fn P w K mg base "sieve_from" 6 (spSvFrom K) := by
  obtain ⟨f, h1, h2, h3⟩ := F.ex
  exact ⟨f, h1, h2, h3.imp fun vs H Q E ⟨a, ns, p, e, hs, hn, hp, q⟩ => ⟨a, ns, p, e, .inl ⟨hs, hn⟩, hp, q⟩⟩
theorem ok_sieve_from (F : FunD K "sieve_from" "sieve_from" (defArgs s_sieve_from) (defBody s_sieve_from) (defScope s_sieve_from) [] [] f fd) (hb : ∀ x ∈ BB, mg x = none) (SC : SvC K mg) (h1 : Fn P w K mg base "pattern_of" 3 (spPatOf2 K)) (h2 : Mkr P w K mg base (cS K) 4 (spSvInit K)) : FnR P w K mg base (L2.CX P w) 6 f (spSvFrom2 K) := by
  refine fnr_of F sc_sieve_from (fun vs H Q E h => ?_) (fun kV doc pm an cdv ct us hl => match us, hl with | [_, _], _ => rfl) (fun x hx => hb x (by revert x; decide +kernel)) fun cd A outer s H vs Q E hr hc h => ?_
  · obtain ⟨a, ns, p, rfl, _⟩ := h; rfl
  · obtain ⟨a, ns, p, rfl, hs, hp0, hp, q⟩ := h
    refine wl_start (σ' := [some (.ref a), some (.int p)]) rfl (wl_cons ?_)
    have len : ∀ {X : Cx} {N L S G B : List Str} {e : Expr} {p pos : Pos} {σ : L2.St} {Q : VK}, Nm X N L S G B → X.K = K → Mb "len" B → WE X e σ H (fun x H1 => x = .ref a ∧ H1 = H) → Q (.int ns.length) H → starEach [e] X.env = (false, eval e X.env) :: starEach [] X.env → WE X (.Call (.Name "len" p) [e] [] pos) σ H Q := fun {X N L S G B e p pos σ Q} c eK m h q hs1 => by
      rcases hs with ⟨hs, _⟩ | ⟨hs, _⟩
      · refine x_len c m (WE.imp h fun x H1 ⟨ex, eH⟩ => ⟨(ns.map V.int).length, ?_, ?_⟩) hs1 (by with_unfolding_all rfl)
        · subst ex eH eK
          exact .inl ⟨_, hs, rfl⟩
        · rw [eH, List.length_map]; exact q
      · refine x_lenT c m (WE.imp h fun x H1 ⟨ex, eH⟩ => ⟨a, ns.map V.int, ex, by rw [eH]; exact hs, ?_⟩) hs1 (by with_unfolding_all rfl)
        rw [eH, List.length_map]; exact q
    refine ws_ret ?_
    refine w_if ?_
    refine wt_cmp ?_ (by walk_at "hm")
    refine len hc rfl (by walk_at "mb") (w_name hc (by walk_at "at") (by walk_at "mb") ⟨rfl, rfl⟩) ?_ (by with_unfolding_all rfl)
    walk_at "w"
    rcases q with ⟨rfl, q⟩ | ⟨f, hne, hper, hex, hf, q⟩
    · refine if_dec (fun h => absurd h (by simp)) (fun _ => ?_)
      walk_at "w"
      exact q
    · have hl : 0 < ns.length := List.length_pos_iff.mpr hne
      rw [decide_eq_true (show (0 : Int) < (ns.length : Nat) by omega)]
      walk_at "w"
      refine w_make hc (by walk_at "mb") SC.g h2 hr (by decide) passL ?_
      walk_at "w"
      refine w_call hc (by walk_at "mb") h1 hr (by decide) passL ?_
      walk_at "w"
      refine ⟨a, ns, p, rfl, hs, hp, fun H1 e1 => ?_⟩
      walk_at "w"
      have e : lof (fun i => ns.any (· == ((i : Nat) : Int))) p = lof f p := by
        unfold lof
        exact List.map_congr_left fun i hi => hf i (List.mem_range.mp hi)
      rw [e]
      refine made_sv ⟨⟨by rw [lof_len]; exact hp0, by rw [lof_len]; exact hp, ?_⟩, fun b m H' e2 gm km dm hs2 => ?_⟩
      · obtain ⟨i, hi⟩ := hex
        exact kp_plus (by rw [lof_len]; exact hp0) (i := i) (by rw [kp_lof hper hp0]; exact hi)
      · rw [lof_len] at dm
        exact q b m H' (e1.trans e2) (fun n => by rw [km, kp_lof hper hp0]) dm hs2

def spCompose (K : PySem.W.Frag) : Sp := fun vs H Q _ => ∃ (a b : Addr) (l m : List Bool), vs = [.ref a, .ref b] ∧ SieveAt K H a l ∧ SieveAt K H b m ∧ l.length * (Nat.lcm (ct (kp l) l.length) m.length / ct (kp l) l.length) ≤ 10000 ∧ ct (kp m) (Nat.lcm (ct (kp l) l.length) m.length) < 10001 ∧
  ∀ c r H', Same H H' → (∀ n, kp r n = cmp (kp l) (kp m) n) → r.length ∣ l.length * (Nat.lcm (ct (kp l) l.length) m.length / ct (kp l) l.length) → SieveAt K H' c r → Q (.ref c) H'
theorem va_compose (F : FunD K "compose" "compose" (defArgs s_compose) (defBody s_compose) (defScope s_compose) [] [] f fd) (hb : ∀ x ∈ BB, mg x = none) (SC : SvC K mg) (h1 : Fn P w K mg base "common_multiple" 3 spLcm) (h2 : Fn P w K mg base "check_limit" 3 spLimit) (h3 : Fn P w K mg base "sieve_from" 6 (spSvFrom2 K))
    (h4 : MtT P w K mg base (cS K) "nth" 4 (spNth K)) (h5 : Mth P w K mg base (cS K) "is_kept" 4 (spKept K)) (h6 : SvP P w K mg base "size" (spSize K)) (h7 : SvP P w K mg base "period" (spPer K)) : FnR P w K mg base (L2.CX P w) 7 f (spCompose K) := by
  refine fnr_of F sc_compose (fun vs H Q E h => ?_) (fun kV doc pm an cdv ct us hl => match us, hl with | [_, _], _ => rfl) (fun x hx => hb x (by revert x; decide +kernel)) fun cd A outer s H vs Q E hr hc h => ?_
  · obtain ⟨a, b, l, m, rfl, _⟩ := h; rfl
  · obtain ⟨a, b, l, m, rfl, ha, hb2, hP, hcap, q⟩ := h
    have hz : sizeLine = 16777216 := sizeLine_eq
    have gl := ha.1
    have gm := hb2.1
    have l1 := gl.one
    have l2 := gl.most
    have m1 := gm.one
    have m2 := gm.most
    have s1 := gl.toPat.size
    have s2 := ct_le (kp l) l.length
    have hL0 : 0 < Nat.lcm (ct (kp l) l.length) m.length := Nat.lcm_pos s1 m1
    have hL2 : Nat.lcm (ct (kp l) l.length) m.length ≤ ct (kp l) l.length * m.length := Nat.le_of_dvd (Nat.mul_pos s1 m1) (Nat.lcm_dvd_mul _ _)
    have hL3 : ct (kp l) l.length * m.length ≤ 10000 * 10000 := Nat.mul_le_mul (by omega) m2
    have hd1 : ct (kp l) l.length ∣ Nat.lcm (ct (kp l) l.length) m.length := Nat.dvd_lcm_left _ _
    have hd2 : m.length ∣ Nat.lcm (ct (kp l) l.length) m.length := Nat.dvd_lcm_right _ _
    have hL4 : Nat.lcm (ct (kp l) l.length) m.length ≤ 10000 := by
      have e1 : ct (kp l) l.length * (Nat.lcm (ct (kp l) l.length) m.length / ct (kp l) l.length) = Nat.lcm (ct (kp l) l.length) m.length := Nat.mul_div_cancel' hd1
      have e2 := Nat.mul_le_mul_right (Nat.lcm (ct (kp l) l.length) m.length / ct (kp l) l.length) s2
      omega
    refine wl_start (σ' := [some (.ref a), some (.ref b), none, none, none]) rfl (wl_cons ?_)
    walk_at "w"
    refine w_call hc (by walk_at "mb") h1 hr (by decide) passL ?_
    walk_at "w"
    refine a_svp SC h6 hr (by decide) ha ⟨a, l, rfl, ha, ?_⟩
    walk_at "w"
    refine a_svp SC h7 hr (by decide) hb2 ⟨b, m, rfl, hb2, ?_⟩
    walk_at "w"
    refine ⟨_, _, rfl, s1, by omega, m1, by omega, ?_⟩
    walk_at "w"
    refine a_svp SC h7 hr (by decide) ha ⟨a, l, rfl, ha, ?_⟩
    walk_at "w"
    refine b_mul (mul_small (by omega) (by omega)) ?_
    walk_at "w"
    refine a_svp SC h6 hr (by decide) ha ⟨a, l, rfl, ha, ?_⟩
    refine b_fdiv (by omega) (by omega) ?_
    have eP : ((l.length : Nat) : Int) * (Nat.lcm (ct (kp l) l.length) m.length : Nat) / (ct (kp l) l.length : Nat) = ((l.length * (Nat.lcm (ct (kp l) l.length) m.length / ct (kp l) l.length) : Nat) : Int) := by
      rw [← Nat.mul_div_assoc _ hd1]; simp
    rw [eP]
    walk_at "w"
    refine w_call hc (by walk_at "mb") h2 hr (by decide) passL ?_
    walk_at "w"
    refine ⟨_, rfl, hP, ?_⟩
    walk_at "w"
    refine w_call hc (by walk_at "mb") h3 hr (by decide) passL ?_
    walk_at "w"
    refine w_lct hc (own := bO_compose_0) (by kernel_rfl) (fun i acc => ∃ ns : List Nat, acc = ns.map (fun n => V.int (n : Nat)) ∧ ns.Nodup ∧ (∀ n, n ∈ ns ↔ kp l n = true ∧ ct (kp l) n < i ∧ kp m (ct (kp l) n) = true) ∧ ns.length = ct (kp m) i) ?_
    refine wi_range1 hc (by walk_at "mb") ?_
    walk_at "w"
    refine ⟨by omega, by omega, _, _, wlk_range, by omega, ⟨[], rfl, List.nodup_nil, fun n => by simp, rfl⟩, fun i acc H' hi hl hP2 hS => ?_, fun acc D H' hl hP2 hD hS hDa => ?_⟩
    · obtain ⟨ns, rfl, hnd, hmem, hlen⟩ := hP2
      intro X1 b1
      have c1 := nm_blk (L' := bL_compose_0) (S' := bS_compose_0) (G' := bG_compose_0) (B' := bB_compose_0) b1 hc (by kernel_rfl) (fun x hx => nomatch hx)
      simp only [wipe, List.map_cons, List.map_nil, List.set_cons_succ, List.set_cons_zero]
      rw [show (0 : Int) + (i : Nat) = ((i : Nat) : Int) by omega]
      walk_at "w"
      refine ⟨rfl, rfl, ?_⟩
      intro X2 b2
      refine wts_one ?_
      have c2 := nm_blk (L' := bL_compose_0) (S' := bS_compose_0) (G' := bG_compose_0) (B' := bB_compose_0) b2 hc (by kernel_rfl) (fun x hx => nomatch hx)
      obtain ⟨_, _, _, _, _, rfl⟩ := b2
      walk_at "w"
      refine w_meth h5 hr (by decide) passL ?_
      walk_at "w"
      have hb3 := hb2.same hS
      have hb4 := hb3
      obtain ⟨_, dx, p, hi1, hi2⟩ := hb4
      refine ⟨_, _, _, rfl, hi1, rfl, ?_⟩
      walk_at "w"
      refine ⟨b, m, i, rfl, hb3, ?_⟩
      walk_at "w"
      refine ⟨Same.refl _, ?_⟩
      cases hk : kp m i with
      | false =>
        refine ite_f ⟨ns, rfl, hnd, fun n => ?_, by rw [ct_succ_f hk, hlen]⟩
        rw [hmem]
        constructor
        · rintro ⟨x, y, z⟩; exact ⟨x, by omega, z⟩
        · rintro ⟨x, y, z⟩
          refine ⟨x, ?_, z⟩
          by_cases e : ct (kp l) n = i
          · rw [e, hk] at z; cases z
          · omega
      | true =>
        refine ite_t ?_
        intro X3 b3
        have c3 := nm_blk (L' := bL_compose_0) (S' := bS_compose_0) (G' := bG_compose_0) (B' := bB_compose_0) b3 hc (by kernel_rfl) (fun x hx => nomatch hx)
        obtain ⟨_, _, _, _, _, rfl⟩ := b3
        refine wet_meth h4 hr (by decide) passL ?_
        walk_at "w"
        have ha3 := ha.same hS
        have ha4 := ha3
        obtain ⟨_, dx, p, hi1, hi2⟩ := ha4
        refine ⟨_, _, _, rfl, hi1, rfl, ?_⟩
        walk_at "w"
        refine ⟨a, l, i, rfl, ha3, fun n H2 e2 hn1 hn2 => ⟨e2, ns ++ [n], by simp, List.nodup_append.mpr ⟨hnd, by simp, fun x hx y hy exy => by rw [List.mem_singleton.mp hy] at exy; rw [exy] at hx; have z := ((hmem n).mp hx).2.1; rw [hn2] at z; exact absurd z (Nat.lt_irrefl _)⟩, fun k => ?_, by rw [ct_succ_t hk, ← hlen]; simp⟩⟩
        rw [List.mem_append, hmem, List.mem_singleton]
        constructor
        · rintro (⟨x, y, z⟩ | rfl)
          · exact ⟨x, by omega, z⟩
          · exact ⟨hn1, by omega, by rw [hn2]; exact hk⟩
        · rintro ⟨x, y, z⟩
          by_cases e : ct (kp l) k = i
          · right
            exact ct_inj x hn1 (by rw [e, hn2])
          · left
            exact ⟨x, by omega, z⟩
    · obtain ⟨ns, rfl, hnd, hmem, hlen⟩ := hP2
      walk_at "w"
      have hper := cmp_per (kp_per l) (kp_per m) s1 hd1 hd2
      have hex := cmp_ex (kp_per l) s1 (by obtain ⟨i, _, e⟩ := plus_kp gm.plus; exact ⟨i, e⟩)
      have hP0 : 0 < l.length * (Nat.lcm (ct (kp l) l.length) m.length / ct (kp l) l.length) := Nat.mul_pos l1 (Nat.div_pos (Nat.le_of_dvd hL0 hd1) s1)
      have htop := ct_top (kp_per l) hd1
      have hany : ∀ i, i < l.length * (Nat.lcm (ct (kp l) l.length) m.length / ct (kp l) l.length) → ((ns.map fun n => ((n : Nat) : Int)).any (· == ((i : Nat) : Int))) = cmp (kp l) (kp m) i := fun i hi => by
        have h8 : ((ns.map fun n => ((n : Nat) : Int)).any (· == ((i : Nat) : Int))) = true ↔ i ∈ ns := by
          rw [List.any_eq_true]
          constructor
          · rintro ⟨x, hx, e⟩
            obtain ⟨n, hn, rfl⟩ := List.mem_map.mp hx
            have e3 : ((n : Nat) : Int) = ((i : Nat) : Int) := eq_of_beq e
            have : n = i := by omega
            rw [← this]; exact hn
          · intro h
            exact ⟨_, List.mem_map.mpr ⟨i, h, rfl⟩, by simp⟩
        rw [Bool.eq_iff_iff, h8, hmem]
        unfold cmp
        rw [Bool.and_eq_true]
        constructor
        · rintro ⟨x, _, z⟩; exact ⟨x, z⟩
        · rintro ⟨x, z⟩
          refine ⟨x, ?_, z⟩
          have := ct_lt x hi
          rw [htop] at this
          simpa using this
      refine ⟨D, ns.map fun n => ((n : Nat) : Int), _, rfl, .inr ⟨by rw [hDa, List.map_map]; rfl, List.Pairwise.map _ (fun x y hxy z => hxy (by omega)) hnd, fun k hk => ?_, ?_⟩, hP0, hP, .inr ⟨cmp (kp l) (kp m), ?_, hper, hex, hany, fun c r H2 e2 hk hd hs => q c r H2 (hS.trans e2) hk hd hs⟩⟩
      · obtain ⟨n, hn, rfl⟩ := List.mem_map.mp hk
        have hn2 := ((hmem n).mp hn).2.1
        refine ⟨by omega, ?_⟩
        have hnl : n < l.length * (Nat.lcm (ct (kp l) l.length) m.length / ct (kp l) l.length) := by
          refine Classical.byContradiction fun hge => ?_
          have := ct_mono (kp l) (show l.length * (Nat.lcm (ct (kp l) l.length) m.length / ct (kp l) l.length) ≤ n by omega)
          rw [htop] at this
          simp at hn2
          omega
        omega
      · rw [List.length_map, hlen]
        have := ct_le (kp m) (Nat.lcm (ct (kp l) l.length) m.length)
        simp
        omega
      · intro z
        obtain ⟨n, hn⟩ := hex
        have h9 : cmp (kp l) (kp m) (n % (l.length * (Nat.lcm (ct (kp l) l.length) m.length / ct (kp l) l.length))) = true := by rw [hper.mod]; exact hn
        rw [← hany _ (Nat.mod_lt _ hP0), z] at h9
        cases h9
/-- the period of the composition by the formula -/
abbrev cper (l m : List Bool) : Nat := l.length * (Nat.lcm (ct (kp l) l.length) m.length / ct (kp l) l.length)
def spCompR (K : PySem.W.Frag) : Sp := fun vs H Q E => ∃ (a b : Addr) (l m : List Bool), vs = [.ref a, .ref b] ∧ SieveAt K H a l ∧ SieveAt K H b m ∧ 10000 < cper l m ∧ RsL K H E
theorem er_compose (F : FunD K "compose" "compose" (defArgs s_compose) (defBody s_compose) (defScope s_compose) [] [] f fd) (hb : ∀ x ∈ BB, mg x = none) (SC : SvC K mg) (h1 : Fn P w K mg base "common_multiple" 3 spLcm) (h2 : Fn P w K mg base "check_limit" 3 (spLimitE K)) (h6 : SvP P w K mg base "size" (spSize K)) (h7 : SvP P w K mg base "period" (spPer K)) : FnR P w K mg base (L2.CX P w) 7 f (spCompR K) := by
  refine fnr_of F sc_compose (fun vs H Q E h => ?_) (fun kV doc pm an cdv ct us hl => match us, hl with | [_, _], _ => rfl) (fun x hx => hb x (by revert x; decide +kernel)) fun cd A outer s H vs Q E hr hc h => ?_
  · obtain ⟨a, b, l, m, rfl, _⟩ := h; rfl
  · obtain ⟨a, b, l, m, rfl, ha, hb2, hP, hE⟩ := h
    have gl := ha.1
    have gm := hb2.1
    have l1 := gl.one
    have l2 := gl.most
    have m1 := gm.one
    have m2 := gm.most
    have s1 := gl.toPat.size
    have s2 := ct_le (kp l) l.length
    have hL0 : 0 < Nat.lcm (ct (kp l) l.length) m.length := Nat.lcm_pos s1 m1
    have hL2 : Nat.lcm (ct (kp l) l.length) m.length ≤ ct (kp l) l.length * m.length := Nat.le_of_dvd (Nat.mul_pos s1 m1) (Nat.lcm_dvd_mul _ _)
    have hL3 : ct (kp l) l.length * m.length ≤ 10000 * 10000 := Nat.mul_le_mul (by omega) m2
    have hd1 : ct (kp l) l.length ∣ Nat.lcm (ct (kp l) l.length) m.length := Nat.dvd_lcm_left _ _
    refine wl_start (σ' := [some (.ref a), some (.ref b), none, none, none]) rfl (wl_cons ?_)
    walk_at "w"
    refine w_call hc (by walk_at "mb") h1 hr (by decide) passL ?_
    walk_at "w"
    refine a_svp SC h6 hr (by decide) ha ⟨a, l, rfl, ha, ?_⟩
    walk_at "w"
    refine a_svp SC h7 hr (by decide) hb2 ⟨b, m, rfl, hb2, ?_⟩
    walk_at "w"
    refine ⟨_, _, rfl, s1, by omega, m1, by omega, ?_⟩
    walk_at "w"
    refine a_svp SC h7 hr (by decide) ha ⟨a, l, rfl, ha, ?_⟩
    walk_at "w"
    refine b_mul (mul_small (by omega) (by omega)) ?_
    walk_at "w"
    refine a_svp SC h6 hr (by decide) ha ⟨a, l, rfl, ha, ?_⟩
    refine b_fdiv (by omega) (by omega) ?_
    have eP : ((l.length : Nat) : Int) * (Nat.lcm (ct (kp l) l.length) m.length : Nat) / (ct (kp l) l.length : Nat) = ((cper l m : Nat) : Int) := by
      unfold cper
      rw [← Nat.mul_div_assoc _ hd1]; simp
    rw [eP]
    walk_at "w"
    refine w_callA hc (by walk_at "mb") h2 hr (by decide) (passA takes_cx _) ?_
    walk_at "w"
    exact ⟨_, rfl, .inr ⟨hP, hE⟩⟩
def spCompE (K : PySem.W.Frag) : Sp := fun vs H Q E => spCompose K vs H Q E ∨ spCompR K vs H Q E
theorem ok_compose (F : FunD K "compose" "compose" (defArgs s_compose) (defBody s_compose) (defScope s_compose) [] [] f fd) (hb : ∀ x ∈ BB, mg x = none) (SC : SvC K mg) (h1 : Fn P w K mg base "common_multiple" 3 spLcm) (h2 : Fn P w K mg base "check_limit" 3 spLimit) (h2e : Fn P w K mg base "check_limit" 3 (spLimitE K)) (h3 : Fn P w K mg base "sieve_from" 6 (spSvFrom2 K))
    (h4 : MtT P w K mg base (cS K) "nth" 4 (spNth K)) (h5 : Mth P w K mg base (cS K) "is_kept" 4 (spKept K)) (h6 : SvP P w K mg base "size" (spSize K)) (h7 : SvP P w K mg base "period" (spPer K)) : FnR P w K mg base (L2.CX P w) 7 f (spCompE K) := by exact fnr_or (va_compose F hb SC h1 h2 h3 h4 h5 h6 h7) (er_compose F hb SC h1 h2e h6 h7)
theorem wk_compose (h : Fn P w K mg base "compose" 7 (spCompE K)) : Fn P w K mg base "compose" 7 (spCompose K) := by
  obtain ⟨f, a, b, F⟩ := h.ex
  exact ⟨f, a, b, F.imp fun vs H Q E z => .inl z⟩
/-- compose, told by the formula alone -/
theorem comp_by {a b : Addr} {l m : List Bool} {H : Hp} {Q : VK} {E : XK} (ha : SieveAt K H a l) (hb : SieveAt K H b m) (q : cper l m ≤ 10000 → ∀ c r H', Same H H' → (∀ n, kp r n = cmp (kp l) (kp m) n) → r.length ∣ cper l m → SieveAt K H' c r → Q (.ref c) H') (e : 10000 < cper l m → RsL K H E) : spCompE K [.ref a, .ref b] H Q E := by
  by_cases h : cper l m ≤ 10000
  · refine .inl ⟨a, b, l, m, rfl, ha, hb, h, ?_, q h⟩
    have s1 := ha.1.toPat.size
    have s2 := ct_le (kp l) l.length
    have hd1 : ct (kp l) l.length ∣ Nat.lcm (ct (kp l) l.length) m.length := Nat.dvd_lcm_left _ _
    have e1 : ct (kp l) l.length * (Nat.lcm (ct (kp l) l.length) m.length / ct (kp l) l.length) = Nat.lcm (ct (kp l) l.length) m.length := Nat.mul_div_cancel' hd1
    have e2 := Nat.mul_le_mul_right (Nat.lcm (ct (kp l) l.length) m.length / ct (kp l) l.length) s2
    have e3 := ct_le (kp m) (Nat.lcm (ct (kp l) l.length) m.length)
    unfold cper at h
    omega
  · exact .inr ⟨a, b, l, m, rfl, ha, hb, by omega, e (by omega)⟩
def spDens (K : PySem.W.Frag) : Sp := fun vs H Q _ => ∃ (a : Addr) (l : List Bool), vs = [.ref a] ∧ SieveAt K H a l ∧ ∀ T H', Same H H' → H' T = some (.tup [.int (ct (kp l) l.length / Nat.gcd (ct (kp l) l.length) l.length : Nat), .int (l.length / Nat.gcd (ct (kp l) l.length) l.length : Nat)]) → Q (.ref T) H'
theorem ok_density (F : FunD K "density" "density" (defArgs s_density) (defBody s_density) (defScope s_density) [] [] f fd) (hb : ∀ x ∈ BB, mg x = none) (SC : SvC K mg) (h1 : Fn P w K mg base "common_divisor" 2 spGcd) (h6 : SvP P w K mg base "size" (spSize K)) (h7 : SvP P w K mg base "period" (spPer K)) : FnR P w K mg base (L2.CX P w) 5 f (spDens K) := by
  refine fnr_of F sc_density (fun vs H Q E h => ?_) (fun kV doc pm an cdv ct us hl => match us, hl with | [_], _ => rfl) (fun x hx => hb x (by revert x; decide +kernel)) fun cd A outer s H vs Q E hr hc h => ?_
  · obtain ⟨a, l, rfl, _⟩ := h; rfl
  · obtain ⟨a, l, rfl, ha, q⟩ := h
    have gl := ha.1
    have l1 := gl.one
    have l2 := gl.most
    have s1 := gl.toPat.size
    have s2 := ct_le (kp l) l.length
    have hg := Nat.gcd_le_left l.length s1
    have hg0 := Nat.gcd_pos_of_pos_left l.length s1
    refine wl_start (σ' := [some (.ref a), none]) rfl (wl_cons ?_)
    walk_at "w"
    refine w_call hc (by walk_at "mb") h1 hr (by decide) passL ?_
    walk_at "w"
    refine a_svp SC h6 hr (by decide) ha ⟨a, l, rfl, ha, ?_⟩
    walk_at "w"
    refine a_svp SC h7 hr (by decide) ha ⟨a, l, rfl, ha, ?_⟩
    walk_at "w"
    refine ⟨_, _, rfl, ?_⟩
    walk_at "w"
    refine a_svp SC h6 hr (by decide) ha ⟨a, l, rfl, ha, ?_⟩
    walk_at "w"
    refine b_fdiv (by omega) (by omega) ?_
    walk_at "w"
    refine a_svp SC h7 hr (by decide) ha ⟨a, l, rfl, ha, ?_⟩
    walk_at "w"
    refine b_fdiv (by omega) (by omega) ?_
    walk_at "w"
    refine ⟨(by show 2 ≤ sizeLine; rw [sizeLine_eq]; decide), fun T H1 hT e1 hT1 => ?_⟩
    exact q T H1 e1 hT1

def spPool (K : PySem.W.Frag) : Sp := fun vs H Q _ => ∃ (sc : Addr) (ns : List Int) (k : Nat), vs = [.ref sc, .int k] ∧ SqL K H sc (ns.map V.int) ∧ ns.length ≤ 63 ∧ k ≤ 1000 ∧ ∀ p H', H p = none → Same H H' → H' p = some (pool p) → Q (.ref p) H'
theorem ok__law_pool (F : FunD K "_law_pool" "_law_pool" (defArgs s__law_pool) (defBody s__law_pool) (defScope s__law_pool) [] [] f fd) (hb : ∀ x ∈ BB, mg x = none) : FnR P w K mg base (L2.CX P w) 2 f (spPool K) := by
  refine fnr_of F sc__law_pool (fun vs H Q E h => ?_) (fun kV doc pm an cdv ct us hl => match us, hl with | [_, _], _ => rfl) (fun x hx => hb x (by revert x; decide +kernel)) fun cd A outer s H vs Q E hr hc h => ?_
  · obtain ⟨sc, ns, k, rfl, _⟩ := h; rfl
  · obtain ⟨sc, ns, k, rfl, hs, hn, hk, q⟩ := h
    have hz : sizeLine = 16777216 := sizeLine_eq
    refine wl_start (σ' := [some (.ref sc), some (.int k), none, none]) rfl (wl_cons ?_)
    walk_at "w"
    refine ⟨_, .inl ⟨_, hs, rfl⟩, ?_⟩
    walk_at "w"
    have key : ∀ c : Int, 0 ≤ c → WL (cx P w K mg base N__law_pool "_law_pool" (defScope s__law_pool) f cd A outer s H E) ((defBody s__law_pool).drop 2) { nx := fun _ H' => Q .non H', rt := Q } [some (.ref sc), some (.int k), some (.int c), none] H := by
      intro c h0
      refine wl_cons ?_
      walk_at "w"
      refine b_mod (by omega) ?_
      walk_at "w"
      refine b_mul (mul_small (by omega) (by omega)) ?_
      walk_at "w"
      refine b_mul (mul_small (by omega) (by omega)) ?_
      walk_at "w"
      refine b_mul (mul_small (by omega) (by omega)) ?_
      walk_at "w"
      refine b_mul (mul_small (by omega) (by omega)) ?_
      walk_at "w"
      refine b_mod (by omega) ?_
      refine ⟨_, by walk_at "put", ?_⟩
      refine wl_cons ?_
      refine ws_ret ?_
      refine we_abs ?_
      walk_at "w"
      generalize hm : (c % 2147483629 + 7919 * (k : Int) * (k : Int) + 31 * (k : Int) + 17) * 48271 % 2147483647 = m
      have m0 : 0 ≤ m := by rw [← hm]; exact Int.emod_nonneg _ (by decide)
      have m1 : m < 2147483647 := by rw [← hm]; exact Int.emod_lt_of_pos _ (by decide)
      refine b_pow ⟨by omega, by omega, by decide⟩ ?_
      walk_at "w"
      have hb1 : ∀ b : Bool, (0 : Int) ≤ (if b = true then 1 else 0) ∧ (if b = true then (1 : Int) else 0) ≤ 1 := fun b => by cases b <;> decide
      refine b_mul (mul_small (hb1 _).1 (by have := (hb1 (decide ((10 : Int) ^ Int.toNat 18 ≤ c))).2; omega)) ?_
      walk_at "w"
      refine b_mul (.of_right (intBits_le_64 (by omega) (by omega))) ?_
      walk_at "w"
      refine b_mod (by omega) ?_
      walk_at "w"
      refine ⟨(by show 2 ≤ sizeLine; omega), fun p H1 hp e1 hp1 => ?_⟩
      have h5 := hb1 (decide ((10 : Int) ^ Int.toNat 18 ≤ c))
      refine ⟨_, pool_abs hp1 (Int.mul_nonneg h0 h5.1) (Int.emod_nonneg _ (by decide)), ?_⟩
      exact q p _ hp (same_mut e1 hp) upd_same
    refine if_dec (fun h1 => ?_) (fun h1 => ?_)
    · walk_at "w"
      have hk2 : k < ns.length := by rw [List.length_map] at h1; omega
      refine ix_l hs (at_of (i := k) rfl (v := .int ns[k]) (by rw [List.getElem?_map, List.getElem?_eq_getElem hk2]; rfl)) ?_
      refine ⟨_, rfl, ?_⟩
      refine ⟨_, by walk_at "put", ?_⟩
      refine wl_nil ?_
      refine key _ ?_
      split <;> omega
    · refine wl_nil ?_
      exact key 0 (by decide)
def spTakeW : Sp := fun vs H Q _ => ∃ (p : Addr) (many : Nat), vs = [.ref p, .int many] ∧ H p = some (pool p) ∧ 0 < many ∧ many < 2 ^ 400 ∧ ∀ r : Nat, r < many → Q (.int (r : Nat)) H
theorem ok__law_take (F : FunD K "_law_take" "_law_take" (defArgs s__law_take) (defBody s__law_take) (defScope s__law_take) [] [] f fd) (hb : ∀ x ∈ BB, mg x = none) : FnR P w K mg base (L2.CX P w) 2 f spTakeW := by
  refine fnr_of F sc__law_take (fun vs H Q E h => ?_) (fun kV doc pm an cdv ct us hl => match us, hl with | [_, _], _ => rfl) (fun x hx => hb x (by revert x; decide +kernel)) fun cd A outer s H vs Q E hr hc h => ?_
  · obtain ⟨p, many, rfl, _⟩ := h; rfl
  · obtain ⟨p, many, rfl, hp, hm0, hm1, q⟩ := h
    have hlg : ((many : Nat) : Int).natAbs.log2 < 9000 := by
      rw [Int.natAbs_natCast]
      have := (Nat.log2_lt (by omega)).mpr hm1
      omega
    refine wl_start (σ' := [some (.ref p), some (.int many), none]) rfl (wl_pool hp fun i j hi hj => ?_)
    walk_at "go"
    walk_at "w"
    refine ix_l (.inl (.inl upd_same)) rfl ?_
    walk_at "w"
    refine if_dec (fun h1 => ?_) (fun h1 => ?_)
    · walk_at "w"
      refine ix_l (.inl (.inl upd_same)) rfl ?_
      walk_at "w"
      refine b_mod (by omega) ?_
      walk_at "w"
      refine ws_asg ?_
      walk_at "w"
      refine ix_l (.inl (.inl upd_same)) rfl ?_
      walk_at "w"
      refine b_fdivW ⟨by omega, hlg⟩ ?_
      refine wg_subL ?_
      walk_at "w"
      refine ⟨p, _, 0, 0, rfl, rfl, upd_same, rfl, ?_⟩
      walk_at "go"
      refine ws_ret (we_abs ?_)
      walk_at "w"
      refine ⟨_, pool_abs (i := i / (many : Int)) (j := j) upd_same (Int.ediv_nonneg hi (by omega)) hj, ?_⟩
      rw [upd_upd, pool_back hp]
      have e1 : i % (many : Int) = ((i % (many : Int)).toNat : Int) := by
        have := Int.emod_nonneg i (show (many : Int) ≠ 0 by omega)
        omega
      rw [e1]
      refine q _ ?_
      have := Int.emod_lt_of_pos i (show (0 : Int) < (many : Int) by omega)
      omega
    · walk_at "w"
      refine ws_asg ?_
      walk_at "w"
      refine ix_l (.inl (.inl upd_same)) rfl ?_
      walk_at "w"
      refine b_mul (mul_small (by omega) (by omega)) ?_
      walk_at "w"
      refine b_mod (by omega) ?_
      generalize hm : (j * 48271 + 12345) % 2147483647 = m
      have m0 : 0 ≤ m := by rw [← hm]; exact Int.emod_nonneg _ (by decide)
      have m1 : m < 2147483647 := by rw [← hm]; exact Int.emod_lt_of_pos _ (by decide)
      refine wg_subL ?_
      walk_at "w"
      refine ⟨p, _, 1, 1, rfl, rfl, upd_same, rfl, ?_⟩
      walk_at "go"
      refine ws_ret (we_abs ?_)
      walk_at "w"
      refine ix_l (.inl (.inl upd_same)) rfl ?_
      walk_at "w"
      refine ix_l (.inl (.inl upd_same)) rfl ?_
      refine b_mul (.of_right (intBits_le_64 (by omega) (by omega))) ?_
      walk_at "w"
      refine b_mod (by omega) ?_
      walk_at "w"
      refine b_fdiv (by omega) (by omega) ?_
      walk_at "w"
      refine b_mod (by omega) ?_
      refine ⟨_, pool_abs (i := i) (j := m) upd_same hi m0, ?_⟩
      rw [upd_upd, pool_back hp]
      generalize m * m % 2147483629 / 64 = z
      have e1 : z % (many : Int) = ((z % (many : Int)).toNat : Int) := by
        have := Int.emod_nonneg z (show (many : Int) ≠ 0 by omega)
        omega
      rw [e1]
      refine q _ ?_
      have := Int.emod_lt_of_pos z (show (0 : Int) < (many : Int) by omega)
      omega

def spLPatU : Sp := fun vs H Q _ => ∃ (p : Addr) (most : Nat), vs = [.ref p, .int most] ∧ H p = some (pool p) ∧ 0 < most ∧ most ≤ 200 ∧ ∀ l H', Same H H' → Pat l → l.length ≤ most → Q (.str (sOf l)) H'
theorem ok__law_pattern (F : FunD K "_law_pattern" "_law_pattern" (defArgs s__law_pattern) (defBody s__law_pattern) (defScope s__law_pattern) [] [] f fd) (hb : ∀ x ∈ BB, mg x = none) (h1 : Fn P w K mg base "_law_take" 2 spTakeW) : FnR P w K mg base (L2.CX P w) 3 f spLPatU := by
  refine fnr_of F sc__law_pattern (fun vs H Q E h => ?_) (fun kV doc pm an cdv ct us hl => match us, hl with | [_, _], _ => rfl) (fun x hx => hb x (by revert x; decide +kernel)) fun cd A outer s H vs Q E hr hc h => ?_
  · obtain ⟨p, most, rfl, _⟩ := h; rfl
  · obtain ⟨p, most, rfl, hp, hm0, hm1, q⟩ := h
    have hz : sizeLine = 16777216 := sizeLine_eq
    refine wl_start (σ' := [some (.ref p), some (.int most), none, none]) rfl (wl_cons ?_)
    refine ws_setLc hc (own := bO__law_pattern_0) (by kernel_rfl) (fun i acc => ∃ bs : List Bool, acc = bs.map (fun b => V.str (sOf [b])) ∧ bs.length = i) ?_ (by kernel_rfl) (by kernel_rfl) (iy := ⟨2, rfl⟩)
    refine wi_range1 hc (by walk_at "mb") ?_
    walk_at "w"
    refine w_call hc (by walk_at "mb") h1 hr (by decide) passL ?_
    walk_at "w"
    refine ⟨p, most, rfl, hp, hm0, Nat.lt_of_le_of_lt hm1 (by decide +kernel), fun len0 hlen0 => ?_⟩
    walk_at "w"
    have hl1 : (1 : Int) + (len0 : Nat) = ((len0 + 1 : Nat) : Int) := by omega
    rw [hl1]
    refine ⟨by omega, by omega, _, _, wlk_range, by omega, ⟨[], rfl, rfl⟩, fun i acc H' hi hl hP hS => ?_, fun acc D H2 hl hP hD hS hDa => ?_⟩
    · obtain ⟨bs, rfl, hbs⟩ := hP
      intro X1 b1
      have c1 := nm_blk (L' := bL__law_pattern_0) (S' := bS__law_pattern_0) (G' := bG__law_pattern_0) (B' := bB__law_pattern_0) b1 hc (by kernel_rfl) (fun x hx => nomatch hx)
      simp only [wipe, List.map_cons, List.map_nil, List.set_cons_succ, List.set_cons_zero]
      walk_at "w"
      refine ⟨rfl, rfl, ?_⟩
      intro X2 b2
      refine wts_nil ?_
      refine ⟨Same.refl _, ite_t ?_⟩
      intro X3 b3
      have c3 := nm_blk (L' := bL__law_pattern_0) (S' := bS__law_pattern_0) (G' := bG__law_pattern_0) (B' := bB__law_pattern_0) b3 hc (by kernel_rfl) (fun x hx => nomatch hx)
      obtain ⟨_, _, _, _, _, rfl⟩ := b3
      walk_at "w"
      refine w_call c3 (by walk_at "mb") h1 hr (by decide) passL ?_
      walk_at "w"
      refine ⟨p, 2, rfl, hS _ _ hp, by decide, by decide +kernel, fun r hr2 => ?_⟩
      obtain ⟨b, hb1⟩ : ∃ b : Bool, atI ("+-" : Str).cps.toList ((r : Nat) : Int) = some (sgn b) := by
        rw [pm_str]
        rcases (by omega : r = 0 ∨ r = 1) with rfl | rfl
        · exact ⟨true, rfl⟩
        · exact ⟨false, rfl⟩
      refine ix_s (by rw [pm_str]; show 2 ≤ sizeLine; omega) hb1 ?_
      exact ⟨Same.refl _, bs ++ [b], by rw [List.map_append]; rfl, by simp [hbs]⟩
    · obtain ⟨bs, rfl, hbs⟩ := hP
      rw [Int.toNat_natCast] at hbs
      refine ⟨_, by walk_at "put", ?_⟩
      walk_at "go"
      refine ws_asg ?_
      walk_at "w"
      refine wg_subL ?_
      walk_at "w"
      refine w_call hc (by walk_at "mb") h1 hr (by decide) passL ?_
      walk_at "w"
      refine ⟨bs.length, .inl ⟨_, .inl (.inl hDa), by rw [List.length_map]⟩, ?_⟩
      walk_at "w"
      refine ⟨p, bs.length, rfl, hS _ _ hp, by omega, Nat.lt_of_le_of_lt (show bs.length ≤ 200 by omega) (by decide +kernel), fun r hr2 => ?_⟩
      have hixn : ixN (bs.map fun b => V.str (sOf [b])).length ((r : Nat) : Int) = some r := by
        unfold ixN
        rw [List.length_map, if_pos (by omega), if_pos (by omega)]
        rfl
      refine ⟨D, _, _, r, rfl, rfl, hDa, hixn, ?_⟩
      have hset : (bs.map fun b => V.str (sOf [b])).set r (.str "+") = (bs.set r true).map fun b => V.str (sOf [b]) := by
        rw [List.map_set]
        rfl
      walk_at "w"
      refine w_join ?_
      walk_at "w"
      refine ⟨D, (bs.set r true).map fun b => sOf [b], rfl, .inl (.inl (.inl (by rw [upd_same, hset, List.map_map]; rfl))), ?_, ?_⟩
      · have hl1 : ∀ l : List Bool, ((l.map fun b => sOf [b]).map fun x => x.length).sum = l.length := fun l => by
          induction l with
          | nil => rfl
          | cons b r ih => simp only [List.map_cons, List.sum_cons, ih, sOf_len, List.length_cons, List.length_nil]; omega
        rw [hl1, List.length_map, List.length_set]
        have : ("" : Str).length = 0 := by decide +kernel
        rw [this]
        omega
      · rw [join_sOf]
        refine q _ _ (same_mut hS hD) ⟨by rw [List.length_set]; omega, by rw [List.length_set]; omega, ?_⟩ (by rw [List.length_set]; omega)
        exact List.mem_iff_getElem.mpr ⟨r, by rw [List.length_set]; exact hr2, by rw [List.getElem_set_self]⟩

/-- the numbers that survivors hands out -/
def surv (f : Nat → Bool) (i j : Nat) : List Nat := sel (fun n => decide (i ≤ n) && f n) j
theorem sel_gap {g : Nat → Bool} {M M' : Nat} (h : M ≤ M') (k : ∀ m, M ≤ m → m < M' → g m = false) : sel g M' = sel g M := by
  induction h with
  | refl => rfl
  | step h ih =>
    rename_i m
    rw [sel_step, k m h (by omega), ih fun m' h1 h2 => k m' h1 (by omega)]
    simp
theorem ct_gap {f : Nat → Bool} {M M' : Nat} (h : ct f M = ct f M') {m : Nat} (h1 : M ≤ m) (h2 : m < M') : f m = false := by
  cases e : f m with
  | false => rfl
  | true =>
    have a := ct_mono f h1
    have b := ct_lt e h2
    omega
def spSurv (K : PySem.W.Frag) : SpG := fun vs H Q _ => ∃ (a : Addr) (l : List Bool) (i j : Nat), vs = [.ref a, .int i, .int j] ∧ SieveAt K H a l ∧ i < 1000000000 ∧ j < 1000000000 ∧ ct (kp l) j < 16000000 ∧ ∀ H', Same H H' → Q (((surv (kp l) i j).map fun n => ((n : Nat) : Int)).map V.int) H'
/-- the count, again and again -/
def itc (f : Nat → Bool) : Nat → Nat → Nat
  | 0, n => n
  | t + 1, n => ct f (itc f t n)
theorem itc_in (f : Nat → Bool) (t n : Nat) : itc f t (ct f n) = itc f (t + 1) n := by
  induction t with
  | zero => rfl
  | succ t ih => show ct f (itc f t (ct f n)) = ct f (itc f (t + 1) n); rw [ih]
theorem itc_add (f : Nat → Bool) (s t n : Nat) : itc f s (itc f t n) = itc f (s + t) n := by
  induction s with
  | zero => rw [Nat.zero_add]; rfl
  | succ s ih => rw [show s + 1 + t = (s + t) + 1 by omega]; show ct f (itc f s (itc f t n)) = ct f (itc f (s + t) n); rw [ih]
theorem itc_le (f : Nat → Bool) (t n : Nat) : itc f t n ≤ n := by
  induction t with
  | zero => exact Nat.le_refl _
  | succ t ih => exact Nat.le_trans (ct_le _ _) ih
/-- n stands t rounds before where i does -/
def Nt (f : Nat → Bool) : Nat → Nat → Nat → Prop
  | 0, i, n => n = i
  | t + 1, i, n => ∃ m, Nt f t i m ∧ f n = true ∧ ct f n = m
theorem Nt.uniq {f : Nat → Bool} : ∀ {t i n m : Nat}, Nt f t i n → Nt f t i m → n = m
  | 0, i, n, m, h, k => by rw [show n = i from h, show m = i from k]
  | t + 1, i, n, m, ⟨a, h1, h2, h3⟩, ⟨b, k1, k2, k3⟩ => by
    have e := Nt.uniq h1 k1
    exact ct_inj h2 k2 (by rw [h3, k3, e])
theorem Nt.add {f : Nat → Bool} {t i n : Nat} (h : Nt f t i n) : ∀ {s m : Nat}, Nt f s n m → Nt f (s + t) i m
  | 0, m, k => by rw [Nat.zero_add, show m = n from k]; exact h
  | s + 1, m, ⟨a, k1, k2, k3⟩ => by
    rw [show s + 1 + t = (s + t) + 1 by omega]
    exact ⟨a, Nt.add h k1, k2, k3⟩
theorem Nt.of {f : Nat → Bool} : ∀ {t n : Nat}, (∀ j, j < t → f (itc f j n) = true) → Nt f t (itc f t n) n
  | 0, n, _ => rfl
  | t + 1, n, h => ⟨ct f n, by
      rw [← itc_in]
      exact Nt.of fun j hj => by rw [itc_in]; exact h (j + 1) (by omega), h 0 (by omega), rfl⟩
theorem w_find {X : Cx} {o e : Expr} {σ : L2.St} {H : Hp} {Q : VK} {apos pos : Pos} (h : WE X o σ H fun x H1 => ∃ a, x = .str a ∧ WE X e σ H1 fun y H2 => ∃ b, y = .str b ∧ Q (.int (Txt.find a b)) H2)
    (hs : starEach [e] X.env = [(false, eval e X.env)] := by with_unfolding_all rfl) (hbase : attributeBase o "find" X.env (eval o X.env) = eval o X.env := by with_unfolding_all rfl) (hline : (apos.endLine == pos.line) = true := by with_unfolding_all rfl) : WE X (.Call (.Attribute o "find" apos) [e] [] pos) σ H Q :=
  (pe_m1 PySem.F.slot_str_find PySem.F.type_str_find mt_find pe_w pe_w hs hbase hline).w (WE.imp h fun x H1 ⟨a, e1, q⟩ => ⟨⟨a, e1⟩, WE.imp q fun y H2 ⟨b, e2, q⟩ => ⟨a, b, e1, by rw [e2], q⟩⟩)
/-- where the first number that is not kept stands -/
theorem find_minus (l : List Bool) : (Txt.find (sOf l) ("-" : Str) = -1 ∧ ∀ n, n < l.length → kp l n = true) ∨ ∃ i : Nat, Txt.find (sOf l) ("-" : Str) = ((i : Nat) : Int) ∧ i < l.length ∧ kp l i = false ∧ ∀ k, k < i → kp l k = true := by
  rw [minus_str]
  have at_ : ∀ i, StrLaws.At (sOf l) ⟨#[45]⟩ (sOf l).length i ↔ i < l.length ∧ kp l i = false := fun i => by
    rw [show StrLaws.At (sOf l) ⟨#[45]⟩ (sOf l).length i ↔ (sOf l).cps.toList[i]? = some 45 from StrLaws.subAt_one (sOf l) 45 i, sOf_list]
    constructor
    · intro h
      obtain ⟨hlt, e⟩ := List.getElem?_eq_some_iff.mp h
      rw [List.length_map] at hlt
      refine ⟨hlt, ?_⟩
      rw [kp_lt hlt]
      rw [List.getElem_map] at e
      cases e2 : l[i] with
      | false => rfl
      | true => rw [e2] at e; cases e
    · rintro ⟨hlt, e⟩
      rw [kp_lt hlt] at e
      rw [List.getElem?_map, List.getElem?_eq_getElem hlt, e]; rfl
  rcases PyProof.Rows.find_whole (sOf l) ⟨#[45]⟩ with ⟨h1, h2⟩ | ⟨i, h1, h2, h3⟩
  · refine .inl ⟨h1, fun n hn => ?_⟩
    cases e : kp l n with
    | true => rfl
    | false => exact absurd ((at_ n).mpr ⟨hn, e⟩) (h2 n)
  · obtain ⟨h4, h5⟩ := (at_ i).mp h2
    refine .inr ⟨i, h1, h4, h5, fun k hk => ?_⟩
    cases e : kp l k with
    | true => rfl
    | false => exact absurd ((at_ k).mpr ⟨by omega, e⟩) (h3 k hk)
/-- how long a life may be -/
theorem life_level {f : Nat → Bool} {p : Nat} (hf : Per f p) (h0 : 0 < p) (hs : ct f p < p) : ∀ (k t n : Nat), n < p * 2 ^ k → (∀ j, j < t → itc f (j + 1) n < itc f j n) → t ≤ p * (k + 1)
  | 0, t, n, hn, h => by
    have key : ∀ j, j ≤ t → itc f j n + j ≤ n := fun j => by
      induction j with
      | zero => intro _; exact Nat.le_refl _
      | succ j ih =>
        intro hj
        have := ih (by omega)
        have := h j (by omega)
        omega
    have := key t (Nat.le_refl _)
    simp at hn ⊢
    omega
  | k + 1, t, n, hn, h => by
    rw [Nat.mul_succ]
    by_cases ht : t ≤ p
    · omega
    have step : ∀ y, p * 2 ^ k ≤ y → ct f y + 2 ^ k ≤ y := fun y hy => by
      have e := ct_mul hf (2 ^ k) (y - p * 2 ^ k)
      rw [show 2 ^ k * p + (y - p * 2 ^ k) = y by rw [Nat.mul_comm (2 ^ k)]; omega] at e
      have h1 := ct_le f (y - p * 2 ^ k)
      have h2 : 2 ^ k * ct f p ≤ 2 ^ k * (p - 1) := Nat.mul_le_mul_left _ (by omega)
      rw [Nat.mul_sub, Nat.mul_one, Nat.mul_comm (2 ^ k) p] at h2
      have h3 : 2 ^ k ≤ p * 2 ^ k := Nat.le_mul_of_pos_left _ h0
      omega
    have hsome : ∃ j, j ≤ p ∧ itc f j n < p * 2 ^ k := by
      refine Classical.byContradiction fun hn2 => ?_
      have all : ∀ j, j ≤ p → p * 2 ^ k ≤ itc f j n := fun j hj => by
        refine Classical.byContradiction fun z => hn2 ⟨j, hj, by omega⟩
      have key : ∀ j, j ≤ p → itc f j n + j * 2 ^ k ≤ n := fun j => by
        induction j with
        | zero => intro _; show n + 0 * 2 ^ k ≤ n; omega
        | succ j ih =>
          intro hj
          have h1 := ih (by omega)
          have h2 : ct f (itc f j n) + 2 ^ k ≤ itc f j n := step _ (all j (by omega))
          show ct f (itc f j n) + (j + 1) * 2 ^ k ≤ n
          rw [Nat.succ_mul]
          omega
      have h1 := key p (Nat.le_refl _)
      have h2 := all p (Nat.le_refl _)
      rw [Nat.pow_succ, ← Nat.mul_assoc, Nat.mul_two] at hn
      omega
    obtain ⟨j, hj, hlt⟩ := hsome
    have := life_level hf h0 hs k (t - j) (itc f j n) hlt fun i hi => by
      rw [itc_add, itc_add]
      have := h (i + j) (by omega)
      rw [show i + 1 + j = i + j + 1 by omega]
      exact this
    omega
def spTimes : Sp := fun vs H Q _ => ∃ t : Nat, vs = [.int t] ∧ t ≤ 1000 ∧ Q .non H
def spRNth (K : PySem.W.Frag) : Sp := fun vs H Q _ => ∃ (a : Addr) (l : List Bool) (t i : Nat), vs = [.ref a, .int t, .int i] ∧ SieveAt K H a l ∧ t ≤ 1000 ∧ ∀ n H', Same H H' → Nt (kp l) t i n → Q (.int (n : Nat)) H'
def spRRank (K : PySem.W.Frag) : Sp := fun vs H Q _ => ∃ (a : Addr) (l : List Bool) (t n : Nat), vs = [.ref a, .int t, .int n] ∧ SieveAt K H a l ∧ t ≤ 1000 ∧ ∀ H', Same H H' → Q (.int (itc (kp l) t n : Nat)) H'
def spLife (K : PySem.W.Frag) : Sp := fun vs H Q _ => ∃ (a : Addr) (l : List Bool) (n : Nat), vs = [.ref a, .int n] ∧ SieveAt K H a l ∧ l.length ≤ 100 ∧
  (∀ t H', Same H H' → (∀ j, j ≤ t → kp l (itc (kp l) j n) = true) → itc (kp l) (t + 1) n = itc (kp l) t n → Q .non H') ∧
  ∀ t H', Same H H' → (∀ j, j < t → kp l (itc (kp l) j n) = true ∧ itc (kp l) (j + 1) n < itc (kp l) j n) → kp l (itc (kp l) t n) = false → Q (.int (t : Nat)) H'
/-- the items whose places are kept -/
def svd (l : List Bool) (ns : List Nat) : List Nat := ((List.range ns.length).filter (kp l)).map fun i => ns.getD i 0
theorem svd_step (l : List Bool) (ns : List Nat) (x : Nat) : svd l (ns ++ [x]) = svd l ns ++ if kp l ns.length then [x] else [] := by
  unfold svd
  rw [List.length_append, List.length_singleton, List.range_succ, List.filter_append, List.map_append]
  congr 1
  · apply List.map_congr_left
    intro i hi
    have := List.mem_range.mp (List.mem_filter.mp hi).1
    rw [List.getD_eq_getElem?_getD, List.getD_eq_getElem?_getD, List.getElem?_append_left this]
  · cases h : kp l ns.length <;> simp [h]
theorem svd_sel (l : List Bool) (g : Nat → Bool) (n : Nat) : svd l (sel g n) = sel (cmp g (kp l)) n := by
  induction n with
  | zero => rfl
  | succ n ih =>
    rw [sel_step, sel_step]
    cases hg : g n with
    | false =>
      rw [if_neg (by decide), List.append_nil, ih, if_neg (by unfold cmp; rw [hg]; simp), List.append_nil]
    | true =>
      rw [if_pos rfl, svd_step, ih, sel_len]
      have : cmp g (kp l) n = kp l (ct g n) := by unfold cmp; rw [hg]; rfl
      rw [this]
theorem svd_take {l : List Bool} {ns : List Nat} {i : Nat} (h : i < ns.length) : svd l (ns.take (i + 1)) = svd l (ns.take i) ++ if kp l i then [ns.getD i 0] else [] := by
  rw [List.take_succ_eq_append_getElem h, svd_step, List.length_take, Nat.min_eq_left (by omega), List.getD_eq_getElem?_getD, List.getElem?_eq_getElem h]; rfl
/-- what survives t rounds -/
def ght (f : Nat → Bool) : Nat → Nat → Bool
  | 0 => fun _ => true
  | t + 1 => cmp (ght f t) f
theorem ght_ct (f : Nat → Bool) : ∀ (t n : Nat), ct (ght f t) n = itc f t n
  | 0, n => ct_true n
  | t + 1, n => by
    show ct (cmp (ght f t) f) n = ct f (itc f t n)
    rw [ct_cmp, ght_ct f t]
theorem ght_path {f : Nat → Bool} : ∀ {t n : Nat}, ght f t n = true → ∀ j, j < t → f (itc f j n) = true
  | 0, n, _, j, hj => by omega
  | t + 1, n, h, j, hj => by
    have h : (ght f t n && f (ct (ght f t) n)) = true := h
    rw [Bool.and_eq_true, ght_ct] at h
    by_cases e : j = t
    · rw [e]; exact h.2
    · exact ght_path h.1 j (by omega)
theorem ght_nt {f : Nat → Bool} {t n : Nat} (h : ght f t n = true) : Nt f t (ct (ght f t) n) n := by
  rw [ght_ct]
  exact Nt.of (ght_path h)
theorem sel_below (g : Nat → Bool) {n m : Nat} (h : m ≤ n) : (sel g n).filter (fun x => decide (x < m)) = sel g m := by
  unfold sel
  rw [List.filter_filter]
  obtain ⟨k, rfl⟩ := Nat.exists_eq_add_of_le h
  rw [List.range_add, List.filter_append]
  have e2 : ((List.range k).map fun x => m + x).filter (fun a => decide (a < m) && g a) = [] := by
    rw [List.filter_eq_nil_iff]
    intro a ha
    obtain ⟨x, _, rfl⟩ := List.mem_map.mp ha
    rw [decide_eq_false (by omega)]
    simp
  rw [e2, List.append_nil]
  apply List.filter_congr
  intro a ha
  rw [decide_eq_true (List.mem_range.mp ha)]
  rfl
theorem Nt.back {f : Nat → Bool} : ∀ {t i n : Nat}, Nt f t i n → itc f t n = i
  | 0, i, n, h => by rw [show n = i from h]; rfl
  | t + 1, i, n, ⟨m, h1, h2, h3⟩ => by
    rw [← itc_in, h3]
    exact Nt.back h1
theorem Nt.mono {f : Nat → Bool} : ∀ {t i j n m : Nat}, Nt f t i n → Nt f t j m → i < j → n < m
  | 0, i, j, n, m, h, k, l => by rw [show n = i from h, show m = j from k]; exact l
  | t + 1, i, j, n, m, ⟨a, h1, h2, h3⟩, ⟨b, k1, k2, k3⟩, l => by
    have := Nt.mono h1 k1 l
    refine Classical.byContradiction fun z => ?_
    have := ct_mono f (show m ≤ n by omega)
    omega
theorem Nt.ge {f : Nat → Bool} : ∀ {t i n : Nat}, Nt f t i n → i ≤ n
  | 0, i, n, h => by rw [show n = i from h]; exact Nat.le_refl _
  | t + 1, i, n, ⟨m, h1, h2, h3⟩ => by
    have := Nt.ge h1
    have := ct_le f n
    omega
def spSieved (K : PySem.W.Frag) : Sp := fun vs H Q _ => ∃ (a : Addr) (ns : List Nat) (l : List Bool), vs = [.ref a, .str (sOf l)] ∧ SqL K H a ((ns.map fun n => ((n : Nat) : Int)).map V.int) ∧ ns.length < 16777216 ∧ Pat l ∧ ∀ D H', H D = none → Same H H' → H' D = some (.lst (((svd l ns).map fun n => ((n : Nat) : Int)).map V.int)) → Q (.ref D) H'
/-- the sum of the first c survivors, by a period p -/
def SF (f : Nat → Bool) (p c : Nat) : Nat := c / ct f p * (sel f p).sum + ct f p * p * (c / ct f p * (c / ct f p - 1) / 2) + ((sel f p).take (c % ct f p)).sum + c % ct f p * (c / ct f p) * p
theorem tri_succ (r : Nat) : (r + 1) * r / 2 = r * (r - 1) / 2 + r := by
  cases r with
  | zero => rfl
  | succ r =>
    rw [show (r + 1 + 1) * (r + 1) = (r + 1) * (r + 1 - 1) + (r + 1) * 2 by rw [Nat.add_sub_cancel, ← Nat.mul_add, Nat.mul_comm], Nat.add_mul_div_right _ _ (by decide)]
theorem SF_zero (f : Nat → Bool) (p : Nat) : SF f p 0 = 0 := by
  unfold SF
  rw [Nat.zero_div, Nat.zero_mod]
  simp
theorem take_sum_succ {xs : List Nat} {r m : Nat} (h : xs[r]? = some m) : (xs.take (r + 1)).sum = (xs.take r).sum + m := by
  obtain ⟨hr, e⟩ := List.getElem?_eq_some_iff.mp h
  rw [List.take_succ_eq_append_getElem hr, List.sum_append, e]
  simp
theorem SF_succ {f : Nat → Bool} {p c n : Nat} (hf : Per f p) (hs : 0 < ct f p) (hn : f n = true) (hc : ct f n = c) : SF f p (c + 1) = SF f p c + n := by
  have hr : c % ct f p < ct f p := Nat.mod_lt _ hs
  obtain ⟨m, e, h1, h2, h3⟩ := filter_range (f := f) (n := p) hr
  have hnm : n = c / ct f p * p + m := by
    refine ct_inj (f := f) hn ?_ ?_
    · rw [Nat.add_comm, hf.mul]; exact h2
    · rw [ct_mul hf, h3, hc, Nat.mul_comm, Nat.div_add_mod]
  have e : (sel f p)[c % ct f p]? = some m := e
  have hts := take_sum_succ e
  have hlen : (sel f p).length = ct f p := sel_len f p
  have hdm := Nat.div_add_mod c (ct f p)
  unfold SF
  generalize hR : c / ct f p = R at *
  generalize hr' : c % ct f p = r at *
  generalize ct f p = s at *
  by_cases hw : r + 1 < s
  · have e1 : (c + 1) / s = R := by
      rw [← hdm, Nat.add_assoc, Nat.mul_comm s R, Nat.add_comm, Nat.add_mul_div_right _ _ hs, Nat.div_eq_of_lt hw, Nat.zero_add]
    have e2 : (c + 1) % s = r + 1 := by
      rw [← hdm, Nat.add_assoc, Nat.mul_add_mod, Nat.mod_eq_of_lt hw]
    rw [e1, e2, hts, hnm]
    have : (r + 1) * R * p = r * R * p + R * p := by rw [Nat.succ_mul, Nat.add_mul]
    omega
  · have hrs : r + 1 = s := by omega
    have hc1 : c + 1 = (R + 1) * s := by rw [Nat.succ_mul, Nat.mul_comm R s]; omega
    have e1 : (c + 1) / s = R + 1 := by rw [hc1]; exact Nat.mul_div_cancel _ hs
    have e2 : (c + 1) % s = 0 := by rw [hc1]; exact Nat.mul_mod_left _ _
    rw [e1, e2, hnm, Nat.add_sub_cancel, tri_succ]
    rw [show (sel f p).take (r + 1) = sel f p by rw [hrs, ← hlen, List.take_length]] at hts
    have h1 : (R + 1) * (sel f p).sum = R * (sel f p).sum + (sel f p).sum := by rw [Nat.succ_mul]
    have h2 : s * p * (R * (R - 1) / 2 + R) = s * p * (R * (R - 1) / 2) + s * p * R := Nat.mul_add _ _ _
    have h3 : s * p * R = r * R * p + R * p := by
      rw [← hrs, Nat.succ_mul, Nat.add_mul, Nat.mul_right_comm, Nat.mul_comm p R]
    rw [h1, h2, h3, hts]
    simp
    omega
theorem SF_per {f : Nat → Bool} {p q : Nat} (hp : Per f p) (hq : Per f q) (h1 : 0 < ct f p) (h2 : 0 < ct f q) (c : Nat) : SF f p c = SF f q c := by
  induction c with
  | zero => rw [SF_zero, SF_zero]
  | succ c ih =>
    obtain ⟨n, a, b⟩ := nth_of hp h1 c
    rw [SF_succ hp h1 a b, SF_succ hq h2 a b, ih]
theorem SF_take {f : Nat → Bool} {p : Nat} (hp : Per f p) (h1 : 0 < ct f p) (N : Nat) : ∀ c, c ≤ ct f N → SF f p c = ((sel f N).take c).sum
  | 0, _ => by rw [SF_zero]; rfl
  | c + 1, h => by
    obtain ⟨n, e, h2, h3, h4⟩ := filter_range (f := f) (n := N) (k := c) (by omega)
    have e : (sel f N)[c]? = some n := e
    rw [SF_succ hp h1 h3 h4, SF_take hp h1 N c (by omega), take_sum_succ e]
theorem SF_mul {f : Nat → Bool} {p t r : Nat} (hs : 0 < ct f p) (hr : r < ct f p) : SF f p (t * ct f p + r) = t * (sel f p).sum + ct f p * p * (t * (t - 1) / 2) + ((sel f p).take r).sum + r * t * p := by
  unfold SF
  rw [show (t * ct f p + r) / ct f p = t by rw [Nat.add_comm, Nat.add_mul_div_right _ _ hs, Nat.div_eq_of_lt hr, Nat.zero_add], show (t * ct f p + r) % ct f p = r by rw [Nat.add_comm, Nat.add_mul_mod_self_right, Nat.mod_eq_of_lt hr]]
theorem sum_cast (xs : List Nat) : (xs.map fun n => ((n : Nat) : Int)).sum = ((xs.sum : Nat) : Int) := by
  induction xs with
  | nil => rfl
  | cons x xs ih => rw [List.map_cons, List.sum_cons, List.sum_cons, ih]; rfl
theorem sel_sum_le (f : Nat → Bool) (p : Nat) : (sel f p).sum ≤ p * p := by
  have : ∀ n, n ≤ p → (sel f n).sum ≤ n * p := fun n => by
    induction n with
    | zero => intro _; show 0 ≤ _; omega
    | succ n ih =>
      intro h
      rw [sel_step, List.sum_append, Nat.succ_mul]
      have := ih (by omega)
      split <;> simp <;> omega
  exact this p (Nat.le_refl _)
theorem take_sum_le (xs : List Nat) (r : Nat) : (xs.take r).sum ≤ xs.sum := by
  have := List.sum_append (l₁ := xs.take r) (l₂ := xs.drop r)
  rw [List.take_append_drop] at this
  omega
theorem tri_int (r : Nat) : ((r : Nat) : Int) * (((r : Nat) : Int) - 1) / 2 = ((r * (r - 1) / 2 : Nat) : Int) := by
  cases r with
  | zero => rfl
  | succ r =>
    rw [show ((r + 1 : Nat) : Int) - 1 = ((r : Nat) : Int) by omega, Nat.add_sub_cancel, ← Int.natCast_mul]
    rfl
theorem surv0 (f : Nat → Bool) (p : Nat) : surv f 0 p = sel f p := by
  unfold surv
  congr 1
theorem b_mulW {X : Cx} {σ : L2.St} {H : Hp} {Q : VK} {i j : Int} (h : CMulW i j) (q : Q (.int (i * j)) H) : WB X (binaryOp .Mult) (.int i) (.int j) σ H Q := b_mul h.ok q
theorem wideN {a b : Nat} (ha : a < 2 ^ 1000) (hb : b < 2 ^ 1000) : CMulW ((a : Nat) : Int) ((b : Nat) : Int) := wide_mul (a := 1000) (b := 1000) (by rw [Int.natAbs_natCast]; exact ha) (by rw [Int.natAbs_natCast]; exact hb) (by decide) (by decide) (by decide)
theorem cut_take (xs : List V) (r : Nat) : cutV xs none (some ((r : Nat) : Int)) = xs.take r := by
  unfold cutV
  show (xs.drop (HT.sIx xs.length 0 none)).take (HT.sIx xs.length xs.length (some ((r : Nat) : Int)) - HT.sIx xs.length 0 none) = _
  have e1 : HT.sIx xs.length 0 none = 0 := rfl
  have e2 : HT.sIx xs.length xs.length (some ((r : Nat) : Int)) = min r xs.length := by
    unfold HT.sIx
    simp
    intro h
    omega
  rw [e1, e2, List.drop_zero, Nat.sub_zero]
  by_cases h : r ≤ xs.length
  · rw [Nat.min_eq_left h]
  · rw [Nat.min_eq_right (by omega), List.take_length, List.take_of_length_le (by omega)]
def spCount (K : PySem.W.Frag) : Sp := fun vs H Q _ => ∃ (a : Addr) (l : List Bool) (i j : Nat), vs = [.ref a, .int i, .int j] ∧ SieveAt K H a l ∧ ∀ H', Same H H' → Q (.int (ct (kp l) j - ct (kp l) i : Nat)) H'
def spSum (K : PySem.W.Frag) : Sp := fun vs H Q _ => ∃ (a : Addr) (l : List Bool) (c : Nat), vs = [.ref a, .int c] ∧ SieveAt K H a l ∧ c < 2 ^ 500 ∧ ∀ H', Same H H' → Q (.int (SF (kp l) l.length c : Nat)) H'
def spLKept (K : PySem.W.Frag) : Sp := fun vs H Q _ => ∃ (l : List Bool) (n : Nat), vs = [.str (sOf l), .int (n : Nat)] ∧ Pat l ∧ n ≤ 1000000 ∧ ∀ D H', H D = none → Same H H' → H' D = some (.lst (((sel (kp l) n).map fun n => ((n : Nat) : Int)).map V.int)) → Q (.ref D) H'
def spLLeast : Sp := fun vs H Q _ => ∃ l, vs = [.str (sOf l)] ∧ Pat l ∧ ∀ m, Good m → (∀ n, kp m n = kp l n) → Q (.str (sOf m)) H
def spLLen : Sp := fun vs H Q _ => ∃ l m : List Bool, vs = [.str (sOf l), .str (sOf m)] ∧ Pat l ∧ Pat m ∧ Q (.int (l.length * (Nat.lcm (ct (kp l) l.length) m.length / ct (kp l) l.length) : Nat)) H
def spText (K : PySem.W.Frag) : Sp := fun vs H Q _ => ∃ (a : Addr) (ns : List Nat) (n : Nat), vs = [.ref a, .int (n : Nat)] ∧ SqL K H a ((ns.map fun n => ((n : Nat) : Int)).map V.int) ∧ ns.length < 16777216 ∧ n ≤ 10000 ∧ ∀ H', Same H H' → Q (.str (sOf (lof (fun i => ns.any (· == i)) n))) H'
theorem sel_any_nat (f : Nat → Bool) (p : Nat) {i : Nat} (h : i < p) : (sel f p).any (· == i) = f i := by
  rw [Bool.eq_iff_iff, List.any_eq_true]
  constructor
  · rintro ⟨x, hx, e⟩
    rw [← eq_of_beq e]
    exact (sel_mem.mp hx).2
  · intro hf
    exact ⟨i, sel_mem.mpr ⟨h, hf⟩, by simp⟩
theorem lof_sel (f : Nat → Bool) (p : Nat) : lof (fun i => (sel f p).any (· == i)) p = lof f p := by
  unfold lof
  exact List.map_congr_left fun i hi => sel_any_nat f p (List.mem_range.mp hi)
theorem lof_pat {f : Nat → Bool} {p : Nat} (h : Per f p) (h0 : 0 < p) (h1 : p ≤ 10000) (hx : ∃ i, f i = true) : Pat (lof f p) := by
  refine ⟨by rw [lof_len]; exact h0, by rw [lof_len]; exact h1, ?_⟩
  obtain ⟨i, hi⟩ := hx
  exact kp_plus (by rw [lof_len]; exact h0) (i := i) (by rw [kp_lof h h0]; exact hi)

abbrev cR (K : PySem.W.Frag) : Addr := He.ga K "Round"
abbrev cEv (K : PySem.W.Frag) : Addr := He.ga K "Every"
abbrev cBk (K : PySem.W.Frag) : Addr := He.ga K "Block"
structure ClF (K : PySem.W.Frag) (mg : Str → Option Value) (x : Str) (fl : List Str) : Prop where
  cls : Cls K (He.ga K x)
  na : ∀ f ∈ fl, NoAttr K (He.ga K x) f
  g : mg x = some (.ref (He.ga K x))
  ty : ∀ {H : Hp} {a dx : Addr} {fs : List (Str × V)}, H a = some (.ins (He.ga K x) dx fs) → TyX K H (.ref a) (.ref (He.ga K x))
/-- x kept, y struck -/
def blL (x y : Nat) : List Bool := List.replicate x true ++ List.replicate y false
theorem blL_len (x y : Nat) : (blL x y).length = x + y := by simp [blL]
theorem blL_pat {x y : Nat} (h : 1 ≤ x) (hz : x + y ≤ 10000) : Pat (blL x y) := by
  refine ⟨by rw [blL_len]; omega, by rw [blL_len]; omega, ?_⟩
  unfold blL
  exact List.mem_append_left _ (List.mem_replicate.mpr ⟨by omega, rfl⟩)
theorem flat_rep (b : Bool) (n : Nat) : (List.replicate n [b]).flatten = List.replicate n b := by
  induction n with
  | zero => rfl
  | succ n ih => rw [List.replicate_succ, List.flatten_cons, ih, List.replicate_succ]; rfl
theorem blL_txt (x y : Nat) : repS "+" x ++ repS "-" y = sOf (blL x y) := by
  have h1 : ("+" : Str) = sOf [true] := plus_sOf
  have h2 : ("-" : Str) = sOf [false] := minus_sOf
  rw [h1, h2, rep_sOf, rep_sOf, sOf_app, flat_rep, flat_rep]; rfl
theorem kp_blL {x y i : Nat} (h : i < x + y) : kp (blL x y) i = decide (i < x) := by
  rw [kp_lt (by rw [blL_len]; exact h)]
  unfold blL
  by_cases hi : i < x
  · rw [List.getElem_append_left (by simpa using hi), List.getElem_replicate, decide_eq_true hi]
  · rw [List.getElem_append_right (by simpa using Nat.le_of_not_lt hi), List.getElem_replicate, decide_eq_false hi]
theorem repS_len2 (x : Str) (n : Nat) : (repS x n).length = n * x.length := by
  show ((List.replicate n x.cps.toList).flatten.toArray).size = n * x.cps.size
  simp
theorem rep_one (x : Str) : repS x 1 = x := by
  apply str_ext
  show ((List.replicate 1 x.cps.toList).flatten.toArray).toList = _
  simp
/-- the own part of a round does not lie where the round does -/
theorem SieveAt.upd_own {H : Hp} {a p C dx : Addr} {m : List Bool} {o : HO} {v : V} (h : SieveAt K H p m) (ha : H a = some (.ins C dx [("own", v)])) : SieveAt K (upd H a o) p m := by
  obtain ⟨g, dx2, p2, h1, h2⟩ := h
  have n1 : p ≠ a := fun z => by
    rw [z, ha] at h1
    injection h1 with h1
    injection h1 with h3 h4 h5
    cases h5
  have n2 : p2 ≠ a := fun z => by
    rw [z, ha] at h2
    injection h2 with h2
    cases h2
  exact ⟨g, dx2, p2, by rw [upd_ne n1]; exact h1, by rw [upd_ne n2]; exact h2⟩
/-- with struck ones at its end it is the shortest -/
theorem blL_good {x y : Nat} (h : 1 ≤ x) (hy : 1 ≤ y) (hz : x + y ≤ 10000) : Good (blL x y) := by
  refine ⟨blL_pat h hz, fun d h0 h1 h2 h3 => ?_⟩
  rw [blL_len] at h1 h2
  have p : Per (kp (blL x y)) d := h3
  obtain ⟨q, hq⟩ := h2
  have q0 : 2 ≤ q := by
    rcases q with _ | _ | q
    · omega
    · omega
    · omega
  have e1 : kp (blL x y) (d - 1) = kp (blL x y) (x + y - 1) := by
    have : x + y - 1 = (d - 1) + (q - 1) * d := by
      have : d * q = (q - 1) * d + d := by
        rw [Nat.mul_comm d q]
        rcases q with _ | q
        · omega
        · rw [Nat.succ_mul]; rfl
      omega
    rw [this, p.mul]
  rw [kp_blL (by omega), kp_blL (by omega), decide_eq_false (show ¬ x + y - 1 < x by omega)] at e1
  have hd : ¬ d - 1 < x := of_decide_eq_false e1
  have e2 : kp (blL x y) (0 + d) = kp (blL x y) 0 := p 0
  rw [kp_blL (by omega), kp_blL (by omega), decide_eq_true (show 0 < x by omega)] at e2
  have := of_decide_eq_true e2
  omega
theorem blL_one {x : Nat} (h : 1 ≤ x) (n : Nat) : kp (blL x 0) n = kp [true] n := by
  have e : kp (blL x 0) n = kp (blL x 0) (n % x) := by
    have : Per (kp (blL x 0)) x := by
      have := kp_per (blL x 0)
      rwa [blL_len] at this
    exact (this.mod n).symm
  have hm : n % x < x := Nat.mod_lt _ h
  rw [e, kp_blL (by omega), decide_eq_true hm, kp_one]
def FrO (a : Addr) (H H' : Hp) : Prop := ∀ b o, b ≠ a → H b = some o → H' b = some o
def spRdInit (K : PySem.W.Frag) : Sp := fun vs H Q _ => ∃ (a C dx : Addr) (l : List Bool), vs = [.ref a, .str (sOf l)] ∧ Cls K C ∧ NoAttr K C "own" ∧ H a = some (.ins C dx []) ∧ Pat l ∧
  ∀ p m H', Good m → (∀ n, kp m n = kp l n) → m.length ∣ l.length → FrO a H H' → H' a = some (.ins C dx [("own", .ref p)]) → SieveAt K H' p m → Q .non H'
theorem ok_Round___init__ (F : FunD K "__init__" "Round.__init__" (defArgs s_Round___init__) (defBody s_Round___init__) (defScope s_Round___init__) [] [] f fd) (hb : ∀ x ∈ BB, mg x = none) (SC : SvC K mg) (h2 : Mkr P w K mg base (cS K) 4 (spSvInit K)) : FnR P w K mg base (L2.CX P w) 6 f (spRdInit K) := by
  refine fnr_of F sc_Round___init__ (fun vs H Q E h => ?_) (fun kV doc pm an cdv ct us hl => match us, hl with | [_, _], _ => rfl) (fun x hx => hb x (by revert x; decide +kernel)) fun cd A outer s H vs Q E hr hc h => ?_
  · obtain ⟨a, C, dx, l, rfl, _⟩ := h; rfl
  · obtain ⟨a, C, dx, l, rfl, hC, hn, ha, p, q⟩ := h
    refine wl_start (σ' := [some (.ref a), some (.str (sOf l))]) rfl (wl_cons ?_)
    refine ws_fld ?_
    refine w_make hc (by walk_at "mb") SC.g h2 hr (by decide) passL ?_
    walk_at "w"
    refine made_sv ⟨p, fun b m H' e gm km dm hs => ?_⟩
    walk_at "w"
    have hab : b ≠ a := fun z => by
      obtain ⟨_, dx2, p2, h1, _⟩ := hs
      rw [z, e _ _ ha] at h1
      injection h1 with h1
      injection h1 with h3 h4 h5
      cases h5
    refine ⟨a, _, _, _, rfl, e _ _ ha, hC, hn, by decide, ?_⟩
    walk_at "w"
    refine q b m _ gm km dm (fun c o hc ho => by rw [upd_ne hc]; exact e _ _ ho) upd_same ?_
    obtain ⟨g, dx2, p2, h1, h2⟩ := hs
    have hp2 : p2 ≠ a := fun z => by
      rw [z, e _ _ ha] at h2
      injection h2 with h2
      cases h2
    exact ⟨g, dx2, p2, by rw [upd_ne hab]; exact h1, by rw [upd_ne hp2]; exact h2⟩
/-- what a class of rounds brings -/
structure RCl (P : Program) (w : World) (K : PySem.W.Frag) (mg : Str → Option Value) (base : Heap) (C : Addr) : Prop where
  cls : Cls K C
  na : NoAttr K C "own"
  isR : ∀ {H : Hp} {a dx : Addr} {fs : List (Str × V)}, H a = some (.ins C dx fs) → ∃ t, TyX K H (.ref a) t ∧ PySem.W.kitOne K t (.ref (cR K)) = some true
  sv : ∃ p g, PropOf K C "sieve" p g ∧ FnR P w K mg base (L2.CX P w) 3 g fun vs H Q _ => ∃ (a C dx : Addr) (fs : List (Str × V)) (v : V), vs = [.ref a] ∧ Cls K C ∧ NoAttr K C "own" ∧ H a = some (.ins C dx fs) ∧ fs.lookup ("own" : Str) = some v ∧ Q v H
def spRdSv (K : PySem.W.Frag) : Sp := fun vs H Q _ => ∃ (a C dx : Addr) (fs : List (Str × V)) (v : V), vs = [.ref a] ∧ Cls K C ∧ NoAttr K C "own" ∧ H a = some (.ins C dx fs) ∧ fs.lookup ("own" : Str) = some v ∧ Q v H
theorem ok_Round_sieve (F : FunD K "sieve" "Round.sieve" (defArgs s_Round_sieve) (defBody s_Round_sieve) (defScope s_Round_sieve) [] [] f fd) (hb : ∀ x ∈ BB, mg x = none) : FnR P w K mg base (L2.CX P w) 3 f (spRdSv K) := by
  refine FnR.mono (fnr_of (k := 1) F sc_Round_sieve (fun vs H Q E h => ?_) (fun kV doc pm an cdv ct us hl => match us, hl with | [_], _ => rfl) (fun x hx => hb x (by revert x; decide +kernel)) fun cd A outer s H vs Q E hr hc h => ?_) (by decide)
  · obtain ⟨a, C, dx, fs, v, rfl, _⟩ := h; rfl
  · obtain ⟨a, C, dx, fs, v, rfl, hC, hn, ha, hl, q⟩ := h
    refine wl_start (σ' := [some (.ref a)]) rfl (wl_cons ?_)
    walk_at "w"
    refine a_fld hC hn ha hl ?_
    exact q
def RdAt (P : Program) (w : World) (K : PySem.W.Frag) (mg : Str → Option Value) (base : Heap) (H : Hp) (a : Addr) (l : List Bool) : Prop :=
  ∃ C dx fs p, H a = some (.ins C dx fs) ∧ RCl P w K mg base C ∧ fs.lookup ("own" : Str) = some (.ref p) ∧ SieveAt K H p l
theorem RdAt.same {H H' : Hp} {a : Addr} {l : List Bool} (h : RdAt P w K mg base H a l) (e : Same H H') : RdAt P w K mg base H' a l := by
  obtain ⟨C, dx, fs, p, h1, h2, h3, h4⟩ := h
  exact ⟨C, dx, fs, p, e _ _ h1, h2, h3, h4.same e⟩
/-- o.sieve of a round -/
theorem a_rsv {X : Cx} {σ : L2.St} {H : Hp} {Q : VK} {j : Nat} {a : Addr} {l : List Bool} (hr : Room j X.A) (hj : 4 ≤ j) (h : RdAt X.prog X.w X.K X.mg X.base H a l) (q : ∀ p, SieveAt X.K H p l → Q (.ref p) H) : WAt X (.ref a) "sieve" σ H Q := by
  obtain ⟨C, dx, fs, p, h1, h2, h3, h4⟩ := h
  obtain ⟨p2, g, hp, F⟩ := h2.sv
  exact a_prop (E := E0) h2.cls hp F (hr.mono hj) h1 ⟨a, C, dx, fs, _, rfl, h2.cls, h2.na, h1, h3, q p h4⟩
def spRdDesc (K : PySem.W.Frag) : Sp := fun vs H Q _ => ∃ (a C dx : Addr) (fs : List (Str × V)) (p : Addr) (m : List Bool), vs = [.ref a] ∧ Cls K C ∧ NoAttr K C "own" ∧ H a = some (.ins C dx fs) ∧ fs.lookup ("own" : Str) = some (.ref p) ∧ SieveAt K H p m ∧
  ∀ t H', Same H H' → H' t = some (.tup [.str (sOf m)]) → Q (.ref t) H'
def spEvInit (K : PySem.W.Frag) : Sp := fun vs H Q _ => ∃ (a dx : Addr) (k : Nat), vs = [.ref a, .int (k : Nat)] ∧ H a = some (.ins (cEv K) dx []) ∧ 2 ≤ k ∧ k ≤ 60 ∧
  ∀ p H', FrO a H H' → H' a = some (.ins (cEv K) dx [("own", .ref p), ("step", .int (k : Nat))]) → SieveAt K H' p (blL (k - 1) 1) → Q .non H'
theorem ok_Every___init__ (F : FunX P K "__init__" "Every.__init__" (defArgs s_Every___init__) (defBody s_Every___init__) (defScope s_Every___init__) (He.ga K "Every") f) (hb : ∀ x ∈ BB, mg x = none) (htop : (P.main.scope.names.lookup ("super" : Str)).isSome = false) (EC : ClF K mg "Every" ["step", "own"])
    (er : ClX.CRead K (He.ga K "Every") (.type "type")) (ev : ∃ u, ClX.CVal K (He.ga K "Every") (.type "type") "MOST" (.int 60) u) (h1 : Fn P w K mg base "is_integer" 2 (spIsInt K)) (SU : SupF K (He.ga K "Every") (He.ga K "Every") "__init__" (He.ma K (He.ga K "Round") "__init__")) (h2 : FnR P w K mg base (L2.CX P w) 6 (He.ma K (He.ga K "Round") "__init__") (spRdInit K)) : FnR P w K mg base (L2.CX P w) 7 f (spEvInit K) := by
  refine fnr_x (self := "self") F sc_Every___init__ htop (by decide +kernel) (fun vs H Q E h => ?_) (fun kV doc pm an cdv ct cc us hl => match us, hl with | [_, _], _ => rfl) (fun x hx => hb x (by revert x; decide +kernel)) fun cda cc A outer s H vs Q E hr hc U h => ?_
  · obtain ⟨a, dx, k, rfl, _⟩ := h; rfl
  · obtain ⟨a, dx, k, rfl, ha, k1, k2, q⟩ := h
    have hz : sizeLine = 16777216 := sizeLine_eq
    obtain ⟨u, hu⟩ := ev
    refine wla_start (σ' := [some (.ref a), some (.int (k : Nat)), none]) rfl (wla_cons (wsa_of ?_))
    walk_at "w"
    refine w_call hc (by walk_at "mb") h1 hr (by decide) passL ?_
    walk_at "w"
    refine ⟨_, 2, .inl rfl, .inl ⟨_, rfl, ?_⟩⟩
    rw [decide_eq_true (show (2 : Int) ≤ (k : Nat) by omega)]
    walk_at "w"
    refine w_gref hc (by walk_at "mb") EC.g ?_
    refine a_cval er hu ?_
    walk_at "w"
    rw [decide_eq_false (show ¬ (60 : Int) < (k : Nat) by omega)]
    walk_at "w"
    refine wla_cons (wsa_expr ?_)
    refine wea_super hc U SU EC.cls h2 hr (by decide) passL (by walk_at "mb") (by walk_at "mb") (by walk_at "at") ha ?_
    walk_at "w"
    refine b_mulS (by omega) (by omega) (by rw [show ((k : Nat) - 1 : Int).toNat = k - 1 by omega, show ("+" : Str).length = 1 by decide]; omega) ?_
    walk_at "w"
    rw [show ((k : Nat) - 1 : Int).toNat = k - 1 by omega]
    refine b_addS (by rw [repS_len2, show ("+" : Str).length = 1 by decide, show ("-" : Str).length = 1 by decide]; omega) ?_
    have et : repS "+" (k - 1) ++ "-" = sOf (blL (k - 1) 1) := by rw [← blL_txt, rep_one]
    rw [et]
    walk_at "w"
    have hg := blL_good (x := k - 1) (y := 1) (by omega) (by omega) (by omega)
    refine ⟨a, _, dx, _, rfl, EC.cls, EC.na _ (by simp), ha, hg.toPat, fun p m H' gm km dm hf hi hs => ?_⟩
    obtain rfl : m = blL (k - 1) 1 := gm.uniq hg km
    refine wla_of (wl_cons ?_)
    refine ws_fld ?_
    walk_at "w"
    refine ⟨a, _, _, _, rfl, hi, EC.cls, EC.na _ (by simp), (by show 1 < 1000; decide), ?_⟩
    walk_at "w"
    refine q p _ (fun b o hb2 ho => by rw [upd_ne hb2]; exact hf b o hb2 ho) upd_same ?_
    exact hs.upd_own hi
def spEvNum (K : PySem.W.Frag) : Sp := fun vs H Q _ => ∃ (a dx p : Addr) (k : Nat), vs = [.ref a] ∧ H a = some (.ins (cEv K) dx [("own", .ref p), ("step", .int (k : Nat))]) ∧ Q (.int (k : Nat)) H
def spEvDesc (K : PySem.W.Frag) : Sp := fun vs H Q _ => ∃ (a dx p : Addr) (k : Nat) (m : List Bool), vs = [.ref a] ∧ H a = some (.ins (cEv K) dx [("own", .ref p), ("step", .int (k : Nat))]) ∧ SieveAt K H p m ∧
  ∀ t H', Same H H' → H' t = some (.tup [.str "every", .int (k : Nat), .str (sOf m)]) → Q (.ref t) H'
def spBkInit (K : PySem.W.Frag) : Sp := fun vs H Q _ => ∃ (a dx : Addr) (x y : Nat), vs = [.ref a, .int (x : Nat), .int (y : Nat)] ∧ H a = some (.ins (cBk K) dx []) ∧ 1 ≤ x ∧ x ≤ 60 ∧ y ≤ 60 ∧
  ∀ p t m H', FrO a H H' → H' a = some (.ins (cBk K) dx [("own", .ref p), ("sizes", .ref t)]) → H' t = some (.tup [.int (x : Nat), .int (y : Nat)]) → Good m → (∀ n, kp m n = kp (blL x y) n) → SieveAt K H' p m → Q .non H'
theorem ok_Block___init__ (F : FunX P K "__init__" "Block.__init__" (defArgs s_Block___init__) (defBody s_Block___init__) (defScope s_Block___init__) (He.ga K "Block") f) (hb : ∀ x ∈ BB, mg x = none) (htop : (P.main.scope.names.lookup ("super" : Str)).isSome = false) (EC : ClF K mg "Block" ["sizes", "own"])
    (er : ClX.CRead K (He.ga K "Block") (.type "type")) (ev : ∃ u, ClX.CVal K (He.ga K "Block") (.type "type") "MOST" (.int 60) u) (h1 : Fn P w K mg base "is_integer" 2 (spIsInt K)) (SU : SupF K (He.ga K "Block") (He.ga K "Block") "__init__" (He.ma K (He.ga K "Round") "__init__")) (h2 : FnR P w K mg base (L2.CX P w) 6 (He.ma K (He.ga K "Round") "__init__") (spRdInit K)) : FnR P w K mg base (L2.CX P w) 7 f (spBkInit K) := by
  refine fnr_x (self := "self") F sc_Block___init__ htop (by decide +kernel) (fun vs H Q E h => ?_) (fun kV doc pm an cdv ct cc us hl => match us, hl with | [_, _, _], _ => rfl) (fun x hx => hb x (by revert x; decide +kernel)) fun cda cc A outer s H vs Q E hr hc U h => ?_
  · obtain ⟨a, dx, x, y, rfl, _⟩ := h; rfl
  · obtain ⟨a, dx, x, y, rfl, ha, x1, x2, y2, q⟩ := h
    have hz : sizeLine = 16777216 := sizeLine_eq
    obtain ⟨u, hu⟩ := ev
    refine wla_start (σ' := [some (.ref a), some (.int (x : Nat)), some (.int (y : Nat)), none]) rfl (wla_cons (wsa_of ?_))
    walk_at "w"
    refine w_call hc (by walk_at "mb") h1 hr (by decide) passL ?_
    walk_at "w"
    refine ⟨_, 1, .inl rfl, .inl ⟨_, rfl, ?_⟩⟩
    rw [decide_eq_true (show (1 : Int) ≤ (x : Nat) by omega)]
    walk_at "w"
    refine w_gref hc (by walk_at "mb") EC.g ?_
    refine a_cval er hu ?_
    walk_at "w"
    rw [decide_eq_false (show ¬ (60 : Int) < (x : Nat) by omega)]
    walk_at "w"
    refine wla_cons (wsa_of ?_)
    walk_at "w"
    refine w_call hc (by walk_at "mb") h1 hr (by decide) passL ?_
    walk_at "w"
    refine ⟨_, 0, .inr ⟨rfl, rfl⟩, .inl ⟨_, rfl, ?_⟩⟩
    rw [decide_eq_true (show (0 : Int) ≤ (y : Nat) by omega)]
    walk_at "w"
    refine w_gref hc (by walk_at "mb") EC.g ?_
    refine a_cval er hu ?_
    walk_at "w"
    rw [decide_eq_false (show ¬ (60 : Int) < (y : Nat) by omega)]
    walk_at "w"
    refine wla_cons (wsa_expr ?_)
    refine wea_super hc U SU EC.cls h2 hr (by decide) passL (by walk_at "mb") (by walk_at "mb") (by walk_at "at") ha ?_
    walk_at "w"
    refine b_mulS (by omega) (by omega) (by rw [Int.toNat_natCast, show ("+" : Str).length = 1 by decide]; omega) ?_
    walk_at "w"
    refine b_mulS (by omega) (by omega) (by rw [Int.toNat_natCast, show ("-" : Str).length = 1 by decide]; omega) ?_
    rw [Int.toNat_natCast, Int.toNat_natCast]
    walk_at "w"
    refine b_addS (by rw [repS_len2, repS_len2, show ("+" : Str).length = 1 by decide, show ("-" : Str).length = 1 by decide]; omega) ?_
    rw [blL_txt]
    walk_at "w"
    refine ⟨a, _, dx, _, rfl, EC.cls, EC.na _ (by simp), ha, blL_pat x1 (by omega), fun p m H' gm km dm hf hi hs => ?_⟩
    refine wla_of (wl_cons ?_)
    refine ws_fld ?_
    walk_at "w"
    refine ⟨(by show 2 ≤ sizeLine; omega), fun t H2 ht e2 ht2 => ?_⟩
    walk_at "w"
    have hta : t ≠ a := fun z => by rw [z, hi] at ht; cases ht
    refine ⟨a, _, _, _, rfl, e2 _ _ hi, EC.cls, EC.na _ (by simp), (by show 1 < 1000; decide), ?_⟩
    walk_at "w"
    exact q p t m _ (fun b o hb2 ho => by rw [upd_ne hb2]; exact e2 _ _ (hf b o hb2 ho)) upd_same (by rw [upd_ne hta]; exact ht2) gm km ((hs.same e2).upd_own (e2 _ _ hi))
def spBkDesc (K : PySem.W.Frag) : Sp := fun vs H Q _ => ∃ (a dx p t : Addr) (x y : Nat) (m : List Bool), vs = [.ref a] ∧ H a = some (.ins (cBk K) dx [("own", .ref p), ("sizes", .ref t)]) ∧ H t = some (.tup [.int (x : Nat), .int (y : Nat)]) ∧ SieveAt K H p m ∧
  ∀ t H', Same H H' → H' t = some (.tup [.str "block", .int (x : Nat), .int (y : Nat), .str (sOf m)]) → Q (.ref t) H'
def spChkR (P : Program) (w : World) (K : PySem.W.Frag) (mg : Str → Option Value) (base : Heap) : Sp := fun vs H Q _ => ∃ (t : Addr) (rs : List Addr), vs = [.ref t] ∧ SqT K H t (rs.map V.ref) ∧ (∀ a ∈ rs, ∃ l, RdAt P w K mg base H a l) ∧ Q .non H
theorem ok_check_rounds (F : FunD K "check_rounds" "check_rounds" (defArgs s_check_rounds) (defBody s_check_rounds) (defScope s_check_rounds) [] [] f fd) (hb : ∀ x ∈ BB, mg x = none) (gR : mg "Round" = some (.ref (cR K))) : FnR P w K mg base (L2.CX P w) 2 f (spChkR P w K mg base) := by
  refine fnr_of F sc_check_rounds (fun vs H Q E h => ?_) (fun kV doc pm an cdv ct us hl => match us, hl with | [_], _ => rfl) (fun x hx => hb x (by revert x; decide +kernel)) fun cd A outer s H vs Q E hr hc h => ?_
  · obtain ⟨t, rs, rfl, _⟩ := h; rfl
  · obtain ⟨t, rs, rfl, ht, hrs, q⟩ := h
    refine wl_start (σ' := [some (.ref t), none]) rfl (wl_cons ?_)
    refine ws_for owns_cx hc ?_
    refine wi_tup ?_
    walk_at "w"
    refine ⟨t, _, rfl, ht, _, _, wlk_tup ht, fun i σ' H' => H' = H ∧ ∃ o, σ' = [some (.ref t), o], ⟨rfl, _, rfl⟩, fun i σ' H' ⟨h, _⟩ => by rw [h]; exact Same.refl _, fun i σ' H' hi ⟨hH, o, hσ⟩ => ?_, fun σ' H' ⟨hH, o, hσ⟩ => ?_⟩
    · subst hH hσ
      rw [List.length_map] at hi
      have e : (rs.map V.ref).getD i .non = .ref (rs[i]'hi) := by rw [List.getD_eq_getElem?_getD, List.getElem?_map, List.getElem?_eq_getElem hi]; rfl
      rw [e]
      refine wg_name hc (by walk_at "put") (by walk_at "mb") ?_
      walk_at "go"
      walk_at "w"
      obtain ⟨l, C, dx, fs, p, h1, h2, h3, h4⟩ := hrs _ (List.getElem_mem hi)
      obtain ⟨ty, ht1, ht2⟩ := h2.isR h1
      refine x_isiC hc (by walk_at "mb") (by walk_at "mb") gR ?_
      walk_at "w"
      refine ⟨ty, true, ht1, ht2, ?_⟩
      walk_at "w"
      exact ⟨rfl, _, rfl⟩
    · subst hH hσ
      walk_at "w"
      exact q
abbrev cRow (K : PySem.W.Frag) : Addr := He.ga K "Row"
/-- what stands at a is no part of a sieve or of a round -/
structure Oth (H : Hp) (a : Addr) : Prop where
  ins : ∀ C dx fs, H a = some (.ins C dx fs) → fs.lookup ("text" : Str) = none ∧ fs.lookup ("own" : Str) = none
  lst : ∀ xs, H a = some (.lst xs) → ∀ x ∈ xs, ∃ r, x = V.ref r
def Fr (a : Addr) (H H' : Hp) : Prop := ∀ b o, b ≠ a → H b = some o → H' b = some o
theorem Fr.of {a : Addr} {H H' : Hp} (h : Same H H') : Fr a H H' := fun b o _ e => h b o e
theorem Fr.trans {a : Addr} {H H1 H2 : Hp} (h : Fr a H H1) (k : Fr a H1 H2) : Fr a H H2 := fun b o n e => k b o n (h b o n e)
theorem Fr.upd {a : Addr} {H : Hp} {o : HO} : Fr a H (upd H a o) := fun b u n e => by rw [upd_ne n]; exact e
theorem SieveAt.frame {a b : Addr} {H H' : Hp} {l : List Bool} (h : SieveAt K H b l) (f : Fr a H H') (o : Oth H a) : SieveAt K H' b l := by
  obtain ⟨g, dx, p, h1, h2⟩ := h
  refine ⟨g, dx, p, f _ _ (fun z => ?_) h1, f _ _ (fun z => ?_) h2⟩
  · rw [z] at h1
    have := (o.ins _ _ _ h1).1
    have e : some (V.str (sOf l)) = none := this
    cases e
  · rw [z] at h2
    have hm : 0 < (marks l).length := by rw [marks_len]; exact g.toPat.size
    cases e : marks l with
    | nil => rw [e] at hm; exact absurd hm (by decide)
    | cons x r =>
      obtain ⟨r2, hr⟩ := o.lst _ h2 (V.int (x : Nat)) (by rw [e]; simp)
      cases hr
theorem RdAt.frame {a b : Addr} {H H' : Hp} {l : List Bool} (h : RdAt P w K mg base H b l) (f : Fr a H H') (o : Oth H a) : RdAt P w K mg base H' b l := by
  obtain ⟨C, dx, fs, p, h1, h2, h3, h4⟩ := h
  refine ⟨C, dx, fs, p, f _ _ (fun z => ?_) h1, h2, h3, h4.frame f o⟩
  rw [z] at h1
  rw [(o.ins _ _ _ h1).2] at h3
  cases h3
def CompOk (l m : List Bool) : Prop := l.length * (Nat.lcm (ct (kp l) l.length) m.length / ct (kp l) l.length) ≤ 10000 ∧ ct (kp m) (Nat.lcm (ct (kp l) l.length) m.length) < 10001
def stg (ls : List (List Bool)) : Nat → Nat → Bool
  | 0 => fun _ => true
  | i + 1 => cmp (stg ls i) (kp (ls.getD i []))
structure Stages (K : PySem.W.Frag) (H : Hp) (ls : List (List Bool)) (n : Nat) (qs : List Addr) (ms : List (List Bool)) : Prop where
  l1 : qs.length = n + 1
  l2 : ms.length = n + 1
  at_ : ∀ i, i ≤ n → SieveAt K H (qs.getD i 0) (ms.getD i [])
  kp_ : ∀ i, i ≤ n → ∀ k, kp (ms.getD i []) k = stg ls i k
theorem Stages.mono {H H' : Hp} {ls : List (List Bool)} {n : Nat} {qs : List Addr} {ms : List (List Bool)} (h : Stages K H ls n qs ms) (k : ∀ b l, SieveAt K H b l → SieveAt K H' b l) : Stages K H' ls n qs ms := ⟨h.l1, h.l2, fun i hi => k _ _ (h.at_ i hi), h.kp_⟩
def RowAt (K : PySem.W.Frag) (H : Hp) (a : Addr) (rs : List Addr) (ls : List (List Bool)) : Prop := ∃ dx t p qs ms, H a = some (.ins (cRow K) dx [("parts", .ref t), ("stages", .ref p)]) ∧ H t = some (.tup (rs.map V.ref)) ∧ H p = some (.lst (qs.map V.ref)) ∧ Stages K H ls rs.length qs ms
theorem RowAt.same {H H' : Hp} {a : Addr} {rs : List Addr} {ls : List (List Bool)} (h : RowAt K H a rs ls) (e : Same H H') : RowAt K H' a rs ls := by
  obtain ⟨dx, t, p, qs, ms, h1, h2, h3, h4⟩ := h
  exact ⟨dx, t, p, qs, ms, e _ _ h1, e _ _ h2, e _ _ h3, h4.mono fun b l h => h.same e⟩
/-- all stages stand -/
def LimAll (n : Nat) (ls : List (List Bool)) : Prop := ∀ i, i < n → ∀ m, Good m → (∀ k, kp m k = stg ls i k) → CompOk m (ls.getD i [])
/-- some stage is too great -/
def LimBad (n : Nat) (ls : List (List Bool)) : Prop := ∃ i, i < n ∧ (∀ j, j < i → ∀ m, Good m → (∀ k, kp m k = stg ls j k) → CompOk m (ls.getD j [])) ∧ ∃ m, Good m ∧ (∀ k, kp m k = stg ls i k) ∧ 10000 < cper m (ls.getD i [])
theorem cok_iff {l m : List Bool} (pl : Pat l) : CompOk l m ↔ cper l m ≤ 10000 := by
  unfold CompOk
  constructor
  · exact fun h => h.1
  · intro h
    refine ⟨h, ?_⟩
    have s1 := pl.size
    have s2 := ct_le (kp l) l.length
    have hd1 : ct (kp l) l.length ∣ Nat.lcm (ct (kp l) l.length) m.length := Nat.dvd_lcm_left _ _
    have e1 : ct (kp l) l.length * (Nat.lcm (ct (kp l) l.length) m.length / ct (kp l) l.length) = Nat.lcm (ct (kp l) l.length) m.length := Nat.mul_div_cancel' hd1
    have e2 := Nat.mul_le_mul_right (Nat.lcm (ct (kp l) l.length) m.length / ct (kp l) l.length) s2
    have e3 := ct_le (kp m) (Nat.lcm (ct (kp l) l.length) m.length)
    unfold cper at h
    omega
theorem lim_or (n : Nat) (ls : List (List Bool)) : LimAll n ls ∨ LimBad n ls := by
  induction n with
  | zero => exact .inl fun i hi => absurd hi (Nat.not_lt_zero _)
  | succ n ih =>
    rcases ih with h | ⟨i, hi, h⟩
    · by_cases hx : ∃ m, Good m ∧ (∀ k, kp m k = stg ls n k) ∧ 10000 < cper m (ls.getD n [])
      · exact .inr ⟨n, Nat.lt_succ_self _, h, hx⟩
      · refine .inl fun i hi m gm km => ?_
        rcases Nat.lt_succ_iff_lt_or_eq.mp hi with hi | rfl
        · exact h i hi m gm km
        · rw [cok_iff gm.toPat]
          exact Classical.byContradiction fun hgt => hx ⟨m, gm, km, by omega⟩
    · exact .inr ⟨i, Nat.lt_succ_of_lt hi, h⟩
theorem lim_not {n : Nat} {ls : List (List Bool)} (h : LimAll n ls) (b : LimBad n ls) : False := by
  obtain ⟨i, hi, _, m, gm, km, hgt⟩ := b
  have := (cok_iff gm.toPat).mp (h i hi m gm km)
  omega
/-- LimitExceeded, wished for where a may have changed -/
def RsF (K : PySem.W.Frag) (a : Addr) (H : Hp) (E : XK) : Prop := ∀ d H', Fr a H H' → H' d = some (.xd [("limit", .int 10000)]) → E (.ref (He.ga K "LimitExceeded")) (some d) H'
def spRowI (P : Program) (w : World) (K : PySem.W.Frag) (mg : Str → Option Value) (base : Heap) : Sp := fun vs H Q _ => ∃ (a dx t : Addr) (rs : List Addr) (ls : List (List Bool)), vs = [.ref a, .ref t] ∧ H a = some (.ins (cRow K) dx []) ∧ H t = some (.tup (rs.map V.ref)) ∧ rs.length < 10000 ∧ (∀ i, i < rs.length → RdAt P w K mg base H (rs.getD i 0) (ls.getD i [])) ∧
  (∀ i, i < rs.length → ∀ m, Good m → (∀ k, kp m k = stg ls i k) → CompOk m (ls.getD i [])) ∧ ∀ H', Fr a H H' → RowAt K H' a rs ls → Q .non H'
def spRowIT (P : Program) (w : World) (K : PySem.W.Frag) (mg : Str → Option Value) (base : Heap) : Sp := fun vs H Q E => ∃ (a dx t : Addr) (rs : List Addr) (ls : List (List Bool)), vs = [.ref a, .ref t] ∧ H a = some (.ins (cRow K) dx []) ∧ H t = some (.tup (rs.map V.ref)) ∧ rs.length < 10000 ∧ (∀ i, i < rs.length → RdAt P w K mg base H (rs.getD i 0) (ls.getD i [])) ∧
  (LimBad rs.length ls → RsF K a H E) ∧ ∀ H', Fr a H H' → RowAt K H' a rs ls → LimAll rs.length ls → Q .non H'
theorem ok_Row___init__ (F : FunD K "__init__" "Row.__init__" (defArgs s_Row___init__) (defBody s_Row___init__) (defScope s_Row___init__) [] [] f fd) (hb : ∀ x ∈ BB, mg x = none) (SC : SvC K mg) (RC : ClF K mg "Row" ["parts", "stages"]) (h1 : Fn P w K mg base "check_rounds" 2 (spChkR P w K mg base)) (h2 : CMt P w K mg base (cS K) "everything" 6 (spEvery K)) (h3 : Fn P w K mg base "compose" 7 (spCompE K)) :
    FnR P w K mg base (L2.CX P w) 8 f (fun vs H Q E => ∃ ws rest, vs = ws ++ rest ∧ ws.length = 1 ∧ rest.length ≤ sizeLine ∧ ∀ p, H p = Option.none → spRowIT P w K mg base (ws ++ [V.ref p]) (upd H p (.tup rest)) Q E) := by
  refine fnr_star (ps := ["self"]) (pv := "rounds") F sc_Row___init__ (fun kV doc pm an cdv ct us rest hl => match us, rest, hl with | [_], [], _ => rfl | [_], _ :: _, _ => rfl) (fun x hx => hb x (by revert x; decide +kernel)) fun cd A outer s H vs Q E hr hc h => ?_
  obtain ⟨a, dx, t, rs, ls, rfl, ha, ht, hrl, hrs, hbad, q⟩ := h
  have hz : sizeLine = 16777216 := sizeLine_eq
  refine wl_start (σ' := [some (.ref a), some (.ref t), none]) rfl (wl_cons ?_)
  walk_at "w"
  refine w_call hc (by walk_at "mb") h1 hr (by decide) passL ?_
  walk_at "w"
  refine ⟨t, rs, rfl, .inl (.inl ht), fun b hb2 => ?_, ?_⟩
  · obtain ⟨i, hi, e⟩ := List.getElem_of_mem hb2
    have := hrs i hi
    rw [List.getD_eq_getElem?_getD, List.getElem?_eq_getElem hi] at this
    rw [← e]
    exact ⟨_, this⟩
  walk_at "w"
  refine ws_fld ?_
  walk_at "w"
  refine ⟨a, _, _, _, rfl, ha, RC.cls, RC.na _ (by simp), by decide, ?_⟩
  walk_at "w"
  refine ws_fld ?_
  walk_at "w"
  refine w_cmeth0 h2 hr (by decide) passL ?_
  refine w_gref hc (by walk_at "mb") SC.g ⟨rfl, rfl, fun e H2 e2 hs2 => ?_⟩
  walk_at "w"
  refine ⟨(by show 1 ≤ sizeLine; omega), fun p H3 hp e3 hp3 => ?_⟩
  walk_at "w"
  refine ⟨a, _, _, _, rfl, e3 _ _ (e2 _ _ upd_same), RC.cls, RC.na _ (by simp), (by show 1 < 1000; decide), ?_⟩
  have oa : Oth H a := ⟨fun C d fs e => by rw [ha] at e; injection e with e; injection e with e4 e5 e6; rw [← e6]; exact ⟨rfl, rfl⟩, fun xs e => by rw [ha] at e; injection e with e; cases e⟩
  have oa3 : Oth H3 a := ⟨fun C d fs e => by rw [e3 _ _ (e2 _ _ upd_same)] at e; injection e with e; injection e with e4 e5 e6; rw [← e6]; exact ⟨rfl, rfl⟩, fun xs e => by rw [e3 _ _ (e2 _ _ upd_same)] at e; injection e with e; cases e⟩
  have fr3 : Fr a H (upd H3 a (.ins (cRow K) dx [("parts", .ref t), ("stages", .ref p)])) := (Fr.upd.trans ((Fr.of e2).trans (Fr.of e3))).trans Fr.upd
  have hpa : p ≠ a := fun z => by rw [z, e2 _ _ upd_same] at hp; cases hp
  have hta : t ≠ a := fun z => by rw [z, ha] at ht; cases ht
  have hHt : H p = none := by
    cases e : H p with
    | none => rfl
    | some o =>
      have := e2 _ _ (Fr.upd (o := .ins (cRow K) dx (putF ("parts" : Str) (.ref t) [])) p o hpa e)
      rw [hp] at this; cases this
  have htp : t ≠ p := fun z => by rw [z, hHt] at ht; cases ht
  walk_at "w"
  refine ws_forM owns_cx hc ?_
  refine wi_tup ?_
  walk_at "w"
  refine ⟨t, _, rfl, .inl (.inl (fr3 _ _ hta ht)), _, _, one H t, wlk_tup (.inl (.inl (one_at ht))), fun i σ' H' => (∃ o, σ' = [some (.ref a), some (.ref t), o]) ∧ (∀ b o, b ≠ a → b ≠ p → H b = some o → H' b = some o) ∧ H' a = some (.ins (cRow K) dx [("parts", .ref t), ("stages", .ref p)]) ∧ (∃ qs ms, H' p = some (.lst (qs.map V.ref)) ∧ Stages K H' ls i qs ms) ∧ ∀ j, j < i → ∀ m, Good m → (∀ k, kp m k = stg ls j k) → CompOk m (ls.getD j []),
    ⟨⟨_, rfl⟩, fun b o n1 n2 e => fr3 b o n1 e, upd_same, ⟨[e], [[true]], by rw [upd_ne hpa]; exact hp3, rfl, rfl, fun i hi => ?_, fun i hi k => ?_⟩, fun j hj => absurd hj (Nat.not_lt_zero _)⟩, fun i σ' H' h => one_same fun o ho => h.2.1 t o hta htp ho, fun i σ' H' hi ⟨⟨o, hσ⟩, hfr, haa, ⟨qs, ms, hqs, hst⟩, hlm⟩ => ?_, fun σ' H' ⟨⟨o, hσ⟩, hfr, haa, ⟨qs, ms, hqs, hst⟩, hlm⟩ => ?_⟩
  · have e0 : i = 0 := by omega
    subst e0
    exact (hs2.same e3).frame Fr.upd oa3
  · have e0 : i = 0 := by omega
    subst e0
    show kp [true] k = true
    unfold kp
    rw [show k % [true].length = 0 from Nat.mod_one k]; rfl
  · subst hσ
    rw [List.length_map] at hi
    have e9 : (rs.map V.ref).getD i .non = .ref (rs.getD i 0) := by
      rw [List.getD_eq_getElem?_getD, List.getElem?_map, List.getElem?_eq_getElem hi, List.getD_eq_getElem?_getD, List.getElem?_eq_getElem hi]; rfl
    rw [e9]
    refine wg_name hc (by walk_at "put") (by walk_at "mb") ?_
    walk_at "go"
    refine ws_expr ?_
    refine w_append ?_
    walk_at "w"
    refine a_fld RC.cls (RC.na _ (by simp)) haa rfl ?_
    refine ⟨p, rfl, ⟨_, .inl (.inl hqs)⟩, ?_⟩
    refine w_callA hc (by walk_at "mb") h3 hr (by decide) (passA takes_cx _) ?_
    walk_at "w"
    refine a_fld RC.cls (RC.na _ (by simp)) haa rfl ?_
    walk_at "w"
    have e10 : atI (qs.map V.ref) (-1) = some (.ref (qs.getD i 0)) := by
      unfold atI ixN
      rw [List.length_map, hst.l1, if_neg (by omega), if_pos (by omega)]
      show (qs.map V.ref)[((-1 : Int) + ((i + 1 : Nat) : Int)).toNat]? = _
      rw [show ((-1 : Int) + ((i + 1 : Nat) : Int)).toNat = i by omega, List.getElem?_map, List.getD_eq_getElem?_getD, List.getElem?_eq_getElem (by have := hst.l1; omega)]; rfl
    refine ix_l (.inl (.inl hqs)) e10 ?_
    walk_at "w"
    have hrd : RdAt P w K mg base H' (rs.getD i 0) (ls.getD i []) := by
      have oH : Oth H a := oa
      have f1 : Fr a H (upd (fun b => if b = p then none else H' b) p (.lst [])) := fun b o n e => by
        by_cases z : b = p
        · rw [z, hHt] at e; cases e
        · rw [upd_ne z, if_neg z]; exact hfr b o n z e
      have h9 := (hrs i hi).frame f1 oa
      have f2 : Fr p (upd (fun b => if b = p then none else H' b) p (.lst [])) H' := fun b o n e => by
        rw [upd_ne n] at e
        simpa [n] using e
      refine h9.frame f2 ⟨fun C d fs e => ?_, fun xs e => ?_⟩
      · rw [upd_same] at e; cases e
      · rw [upd_same] at e; injection e with e; injection e with e; rw [← e]; intro x hx; cases hx
    refine a_rsv hr (by decide) hrd fun p2 hs4 => ?_
    have hsi := hst.at_ i (Nat.le_refl _)
    refine wa_nil ?_
    refine comp_by hsi hs4 (fun hP c r H5 e5 hk hd hs5 => ?_) fun hP => ?_
    rotate_left
    · intro dd H5 e5 hdd
      refine hbad ⟨i, hi, hlm, _, hsi.1, hst.kp_ i (Nat.le_refl _), hP⟩ dd H5 (fun b o n e => e5 _ _ ?_) hdd
      by_cases z : b = p
      · rw [z, hHt] at e; cases e
      · exact hfr b o n z e
    have hlm2 : ∀ j, j < i + 1 → ∀ m, Good m → (∀ k, kp m k = stg ls j k) → CompOk m (ls.getD j []) := fun j hj m gm km => by
      rcases Nat.lt_succ_iff_lt_or_eq.mp hj with hj | rfl
      · exact hlm j hj m gm km
      · obtain rfl : m = ms.getD j [] := gm.uniq hsi.1 fun k => by rw [km, hst.kp_ j (Nat.le_refl _)]
        exact (cok_iff gm.toPat).mpr hP
    refine ⟨_, e5 _ _ hqs, by rw [List.length_map, hst.l1]; omega, ?_⟩
    walk_at "w"
    have op : Oth H5 p := by
      refine ⟨fun C d fs e => ?_, fun xs e => ?_⟩
      · rw [e5 _ _ hqs] at e
        cases e
      · rw [e5 _ _ hqs] at e
        injection e with e
        injection e with e
        rw [← e]
        intro x hx
        obtain ⟨r2, _, e⟩ := List.mem_map.mp hx
        exact ⟨r2, e.symm⟩
    refine ⟨⟨_, rfl⟩, fun b o n1 n2 e => by rw [upd_ne n2]; exact e5 _ _ (hfr b o n1 n2 e), by rw [upd_ne (Ne.symm hpa)]; exact e5 _ _ haa, ⟨qs ++ [c], ms ++ [r], by rw [upd_same, List.map_append]; rfl, by simp [hst.l1], by simp [hst.l2], fun j hj => ?_, fun j hj k => ?_⟩, hlm2⟩
    · by_cases hj2 : j ≤ i
      · have e1 : (qs ++ [c]).getD j 0 = qs.getD j 0 := by rw [List.getD_eq_getElem?_getD, List.getElem?_append_left (by rw [hst.l1]; omega), ← List.getD_eq_getElem?_getD]
        have e2 : (ms ++ [r]).getD j [] = ms.getD j [] := by rw [List.getD_eq_getElem?_getD, List.getElem?_append_left (by rw [hst.l2]; omega), ← List.getD_eq_getElem?_getD]
        rw [e1, e2]
        exact ((hst.at_ j hj2).same e5).frame Fr.upd op
      · have ej : j = i + 1 := by omega
        subst ej
        have e1 : (qs ++ [c]).getD (i + 1) 0 = c := by rw [List.getD_eq_getElem?_getD, List.getElem?_append_right (by rw [hst.l1]; omega), hst.l1]; simp
        have e2 : (ms ++ [r]).getD (i + 1) [] = r := by rw [List.getD_eq_getElem?_getD, List.getElem?_append_right (by rw [hst.l2]; omega), hst.l2]; simp
        rw [e1, e2]
        exact hs5.frame Fr.upd op
    · by_cases hj2 : j ≤ i
      · have e2 : (ms ++ [r]).getD j [] = ms.getD j [] := by rw [List.getD_eq_getElem?_getD, List.getElem?_append_left (by rw [hst.l2]; omega), ← List.getD_eq_getElem?_getD]
        rw [e2]
        exact hst.kp_ j hj2 k
      · have ej : j = i + 1 := by omega
        subst ej
        have e2 : (ms ++ [r]).getD (i + 1) [] = r := by rw [List.getD_eq_getElem?_getD, List.getElem?_append_right (by rw [hst.l2]; omega), hst.l2]; simp
        rw [e2, hk]
        have e3 : kp (ms.getD i []) = stg ls i := funext (hst.kp_ i (Nat.le_refl _))
        rw [e3]; rfl
  · subst hσ
    rw [List.length_map] at hst
    walk_at "w"
    have fa : Fr a H H' := fun b o n e => by
      by_cases z : b = p
      · rw [z, hHt] at e; cases e
      · exact hfr b o n z e
    exact q H' fa ⟨dx, t, p, qs, ms, haa, fa _ _ hta ht, hqs, hst⟩ (by rw [List.length_map] at hlm; exact hlm)
def spRowMk (P : Program) (w : World) (K : PySem.W.Frag) (mg : Str → Option Value) (base : Heap) : Sp := fun vs H Q E => ∃ ws rest, vs = ws ++ rest ∧ ws.length = 1 ∧ rest.length ≤ sizeLine ∧ ∀ p, H p = Option.none → spRowI P w K mg base (ws ++ [V.ref p]) (upd H p (.tup rest)) Q E
def spRowMkT (P : Program) (w : World) (K : PySem.W.Frag) (mg : Str → Option Value) (base : Heap) : Sp := fun vs H Q E => ∃ ws rest, vs = ws ++ rest ∧ ws.length = 1 ∧ rest.length ≤ sizeLine ∧ ∀ p, H p = Option.none → spRowIT P w K mg base (ws ++ [V.ref p]) (upd H p (.tup rest)) Q E
theorem wk_Row___init__ (h : Mkr P w K mg base (cRow K) 8 (spRowMkT P w K mg base)) : Mkr P w K mg base (cRow K) 8 (spRowMk P w K mg base) := by
  obtain ⟨f, a, F⟩ := h.ex
  exact ⟨f, a, F.imp fun vs H Q E ⟨ws, rest, e, hl, hr, q⟩ => ⟨ws, rest, e, hl, hr, fun p hp => by
    obtain ⟨a, dx, t, rs, ls, h1, h2, h3, h4, h5, h6, h7⟩ := q p hp
    exact ⟨a, dx, t, rs, ls, h1, h2, h3, h4, h5, fun hb => (lim_not h6 hb).elim, fun H' f r _ => h7 H' f r⟩⟩⟩
theorem made_rwT {H : Hp} {Q : VK} {E : XK} {rs : List Addr} {ls : List (List Bool)} (hl : rs.length < 10000) (hrd : ∀ i, i < rs.length → RdAt P w K mg base H (rs.getD i 0) (ls.getD i []))
    (hE : LimBad rs.length ls → RsL K H E) (h : ∀ a H', Same H H' → RowAt K H' a rs ls → LimAll rs.length ls → Q (.ref a) H') : Made (cRow K) (spRowMkT P w K mg base) (rs.map V.ref) H Q E := by
  intro x dx H2 h1 h2 h3 e h4 h5
  refine ⟨[.ref x], rs.map V.ref, rfl, rfl, by rw [List.length_map, sizeLine_eq]; omega, fun p hp => ?_⟩
  have e1 : Same H (upd H2 p (.tup (rs.map V.ref))) := e.trans (same_new hp)
  have hxp : x ≠ p := fun z => by rw [← z, h5] at hp; cases hp
  have up : ∀ {H'}, Fr x (upd H2 p (.tup (rs.map V.ref))) H' → Same H H' := fun hf b o ho => hf b o (fun z => by rw [z, h1] at ho; cases ho) (e1 _ _ ho)
  exact ⟨x, dx, p, rs, ls, rfl, by rw [upd_ne hxp]; exact h5, upd_same, hl, fun i hi => (hrd i hi).same e1, fun hb d H' hf hd => hE hb d H' (up hf) hd, fun H' hf hr hlim => ⟨rfl, h x H' (up hf) hr hlim⟩⟩
/-- a stage is periodic -/
theorem stg_small {ls : List (List Bool)} {b : Nat} : ∀ i, (∀ j, j < i → Pat (ls.getD j []) ∧ (ls.getD j []).length ≤ b) → ∃ q, 0 < q ∧ q ≤ b ^ i ∧ Per (stg ls i) q ∧ 0 < ct (stg ls i) q
  | 0, _ => ⟨1, by decide, by simp, fun _ => rfl, by simp [ct, stg]⟩
  | i + 1, h => by
    obtain ⟨q, h0, h1, h2, h3⟩ := stg_small (ls := ls) (b := b) i fun j hj => h j (by omega)
    obtain ⟨p, hb⟩ := h i (by omega)
    obtain ⟨r, r0, r1, r2⟩ := cmp_small h2 (kp_per (ls.getD i [])) h3 p.one h1 hb
    refine ⟨r, r0, by rw [Nat.pow_succ]; exact r1, r2, ?_⟩
    obtain ⟨n, hn⟩ := cmp_ex h2 h3 (by obtain ⟨k, _, e⟩ := plus_kp p.plus; exact ⟨k, e⟩)
    have hm : cmp (stg ls i) (kp (ls.getD i [])) (n % r) = true := by rw [r2.mod]; exact hn
    exact ct_pos ⟨n % r, Nat.mod_lt _ r0, hm⟩
theorem made_rd {H : Hp} {Q : VK} {E : XK} {l : List Bool} (R : RCl P w K mg base (cR K)) (p : Pat l) (h : ∀ a m H', Same H H' → Good m → (∀ n, kp m n = kp l n) → RdAt P w K mg base H' a m → Q (.ref a) H') : Made (cR K) (spRdInit K) [.str (sOf l)] H Q E := by
  intro x dx H2 h1 h2 h3 e h4 h5
  refine ⟨x, _, dx, l, rfl, R.cls, R.na, h5, p, fun q m H' gm km dm hf ha hs => ⟨rfl, h x m H' (fun b o ho => ?_) gm km ⟨_, dx, _, q, ha, R, rfl, hs⟩⟩⟩
  exact hf b o (fun z => by rw [z, h1] at ho; cases ho) (e _ _ ho)
/-- an Every of k -/
def EvAt (K : PySem.W.Frag) (H : Hp) (a : Addr) (k : Nat) : Prop := ∃ dx p, H a = some (.ins (cEv K) dx [("own", .ref p), ("step", .int (k : Nat))])
theorem EvAt.same {H H' : Hp} {a : Addr} {k : Nat} (h : EvAt K H a k) (e : Same H H') : EvAt K H' a k := by
  obtain ⟨dx, p, h⟩ := h
  exact ⟨dx, p, e _ _ h⟩
theorem made_ev {H : Hp} {Q : VK} {E : XK} {k : Nat} (R : RCl P w K mg base (cEv K)) (h1 : 2 ≤ k) (h2 : k ≤ 60) (h : ∀ a H', Same H H' → EvAt K H' a k → RdAt P w K mg base H' a (blL (k - 1) 1) → Q (.ref a) H') : Made (cEv K) (spEvInit K) [.int (k : Nat)] H Q E := by
  intro x dx H2 g1 g2 g3 e g4 g5
  refine ⟨x, dx, k, rfl, g5, h1, h2, fun q H' hf ha hs => ⟨rfl, h x H' (fun b o ho => ?_) ⟨dx, q, ha⟩ ⟨_, dx, _, q, ha, R, rfl, hs⟩⟩⟩
  exact hf b o (fun z => by rw [z, g1] at ho; cases ho) (e _ _ ho)
structure RwP (P : Program) (w : World) (K : PySem.W.Frag) (mg : Str → Option Value) (base : Heap) (m : Str) (sp : Sp) : Prop where
  ex : ∃ p g, PropOf K (cRow K) m p g ∧ FnR P w K mg base (L2.CX P w) 3 g sp
def spRowSv (K : PySem.W.Frag) : Sp := fun vs H Q _ => ∃ (a : Addr) (rs : List Addr) (ls : List (List Bool)), vs = [.ref a] ∧ RowAt K H a rs ls ∧ ∀ p m, SieveAt K H p m → (∀ k, kp m k = stg ls rs.length k) → Q (.ref p) H
theorem ok_Row_sieve (F : FunD K "sieve" "Row.sieve" (defArgs s_Row_sieve) (defBody s_Row_sieve) (defScope s_Row_sieve) [] [] f fd) (hb : ∀ x ∈ BB, mg x = none) (RC : ClF K mg "Row" ["parts", "stages"]) : FnR P w K mg base (L2.CX P w) 3 f (spRowSv K) := by
  refine FnR.mono (fnr_of (k := 1) F sc_Row_sieve (fun vs H Q E h => ?_) (fun kV doc pm an cdv ct us hl => match us, hl with | [_], _ => rfl) (fun x hx => hb x (by revert x; decide +kernel)) fun cd A outer s H vs Q E hr hc h => ?_) (by decide)
  · obtain ⟨a, rs, ls, rfl, _⟩ := h; rfl
  · obtain ⟨a, rs, ls, rfl, ⟨dx, t, p, qs, ms, h1, h2, h3, h4⟩, q⟩ := h
    refine wl_start (σ' := [some (.ref a)]) rfl (wl_cons ?_)
    walk_at "w"
    refine a_fld RC.cls (RC.na _ (by simp)) h1 rfl ?_
    walk_at "w"
    have e10 : atI (qs.map V.ref) (-1) = some (.ref (qs.getD rs.length 0)) := by
      unfold atI ixN
      rw [List.length_map, h4.l1, if_neg (by omega), if_pos (by omega)]
      show (qs.map V.ref)[((-1 : Int) + ((rs.length + 1 : Nat) : Int)).toNat]? = _
      rw [show ((-1 : Int) + ((rs.length + 1 : Nat) : Int)).toNat = rs.length by omega, List.getElem?_map, List.getD_eq_getElem?_getD, List.getElem?_eq_getElem (by have := h4.l1; omega)]; rfl
    refine ix_l (.inl (.inl h3)) e10 ?_
    exact q _ _ (h4.at_ _ (Nat.le_refl _)) (h4.kp_ _ (Nat.le_refl _))

inductive SpD where
  | ev (k : Nat)
  | bk (x y : Nat)
  | rd (l : List Bool)
def SpD.Ok : SpD → Prop
  | .ev k => 2 ≤ k ∧ k ≤ 60
  | .bk x y => 1 ≤ x ∧ x ≤ 60 ∧ y ≤ 60
  | .rd l => Pat l ∧ l.length ≤ 100
def SpD.sg : SpD → List Bool
  | .ev k => blL (k - 1) 1
  | .bk x y => blL x y
  | .rd l => l
def SpAt (H : Hp) (p : Addr) : SpD → Prop
  | .ev k => H p = some (.tup [.str "every", .int ((k : Nat) : Int)])
  | .bk x y => H p = some (.tup [.str "block", .int ((x : Nat) : Int), .int ((y : Nat) : Int)])
  | .rd l => H p = some (.tup [.str "round", .str (sOf l)])
theorem SpAt.same {H H' : Hp} {p : Addr} : ∀ {d : SpD}, SpAt H p d → Same H H' → SpAt H' p d
  | .ev _, h, e => e _ _ h
  | .bk _ _, h, e => e _ _ h
  | .rd _, h, e => e _ _ h
theorem SpD.pat : ∀ {d : SpD}, d.Ok → Pat d.sg ∧ d.sg.length ≤ 120
  | .ev k, h => ⟨blL_pat (by have := h.1; omega) (by have := h.2; omega), by show (blL (k - 1) 1).length ≤ 120; rw [blL_len]; have := h.2; omega⟩
  | .bk x y, h => ⟨blL_pat h.1 (by have := h.2; omega), by show (blL x y).length ≤ 120; rw [blL_len]; have := h.2; omega⟩
  | .rd l, h => ⟨h.1, Nat.le_trans h.2 (by decide)⟩
def spSigns : Sp := fun vs H Q _ => ∃ (T : Addr) (d : SpD), vs = [.ref T] ∧ SpAt H T d ∧ d.Ok ∧ Q (.str (sOf d.sg)) H
theorem sOf_blL (x y : Nat) : repS "+" x ++ repS "-" y = sOf (blL x y) := blL_txt x y
theorem made_bk {H : Hp} {Q : VK} {E : XK} {x y : Nat} (R : RCl P w K mg base (cBk K)) (h1 : 1 ≤ x) (h2 : x ≤ 60) (h3 : y ≤ 60) (h : ∀ a m H', Same H H' → Good m → (∀ n, kp m n = kp (blL x y) n) → RdAt P w K mg base H' a m → Q (.ref a) H') : Made (cBk K) (spBkInit K) [.int (x : Nat), .int (y : Nat)] H Q E := by
  intro a dx H2 g1 g2 g3 e g4 g5
  refine ⟨a, dx, x, y, rfl, g5, h1, h2, h3, fun q t m H' hf ha ht gm km hs => ⟨rfl, h a m H' (fun b o ho => ?_) gm km ⟨_, dx, _, q, ha, R, rfl, hs⟩⟩⟩
  exact hf b o (fun z => by rw [z, g1] at ho; cases ho) (e _ _ ho)
def spRound (P : Program) (w : World) (K : PySem.W.Frag) (mg : Str → Option Value) (base : Heap) : Sp := fun vs H Q _ => ∃ (T : Addr) (d : SpD), vs = [.ref T] ∧ SpAt H T d ∧ d.Ok ∧ ∀ r m H', Same H H' → Good m → (∀ n, kp m n = kp d.sg n) → m.length ≤ 120 → RdAt P w K mg base H' r m → Q (.ref r) H'
theorem ok__law_round (F : FunD K "_law_round" "_law_round" (defArgs s__law_round) (defBody s__law_round) (defScope s__law_round) [] [] f fd) (hb : ∀ x ∈ BB, mg x = none) (gE : mg "Every" = some (.ref (He.ga K "Every"))) (gB : mg "Block" = some (.ref (He.ga K "Block"))) (gR : mg "Round" = some (.ref (He.ga K "Round"))) (RE : RCl P w K mg base (cEv K)) (RB : RCl P w K mg base (cBk K)) (RR : RCl P w K mg base (He.ga K "Round"))
    (hE : Mkr P w K mg base (cEv K) 7 (spEvInit K)) (hB : Mkr P w K mg base (cBk K) 7 (spBkInit K)) (hR : Mkr P w K mg base (He.ga K "Round") 6 (spRdInit K)) : FnR P w K mg base (L2.CX P w) 9 f (spRound P w K mg base) := by
  refine fnr_of F sc__law_round (fun vs H Q E h => ?_) (fun kV doc pm an cdv ct us hl => match us, hl with | [_], _ => rfl) (fun x hx => hb x (by revert x; decide +kernel)) fun cd A outer s0 H vs Q E hr hc h => ?_
  · obtain ⟨T, d, rfl, _⟩ := h; rfl
  · obtain ⟨T, d, rfl, hT, hd, q⟩ := h
    have len4 : ∀ m, Good m → (∀ n, kp m n = kp d.sg n) → m.length ≤ 120 := fun m gm km => Nat.le_trans (gm.le (SpD.pat hd).1.one (by rw [show kp m = kp d.sg from funext km]; exact kp_per _)) (SpD.pat hd).2
    refine wl_start (σ' := [some (.ref T)]) rfl (wl_cons ?_)
    walk_at "w"
    cases d with
    | ev k =>
      have hT : H T = some (.tup [.str "every", .int ((k : Nat) : Int)]) := hT
      obtain ⟨k1, k2⟩ := hd
      refine ix_t (.inl (.inl hT)) (show atI [V.str "every", V.int ((k : Nat) : Int)] 0 = some (V.str "every") from rfl) ?_
      walk_at "w"
      rw [show decide (("every" : Str) = "every") = true by decide +kernel]
      walk_at "w"
      refine w_make hc (by walk_at "mb") gE hE hr (by decide) passL ?_
      walk_at "w"
      refine ix_t (.inl (.inl hT)) (show atI [V.str "every", V.int ((k : Nat) : Int)] 1 = some (V.int ((k : Nat) : Int)) from rfl) ?_
      walk_at "w"
      have gk := blL_good (x := k - 1) (y := 1) (by omega) (by omega) (by omega)
      exact made_ev RE k1 (by omega) fun r H' e _ hrd => q r _ H' e gk (fun n => rfl) (len4 _ gk fun n => rfl) hrd
    | bk x y =>
      have hT : H T = some (.tup [.str "block", .int ((x : Nat) : Int), .int ((y : Nat) : Int)]) := hT
      obtain ⟨k1, k2, k3⟩ := hd
      refine ix_t (.inl (.inl hT)) (show atI [V.str "block", V.int ((x : Nat) : Int), V.int ((y : Nat) : Int)] 0 = some (V.str "block") from rfl) ?_
      walk_at "w"
      rw [show decide (("block" : Str) = "every") = false by decide +kernel]
      walk_at "w"
      refine ix_t (.inl (.inl hT)) (show atI [V.str "block", V.int ((x : Nat) : Int), V.int ((y : Nat) : Int)] 0 = some (V.str "block") from rfl) ?_
      walk_at "w"
      rw [show decide (("block" : Str) = "block") = true by decide +kernel]
      walk_at "w"
      refine w_make hc (by walk_at "mb") gB hB hr (by decide) passL ?_
      walk_at "w"
      refine ix_t (.inl (.inl hT)) (show atI [V.str "block", V.int ((x : Nat) : Int), V.int ((y : Nat) : Int)] 1 = some (V.int ((x : Nat) : Int)) from rfl) ?_
      walk_at "w"
      refine ix_t (.inl (.inl hT)) (show atI [V.str "block", V.int ((x : Nat) : Int), V.int ((y : Nat) : Int)] 2 = some (V.int ((y : Nat) : Int)) from rfl) ?_
      walk_at "w"
      exact made_bk RB k1 (by omega) (by omega) fun r m H' e gm km hrd => q r m H' e gm km (len4 m gm km) hrd
    | rd l =>
      have hT : H T = some (.tup [.str "round", .str (sOf l)]) := hT
      refine ix_t (.inl (.inl hT)) (show atI [V.str "round", V.str (sOf l)] 0 = some (V.str "round") from rfl) ?_
      walk_at "w"
      rw [show decide (("round" : Str) = "every") = false by decide +kernel]
      walk_at "w"
      refine ix_t (.inl (.inl hT)) (show atI [V.str "round", V.str (sOf l)] 0 = some (V.str "round") from rfl) ?_
      walk_at "w"
      rw [show decide (("round" : Str) = "block") = false by decide +kernel]
      walk_at "w"
      refine w_make hc (by walk_at "mb") gR hR hr (by decide) passL ?_
      walk_at "w"
      refine ix_t (.inl (.inl hT)) (show atI [V.str "round", V.str (sOf l)] 1 = some (V.str (sOf l)) from rfl) ?_
      walk_at "w"
      exact made_rd RR hd.1 fun r m H' e gm km hrd => q r m H' e gm km (len4 m gm km) hrd

def spExch (P : Program) (w : World) (K : PySem.W.Frag) (mg : Str → Option Value) (base : Heap) : Sp := fun vs H Q E => ∃ (a b : Addr) (l m : List Bool), vs = [.ref a, .ref b] ∧ RdAt P w K mg base H a l ∧ RdAt P w K mg base H b m ∧
  (10000 < cper l m ∨ 10000 < cper m l → RsL K H E) ∧ (cper l m ≤ 10000 → cper m l ≤ 10000 → ∀ b H', Same H H' → (b = true ↔ ∀ n, cmp (kp l) (kp m) n = cmp (kp m) (kp l) n) → Q (.bl b) H')
theorem ok_may_exchange (F : FunD K "may_exchange" "may_exchange" (defArgs s_may_exchange) (defBody s_may_exchange) (defScope s_may_exchange) [] [] f fd) (hb : ∀ x ∈ BB, mg x = none) (h1 : Fn P w K mg base "compose" 7 (spCompE K)) (h11 : EqM P w K mg base (cS K) 4 (spSvEq K)) : FnR P w K mg base (L2.CX P w) 8 f (spExch P w K mg base) := by
  refine fnr_of F sc_may_exchange (fun vs H Q E h => ?_) (fun kV doc pm an cdv ct us hl => match us, hl with | [_, _], _ => rfl) (fun x hx => hb x (by revert x; decide +kernel)) fun cd A outer s H vs Q E hr hc h => ?_
  · obtain ⟨a, b, l, m, rfl, _⟩ := h; rfl
  · obtain ⟨a, b, l, m, rfl, ha, hb2, hE, q⟩ := h
    refine wl_start (σ' := [some (.ref a), some (.ref b)]) rfl (wl_cons ?_)
    walk_at "w"
    refine w_callA hc (by walk_at "mb") h1 hr (by decide) (passA takes_cx _) ?_
    walk_at "w"
    refine a_rsv hr (by decide) ha fun p1 hs1 => ?_
    walk_at "w"
    refine a_rsv hr (by decide) hb2 fun p2 hs2 => ?_
    walk_at "w"
    refine comp_by hs1 hs2 (fun hP c1 r1 H1 e1 k1 _ hc1 => ?_) fun hP => hE (.inl hP)
    refine w_callA hc (by walk_at "mb") h1 hr (by decide) (passA takes_cx _) ?_
    walk_at "w"
    refine a_rsv hr (by decide) (hb2.same e1) fun p3 hs3 => ?_
    walk_at "w"
    refine a_rsv hr (by decide) (ha.same e1) fun p4 hs4 => ?_
    walk_at "w"
    refine comp_by hs3 hs4 (fun hP2 c2 r2 H2 e2 k2 _ hc2 => ?_) fun hP2 => (hE (.inr hP2)).same e1
    have hc3 := hc1.same e2
    obtain ⟨_, dx, p, hi1, _⟩ := id hc3
    obtain ⟨_, dx2, p', hi2, _⟩ := id hc2
    refine b_eqO h11 hr (by decide) hi1 hi2 ?_
    refine ⟨c1, c2, r1, r2, rfl, hc3, hc2, ?_⟩
    refine ⟨_, rfl, ?_⟩
    refine q hP hP2 _ H2 (e1.trans e2) ?_
    rw [decide_eq_true_iff]
    constructor
    · rintro rfl n
      rw [← k1, k2]
    · intro h
      exact hc3.1.uniq hc2.1 fun n => by rw [k1, h, k2]

theorem cper_le {l m : List Bool} (pl : Pat l) (pm : Pat m) : cper l m ≤ l.length * m.length := by
  have s1 := pl.size
  have h1 : Nat.lcm (ct (kp l) l.length) m.length / ct (kp l) l.length ≤ m.length := Nat.le_trans (Nat.div_le_div_right (Nat.le_of_dvd (Nat.mul_pos s1 pm.one) (Nat.lcm_dvd_mul _ _))) (by rw [Nat.mul_div_cancel_left _ s1]; exact Nat.le_refl _)
  exact Nat.mul_le_mul_left _ h1
def spLComp : Sp := fun vs H Q _ => ∃ l m : List Bool, vs = [.str (sOf l), .str (sOf m)] ∧ Pat l ∧ Pat m ∧ cper l m ≤ 10000 ∧ ∀ r H', Same H H' → Good r → (∀ n, kp r n = cmp (kp l) (kp m) n) → Q (.str (sOf r)) H'
/-- a new row -/
theorem made_rw {H : Hp} {Q : VK} {E : XK} {rs : List Addr} {ls : List (List Bool)} (hl : rs.length < 10000) (hrd : ∀ i, i < rs.length → RdAt P w K mg base H (rs.getD i 0) (ls.getD i []))
    (hlim : ∀ i, i < rs.length → ∀ m, Good m → (∀ k, kp m k = stg ls i k) → CompOk m (ls.getD i [])) (h : ∀ a H', Same H H' → RowAt K H' a rs ls → Q (.ref a) H') : Made (cRow K) (spRowMk P w K mg base) (rs.map V.ref) H Q E := by
  have hz : sizeLine = 16777216 := sizeLine_eq
  intro x dx H2 hx hdx hne e2 hdx2 hx2
  refine ⟨[.ref x], rs.map V.ref, rfl, rfl, (by rw [List.length_map]; omega), fun t ht => ?_⟩
  have htx : x ≠ t := fun z => by rw [← z, hx2] at ht; cases ht
  have st := same_new (o := .tup (rs.map V.ref)) ht
  refine ⟨x, dx, t, rs, ls, rfl, by rw [upd_ne htx]; exact hx2, upd_same, hl, fun j hj => (hrd j hj).same (e2.trans st), hlim, fun H3 f3 row => ⟨rfl, h x H3 (fun b o hbo => f3 b o (fun z => by rw [z, hx] at hbo; cases hbo) (st _ _ (e2 _ _ hbo))) row⟩⟩
/-- the index of n in the list before each round -/
def fidx (ls : List (List Bool)) (n : Nat) : Nat → Nat
  | 0 => n
  | i + 1 => ct (kp (ls.getD i [])) (fidx ls n i)
theorem fidx_stg (ls : List (List Bool)) (n : Nat) : ∀ i, ct (stg ls i) n = fidx ls n i
  | 0 => ct_true n
  | i + 1 => by
    show ct (cmp (stg ls i) (kp (ls.getD i []))) n = _
    rw [ct_cmp, fidx_stg ls n i]; rfl
theorem stg_step (ls : List (List Bool)) (n i : Nat) : stg ls (i + 1) n = (stg ls i n && kp (ls.getD i []) (fidx ls n i)) := by
  show cmp (stg ls i) (kp (ls.getD i [])) n = _
  unfold cmp
  rw [fidx_stg]
theorem stg_all (ls : List (List Bool)) (n : Nat) : ∀ i, stg ls i n = true ↔ ∀ j, j < i → kp (ls.getD j []) (fidx ls n j) = true
  | 0 => ⟨fun _ j hj => absurd hj (Nat.not_lt_zero _), fun _ => rfl⟩
  | i + 1 => by
    rw [stg_step, Bool.and_eq_true, stg_all ls n i]
    refine ⟨fun ⟨h1, h2⟩ j hj => ?_, fun h => ⟨fun j hj => h j (by omega), h i (by omega)⟩⟩
    by_cases e : j = i
    · rw [e]; exact h2
    · exact h1 j (by omega)
def RdAll (P : Program) (w : World) (K : PySem.W.Frag) (mg : Str → Option Value) (base : Heap) (H : Hp) (rs : List Addr) (ls : List (List Bool)) : Prop := ∀ i, i < rs.length → RdAt P w K mg base H (rs.getD i 0) (ls.getD i [])
theorem RdAll.same {H H' : Hp} {rs : List Addr} {ls : List (List Bool)} (h : RdAll P w K mg base H rs ls) (e : Same H H') : RdAll P w K mg base H' rs ls := fun i hi => (h i hi).same e
def spThenT (P : Program) (w : World) (K : PySem.W.Frag) (mg : Str → Option Value) (base : Heap) : Sp := fun vs H Q _ => ∃ (a t : Addr) (rs ns : List Addr) (ls ms : List (List Bool)), vs = [.ref a, .ref t] ∧ H t = some (.tup (ns.map V.ref)) ∧ RowAt K H a rs ls ∧ RdAll P w K mg base H (rs ++ ns) (ls ++ ms) ∧ (rs ++ ns).length < 10000 ∧ LimAll (rs ++ ns).length (ls ++ ms) ∧ ∀ b H', Same H H' → RowAt K H' b (rs ++ ns) (ls ++ ms) → Q (.ref b) H'
def spThen (P : Program) (w : World) (K : PySem.W.Frag) (mg : Str → Option Value) (base : Heap) : Sp := fun vs H Q _ => ∃ (a : Addr) (rs ns : List Addr) (ls ms : List (List Bool)), vs = .ref a :: ns.map V.ref ∧ RowAt K H a rs ls ∧ RdAll P w K mg base H (rs ++ ns) (ls ++ ms) ∧ (rs ++ ns).length < 10000 ∧ LimAll (rs ++ ns).length (ls ++ ms) ∧ ∀ b H', Same H H' → RowAt K H' b (rs ++ ns) (ls ++ ms) → Q (.ref b) H'
theorem ok_Row_then (F : FunD K "then" "Row.then" (defArgs s_Row_then) (defBody s_Row_then) (defScope s_Row_then) [] [] f fd) (hb : ∀ x ∈ BB, mg x = none) (RW : ClF K mg "Row" ["parts", "stages"]) (h8 : Mkr P w K mg base (cRow K) 8 (fun vs H Q E => ∃ ws rest, vs = ws ++ rest ∧ ws.length = 1 ∧ rest.length ≤ sizeLine ∧ ∀ p, H p = Option.none → spRowI P w K mg base (ws ++ [V.ref p]) (upd H p (.tup rest)) Q E)) : FnR P w K mg base (L2.CX P w) 10 f (spThen P w K mg base) := by
  refine FnR.imp (sp := fun vs H Q E => ∃ ws rest, vs = ws ++ rest ∧ ws.length = 1 ∧ rest.length ≤ sizeLine ∧ ∀ p, H p = Option.none → spThenT P w K mg base (ws ++ [V.ref p]) (upd H p (.tup rest)) Q E) ?_ fun vs H Q E ⟨a, rs, ns, ls, ms, e, h1, h2, h3, h4, q⟩ => ⟨[.ref a], ns.map V.ref, by rw [e]; rfl, rfl, by rw [sizeLine_eq, List.length_map]; rw [List.length_append] at h3; omega, fun p hp => ⟨a, p, rs, ns, ls, ms, rfl, upd_same, h1.same (same_new hp), h2.same (same_new hp), h3, h4, fun b H' e2 => q b H' ((same_new hp).trans e2)⟩⟩
  refine fnr_star (ps := ["self"]) (pv := "rounds") F sc_Row_then (fun kV doc pm an cdv ct us rest hl => match us, rest, hl with | [_], [], _ => rfl | [_], _ :: _, _ => rfl) (fun x hx => hb x (by revert x; decide +kernel)) fun cd A outer s H vs Q E hr hc h => ?_
  obtain ⟨a, t, rs, ns, ls, ms, rfl, ht, hrow, hrd, hl, hlim, q⟩ := h
  obtain ⟨dx, tp, pp, qs, mm, h1, h2, h3, h4⟩ := id hrow
  refine wl_start (σ' := [some (.ref a), some (.ref t)]) rfl (wl_cons ?_)
  refine ws_ret ?_
  refine w_makeSS hc (by walk_at "mb") RW.g h8 hr (by decide) passL ?_
  refine wa_star ?_
  walk_at "w"
  refine a_fld RW.cls (RW.na _ (by simp)) h1 rfl ?_
  refine ⟨tp, _, rfl, .inl (.inl (.inl h2)), ?_⟩
  refine wa_star ?_
  walk_at "w"
  refine ⟨t, _, rfl, .inl (.inl (.inl ht)), ?_⟩
  refine wa_nil ?_
  rw [List.append_nil, ← List.map_append]
  exact made_rw hl hrd hlim q
def spFate (P : Program) (w : World) (K : PySem.W.Frag) (mg : Str → Option Value) (base : Heap) : Sp := fun vs H Q _ => ∃ (a : Addr) (rs : List Addr) (ls : List (List Bool)) (n : Nat), vs = [.ref a, .int (n : Nat)] ∧ RowAt K H a rs ls ∧ RdAll P w K mg base H rs ls ∧
  (∀ i, i < rs.length → stg ls i n = true → kp (ls.getD i []) (fidx ls n i) = false → ∀ T H', H T = none → Same H H' → H' T = some (.tup [.int (i : Nat), .int (fidx ls n i : Nat)]) → Q (.ref T) H') ∧
  (stg ls rs.length n = true → ∀ T H', H T = none → Same H H' → H' T = some (.tup [.non, .int (fidx ls n rs.length : Nat)]) → Q (.ref T) H')
def spStruck (P : Program) (w : World) (K : PySem.W.Frag) (mg : Str → Option Value) (base : Heap) : Sp := fun vs H Q _ => ∃ (a : Addr) (rs : List Addr) (ls : List (List Bool)) (i : Nat), vs = [.ref a, .int (i : Nat)] ∧ RowAt K H a rs ls ∧ RdAll P w K mg base H rs ls ∧ i < rs.length ∧ (ls.getD i []).length < 4090 ∧
  (∀ m r, Good m → (∀ k, kp m k = stg ls i k) → Good r → (∀ k, kp r k = !kp (ls.getD i []) k) → r.length ∣ (ls.getD i []).length → CompOk m r) ∧ ((∀ n, kp (ls.getD i []) n = true) → ∀ H', Same H H' → Q .non H') ∧
  ((∃ n, kp (ls.getD i []) n = false) → ∀ c r H', Same H H' → SieveAt K H' c r → (∀ k, kp r k = cmp (stg ls i) (fun n => !kp (ls.getD i []) n) k) → Q (.ref c) H')
/-! all orders of n numbers, as lists -/
def oth (n f : Nat) : List Nat := (List.range n).filter fun i => !(decide (i = f))
def prm : Nat → List (List Nat)
  | 0 => [[]]
  | n + 1 => (List.range (n + 1)).flatMap fun f => (prm n).map fun r => f :: r.map fun i => (oth (n + 1) f).getD i 0
def intsN (l : List Nat) : List V := l.map fun n => V.int ((n : Nat) : Int)
def PrAt (H : Hp) : List V → List (List Nat) → Prop
  | [], [] => True
  | v :: vs, l :: ls => (∃ p, v = .ref p ∧ H p = some (.tup (intsN l))) ∧ PrAt H vs ls
  | _, _ => False
theorem PrAt.same {H H' : Hp} (e : Same H H') : ∀ {vs : List V} {ls : List (List Nat)}, PrAt H vs ls → PrAt H' vs ls
  | [], [], _ => trivial
  | _ :: _, _ :: _, ⟨⟨p, h1, h2⟩, h3⟩ => ⟨⟨p, h1, e _ _ h2⟩, h3.same e⟩
  | [], _ :: _, h => h.elim
  | _ :: _, [], h => h.elim
theorem PrAt.len {H : Hp} : ∀ {vs : List V} {ls : List (List Nat)}, PrAt H vs ls → vs.length = ls.length
  | [], [], _ => rfl
  | _ :: _, _ :: _, ⟨_, h⟩ => by rw [List.length_cons, List.length_cons, h.len]
  | [], _ :: _, h => h.elim
  | _ :: _, [], h => h.elim
theorem PrAt.snoc {H : Hp} {p : Addr} {l : List Nat} (hp : H p = some (.tup (intsN l))) : ∀ {vs : List V} {ls : List (List Nat)}, PrAt H vs ls → PrAt H (vs ++ [.ref p]) (ls ++ [l])
  | [], [], _ => ⟨⟨p, rfl, hp⟩, trivial⟩
  | _ :: _, _ :: _, ⟨h1, h2⟩ => ⟨h1, h2.snoc hp⟩
  | [], _ :: _, h => h.elim
  | _ :: _, [], h => h.elim
theorem PrAt.get {H : Hp} : ∀ {vs : List V} {ls : List (List Nat)} {i : Nat}, PrAt H vs ls → i < ls.length → ∃ p, vs.getD i .non = .ref p ∧ H p = some (.tup (intsN (ls.getD i [])))
  | [], [], _, _, h => absurd h (Nat.not_lt_zero _)
  | _ :: _, _ :: _, 0, ⟨h1, _⟩, _ => h1
  | _ :: _, _ :: _, i + 1, ⟨_, h2⟩, h => h2.get (i := i) (Nat.lt_of_succ_lt_succ h)
  | [], _ :: _, _, h, _ => h.elim
  | _ :: _, [], _, h, _ => h.elim
theorem prm_len : ∀ n, n ≤ 6 → (prm n).length ≤ 720 := by
  have : ∀ n, n < 7 → (prm n).length ≤ 720 := by decide +kernel
  exact fun n h => this n (by omega)
theorem oth_len {n f : Nat} (h : f < n + 1) : (oth (n + 1) f).length = n := by
  have : (oth (n + 1) f) = (List.range f) ++ (List.range' (f + 1) (n - f)) := by
    unfold oth
    rw [show List.range (n + 1) = List.range f ++ (f :: List.range' (f + 1) (n - f)) by
      rw [List.range_eq_range', List.range_eq_range', show n + 1 = f + (n - f + 1) by omega, ← List.range'_append_1, List.range'_succ]
      simp]
    rw [List.filter_append, List.filter_cons]
    simp only [decide_true, Bool.not_true, Bool.false_eq_true, if_false]
    congr 1
    · exact List.filter_eq_self.mpr fun a ha => by have := List.mem_range.mp ha; simp; omega
    · exact List.filter_eq_self.mpr fun a ha => by have := List.mem_range'_1.mp ha; simp; omega
  rw [this, List.length_append, List.length_range, List.length_range']
  omega
theorem prm_lt : ∀ n, ∀ l ∈ prm n, l.length = n ∧ ∀ i ∈ l, i < n
  | 0, l, h => by
    rw [List.mem_singleton.mp h]; exact ⟨rfl, fun i hi => nomatch hi⟩
  | n + 1, l, h => by
    obtain ⟨f, hf, h⟩ := List.mem_flatMap.mp h
    obtain ⟨r, hr, rfl⟩ := List.mem_map.mp h
    obtain ⟨h1, h2⟩ := prm_lt n r hr
    have hf := List.mem_range.mp hf
    refine ⟨by rw [List.length_cons, List.length_map, h1], fun i hi => ?_⟩
    rcases List.mem_cons.mp hi with rfl | hi
    · exact hf
    · obtain ⟨j, hj, rfl⟩ := List.mem_map.mp hi
      have hj2 : j < (oth (n + 1) f).length := by rw [oth_len hf]; exact h2 j hj
      rw [List.getD_eq_getElem?_getD, List.getElem?_eq_getElem hj2]
      exact List.mem_range.mp (List.mem_filter.mp (List.getElem_mem hj2)).1
def stepP (n t : Nat) (r : List Nat) : List Nat := t :: r.map fun i => (oth (n + 1) t).getD i 0
def outP (n t : Nat) : List (List Nat) := (List.range t).flatMap fun f => (prm n).map (stepP n f)
theorem prm_out (n : Nat) : prm (n + 1) = outP n (n + 1) := rfl
theorem outP_s (n t : Nat) : outP n (t + 1) = outP n t ++ (prm n).map (stepP n t) := by
  unfold outP
  rw [List.range_succ, List.flatMap_append]
  simp only [List.flatMap_cons, List.flatMap_nil, List.append_nil]
theorem outP_len {n : Nat} (hn : n ≤ 6) : ∀ t, (outP n t).length ≤ t * 720
  | 0 => Nat.le_refl _
  | t + 1 => by
    have := outP_len hn t
    have h2 := prm_len n hn
    rw [outP_s, List.length_append, List.length_map]
    omega
theorem ints_at {l : List Nat} {i : Nat} (h : i < l.length) : atI (intsN l) ((i : Nat) : Int) = some (V.int ((l.getD i 0 : Nat) : Int)) := by
  unfold atI
  rw [show ixN (intsN l).length ((i : Nat) : Int) = some i by
    unfold ixN intsN
    rw [List.length_map, if_pos (by omega), if_pos (by omega)]; simp]
  show (intsN l)[i]? = _
  unfold intsN
  rw [List.getElem?_map, List.getElem?_eq_getElem h, List.getD_eq_getElem?_getD, List.getElem?_eq_getElem h]; rfl
theorem ints_getD {l : List Nat} {i : Nat} (h : i < l.length) : (intsN l).getD i .non = V.int ((l.getD i 0 : Nat) : Int) := by
  unfold intsN
  rw [List.getD_eq_getElem?_getD, List.getElem?_map, List.getElem?_eq_getElem h, List.getD_eq_getElem?_getD, List.getElem?_eq_getElem h]; rfl
theorem takeN {α : Type} {xs : List α} {i : Nat} {d : α} (h : i < xs.length) : xs.take (i + 1) = xs.take i ++ [xs.getD i d] := by
  rw [List.take_succ_eq_append_getElem h, List.getD_eq_getElem?_getD, List.getElem?_eq_getElem h]; rfl
def spAO (n : Nat) : SpG := fun vs H Q _ => vs = [.int ((n : Nat) : Int)] ∧ ∀ ys H', Same H H' → PrAt H' ys (prm n) → Q ys H'
theorem ao0 (F : FunD K "all_orders" "all_orders" (defArgs s_all_orders) (defBody s_all_orders) (defScope s_all_orders) [] [] f fd) (hb : ∀ x ∈ BB, mg x = none) : GFn P w K mg base 1 f fd ["size"] (spAO 0) := by
  refine gfn_by F sc_all_orders (fun vs H Q E h => ?_) (fun x hx => hb x (by revert x; decide +kernel)) fun cd A outer s H vs Q E pn hr hc h => ?_
  · obtain ⟨rfl, _⟩ := h; rfl
  · obtain ⟨rfl, q⟩ := h
    have hz : sizeLine = 16777216 := sizeLine_eq
    refine wl_startG (σ' := [some (.int ((0 : Nat) : Int)), none, none, none, none]) rfl (gwl_cons ?_)
    refine gws_if ?_
    walk_at "w"
    refine if_dec (fun _ => ?_) (fun h => absurd rfl h)
    refine gwl_cons ?_
    refine gws_yield (by show 0 < sizeLine; omega) ?_ (by kernel_rfl) (by with_unfolding_all rfl)
    walk_at "w"
    refine ⟨by show 0 ≤ sizeLine; omega, fun p H' hp e hp' => ?_⟩
    refine gwl_nil (gwl_nil ?_)
    exact q _ H' e ⟨⟨p, rfl, hp'⟩, trivial⟩
theorem aoS (F : FunD K "all_orders" "all_orders" (defArgs s_all_orders) (defBody s_all_orders) (defScope s_all_orders) [] [] f fd) (hb : ∀ x ∈ BB, mg x = none) {k n : Nat} (hn : n < 6) (G0 : GFt P w K mg base "all_orders" k (spAO n)) : GFn P w K mg base (k + 4) f fd ["size"] (spAO (n + 1)) := by
  refine gfn_by (k := k + 3) F sc_all_orders (fun vs H Q E h => ?_) (fun x hx => hb x (by revert x; decide +kernel)) fun cd A outer s H vs Q E pn hr hc h => ?_
  · obtain ⟨rfl, _⟩ := h; rfl
  · obtain ⟨rfl, q⟩ := h
    have hz : sizeLine = 16777216 := sizeLine_eq
    refine wl_startG (σ' := [some (.int (((n + 1 : Nat)) : Int)), none, none, none, none]) rfl (gwl_cons ?_)
    refine gws_if ?_
    walk_at "w"
    refine if_dec (fun h0 => absurd h0 (by omega)) (fun _ => ?_)
    refine gwl_cons ?_
    refine gws_for owns_gcx hc ?_
    refine wi_range1 hc (by walk_at "mb") ?_
    walk_at "w"
    refine ⟨by omega, by omega, ?_⟩
    rw [Int.toNat_natCast]
    have hpl := prm_len n (by omega)
    refine ⟨_, _, wlk_range, fun t ys σ' H' => Same H H' ∧ (∃ o1 o2 o3 o4, σ' = [some (.int (((n + 1 : Nat)) : Int)), o1, o2, o3, o4]) ∧ PrAt H' ys (outP n t), ⟨Same.refl _, ⟨_, _, _, _, rfl⟩, trivial⟩, fun t ys σ' H' h => h.1, fun t ys σ' H1 ht ⟨e1, ⟨o1, o2, o3, o4, hσ⟩, hys⟩ => ?_, fun ys σ' H1 ⟨e1, _, hys⟩ => ?_⟩
    · subst hσ
      rw [show (0 : Int) + (t : Nat) = ((t : Nat) : Int) by omega]
      refine wg_name hc (by walk_at "put") (by walk_at "mb") ?_
      refine gwl_cons ?_
      refine gws_plain ?_
      refine ws_set hc (by walk_at "mb") ?_
      refine w_lc hc (own := bO_all_orders_0) (by kernel_rfl) (fun i acc => acc = ((List.range i).filter fun j => !(decide (j = t))).map fun (j : Nat) => V.int ((j : Nat) : Int)) ?_
      refine wi_range1 hc (by walk_at "mb") ?_
      walk_at "w"
      refine ⟨by omega, by omega, _, _, wlk_range, by rw [Int.toNat_natCast]; omega, rfl, fun i acc H' hi hl hP hS => ?_, fun acc D H2 hl hP hD hS hDa => ?_⟩
      · rw [Int.toNat_natCast] at hi
        rw [show (0 : Int) + (i : Nat) = ((i : Nat) : Int) by omega]
        intro X1 b1
        have c1 := nm_blk (L' := bL_all_orders_0) (S' := bS_all_orders_0) (G' := bG_all_orders_0) (B' := bB_all_orders_0) b1 hc (by kernel_rfl) (fun x hx => nomatch hx)
        simp only [wipe, List.map_cons, List.map_nil, List.set_cons_succ, List.set_cons_zero]
        refine wg_name c1 (by walk_at "put") (by walk_at "mb") ?_
        refine ⟨rfl, rfl, ?_⟩
        intro X2 b2
        have c2 := nm_blk (L' := bL_all_orders_0) (S' := bS_all_orders_0) (G' := bG_all_orders_0) (B' := bB_all_orders_0) b2 hc (by kernel_rfl) (fun x hx => nomatch hx)
        refine wts_one ?_
        walk_at "w"
        refine ⟨Same.refl _, ?_⟩
        by_cases ht2 : i = t
        · rw [decide_eq_true (show ((i : Nat) : Int) = ((t : Nat) : Int) by omega), if_neg (by decide), hP, List.range_succ, List.filter_append, List.filter_cons]
          simp [ht2]
        · rw [decide_eq_false (show ¬ ((i : Nat) : Int) = ((t : Nat) : Int) by omega), if_pos (show (!false) = true from rfl)]
          intro X3 b3
          have c3 := nm_blk (L' := bL_all_orders_0) (S' := bS_all_orders_0) (G' := bG_all_orders_0) (B' := bB_all_orders_0) b3 hc (by kernel_rfl) (fun x hx => nomatch hx)
          walk_at "w"
          refine ⟨Same.refl _, ?_⟩
          rw [hP, List.range_succ, List.filter_append, List.filter_cons]
          simp [ht2]
      · rw [Int.toNat_natCast] at hP
        have hDo : H2 D = some (.lst (intsN (oth (n + 1) t))) := by rw [hDa, hP]; rfl
        refine ⟨_, by walk_at "put", ?_⟩
        refine gwl_cons ?_
        refine gws_for owns_gcx hc ?_
        refine wi_list ?_
        refine x_listF hc (by walk_at "mb") (by walk_at "mb") G0 hr (by omega) ?_
        walk_at "w"
        refine ⟨by rw [show (((n + 1 : Nat) : Int) - 1) = ((n : Nat) : Int) by omega], fun ys2 H3 e3 hp3 r hr3 => ?_⟩
        have hr4 : upd H3 r (.lst ys2) r = some (.lst ys2) := upd_same
        have e4 : Same H2 (upd H3 r (.lst ys2)) := e3.trans (same_new hr3)
        have hp4 := hp3.same (same_new (o := .lst ys2) hr3)
        generalize upd H3 r (.lst ys2) = H4 at *
        have hln := hp4.len
        have hys4 := (hys.same hS).same e4
        have hD4 := e4 _ _ hDo
        have hol := outP_len (show n ≤ 6 by omega) t
        refine ⟨r, ys2, rfl, .inl (.inl hr4), _, _, wlk_list (.inl (.inl hr4)), fun i ys' σ' H' => Same H4 H' ∧ (∃ o4 o5, σ' = [some (.int (((n + 1 : Nat)) : Int)), some (.int ((t : Nat) : Int)), some (.ref D), o4, o5]) ∧ PrAt H' ys' (outP n t ++ ((prm n).take i).map (stepP n t)), ⟨Same.refl _, ⟨_, _, rfl⟩, by rw [List.take_zero, List.map_nil, List.append_nil]; exact hys4⟩, fun i ys' σ' H' h => h.1, fun i ys' σ' H5 hi ⟨e5, ⟨o4', o5', hσ⟩, hys'⟩ => ?_, fun ys' σ' H5 ⟨e5, ⟨o4', o5', hσ⟩, hys'⟩ => ?_⟩
        · subst hσ
          rw [hln] at hi
          obtain ⟨p, ep, hp5⟩ := hp4.get hi
          have htk : (prm n).take (i + 1) = (prm n).take i ++ [(prm n).getD i []] := takeN hi
          have hmem : (prm n).getD i [] ∈ prm n := by
            rw [List.getD_eq_getElem?_getD, List.getElem?_eq_getElem hi]
            exact List.getElem_mem _
          obtain ⟨hl1, hl2⟩ := prm_lt n _ hmem
          generalize (prm n).getD i [] = l at *
          have hyl := hys'.len
          rw [List.length_append, List.length_map, List.length_take] at hyl
          rw [ep]
          refine wg_name hc (by walk_at "put") (by walk_at "mb") ?_
          refine gwl_cons ?_
          refine gws_yield (by omega) ?_ (by kernel_rfl) (by with_unfolding_all rfl)
          refine w_tup ?_
          walk_at "w"
          refine wa_star ?_
          refine w_lc hc (own := bO_all_orders_1) (by kernel_rfl) (fun q acc => acc = ((l.take q).map fun i => (oth (n + 1) t).getD i 0).map fun (j : Nat) => V.int ((j : Nat) : Int)) ?_
          refine wi_tup ?_
          walk_at "w"
          refine ⟨p, _, rfl, .inl (.inl (e5 _ _ hp5)), _, _, wlk_tup (.inl (.inl (e5 _ _ hp5))), by unfold intsN; rw [List.length_map]; omega, rfl, fun q acc H' hq hl hP hS5 => ?_, fun acc D6 H6 hl hP hD6 hS6 hDa6 => ?_⟩
          · unfold intsN at hq
            rw [List.length_map] at hq
            rw [ints_getD hq]
            intro X1 b1
            have c1 := nm_blk (L' := bL_all_orders_1) (S' := bS_all_orders_1) (G' := bG_all_orders_1) (B' := bB_all_orders_1) b1 hc (by kernel_rfl) (fun x hx => nomatch hx)
            simp only [wipe, List.map_cons, List.map_nil, List.set_cons_succ, List.set_cons_zero]
            refine wg_name c1 (by walk_at "put") (by walk_at "mb") ?_
            refine ⟨rfl, rfl, ?_⟩
            intro X2 b2
            refine wts_nil ?_
            refine ⟨Same.refl _, ite_t ?_⟩
            intro X3 b3
            have c3 := nm_blk (L' := bL_all_orders_1) (S' := bS_all_orders_1) (G' := bG_all_orders_1) (B' := bB_all_orders_1) b3 hc (by kernel_rfl) (fun x hx => nomatch hx)
            obtain ⟨_, _, _, _, _, rfl⟩ := b3
            walk_at "w"
            have hlq : l.getD q 0 < n := by
              rw [List.getD_eq_getElem?_getD, List.getElem?_eq_getElem hq]
              exact hl2 _ (List.getElem_mem _)
            refine ix_l (.inl (.inl ((e5.trans hS5) _ _ hD4))) (ints_at (by rw [oth_len ht]; exact hlq)) ?_
            refine ⟨Same.refl _, ?_⟩
            rw [hP, takeN (d := 0) hq, List.map_append, List.map_append]; rfl
          · have hln6 : (intsN l).length = l.length := by unfold intsN; rw [List.length_map]
            rw [hln6, List.take_length] at hP
            have hq6 : H6 D6 = some (.lst (intsN (l.map fun i => (oth (n + 1) t).getD i 0))) := by rw [hDa6, hP]; rfl
            refine ⟨D6, _, rfl, .inr (.inl (.inl hq6)), ?_⟩
            walk_at "w"
            refine ⟨?_, fun p7 H7 hp7 e7 hp7' => ?_⟩
            · rw [List.length_cons, List.length_append]
              unfold intsN
              rw [List.length_map, List.length_map, List.length_nil]
              omega
            refine gwl_nil ?_
            refine ⟨e5.trans (hS6.trans e7), ⟨_, _, rfl⟩, ?_⟩
            rw [htk, List.map_append, ← List.append_assoc]
            refine (hys'.same (hS6.trans e7)).snoc ?_
            rw [hp7', List.append_nil]; rfl
        · refine gwl_nil ?_
          have hfull : (prm n).take ys2.length = prm n := by rw [hln, List.take_length]
          rw [hfull, ← outP_s] at hys'
          exact ⟨e1.trans (hS.trans (e4.trans e5)), ⟨_, _, _, _, hσ⟩, hys'⟩
    · refine gwl_nil ?_
      refine gwl_nil ?_
      exact q ys H1 e1 hys
theorem gmade_mono {k k' : Nat} {outer : List Env} {H : Hp} {s s' : Shared} {ex : List Addr} {Q : List V → Hp → Prop} {E : XK} {u : Value} (hk : k ≤ k') (h : GMade P w k outer H s ex Q E u s') : GMade P w k' outer H s ex Q E u s' := by
  obtain ⟨a, g, c, h1, h2, h3, h4, h5, h6, h7, h8, h9, h10⟩ := h
  exact ⟨a, g, c, h1, h2, h3, h4, h5, h6, h7, h8, h9, fun A S s2 hr => h10 A S s2 (hr.mono hk)⟩
theorem gfn_mono {k k' : Nat} {ps : List Str} {sp : SpG} (hk : k ≤ k') (h : GFn P w K mg base k f fd ps sp) : GFn P w K mg base k' f fd ps sp :=
  ⟨h.len, fun A outer s H args us vs Q E hr e0 hb r hsp => codeAny_mono (h.run A outer s H args us vs Q E (hr.mono hk) e0 hb r hsp) fun r s' z => by
    cases r with
    | error e => exact z
    | ok fl =>
      cases fl with
      | ret u => exact gmade_mono hk z
      | next => exact z
      | brk => exact z
      | cont => exact z⟩
def spAOs : SpG := fun vs H Q E => ∃ n, n ≤ 4 ∧ spAO n vs H Q E
theorem ok_all_orders (F : FunD K "all_orders" "all_orders" (defArgs s_all_orders) (defBody s_all_orders) (defScope s_all_orders) [] [] f fd) (hb : ∀ x ∈ BB, mg x = none) (gb : mg "all_orders" = some (.ref f)) : GFn P w K mg base 17 f fd ["size"] spAOs := by
  have up : ∀ {k n : Nat}, GFn P w K mg base k f fd ["size"] (spAO n) → GFt P w K mg base "all_orders" k (spAO n) := fun h => ⟨⟨f, fd, _, gb, F.kp, h, F.bindsN fun _ _ _ _ _ _ us hl => match us, hl with | [_], _ => rfl⟩⟩
  have g0 := ao0 (P := P) (w := w) (base := base) F hb
  have g1 := aoS F hb (by decide) (up g0)
  have g2 := aoS F hb (by decide) (up g1)
  have g3 := aoS F hb (by decide) (up g2)
  have g4 := aoS F hb (by decide) (up g3)
  refine ⟨fun vs H Q E ⟨n, _, h, _⟩ => by rw [h]; rfl, fun A outer s H args us vs Q E hr e0 hb2 r ⟨n, hn, h⟩ => ?_⟩
  · rcases (by omega : n = 0 ∨ n = 1 ∨ n = 2 ∨ n = 3 ∨ n = 4) with rfl | rfl | rfl | rfl | rfl
    · exact (gfn_mono (by decide) g0).run A outer s H args us vs Q E hr e0 hb2 r h
    · exact (gfn_mono (by decide) g1).run A outer s H args us vs Q E hr e0 hb2 r h
    · exact (gfn_mono (by decide) g2).run A outer s H args us vs Q E hr e0 hb2 r h
    · exact (gfn_mono (by decide) g3).run A outer s H args us vs Q E hr e0 hb2 r h
    · exact g4.run A outer s H args us vs Q E hr e0 hb2 r h

/-! the orders that leave different patterns, in the order in which they are found -/
def addF (pt : List Nat → List Bool) (acc : List (List Nat)) (o : List Nat) : List (List Nat) := if acc.any (fun a => decide (pt a = pt o)) then acc else acc ++ [o]
def fndL (pt : List Nat → List Bool) (os : List (List Nat)) : List (List Nat) := os.foldl (addF pt) []
theorem fndL_s {pt : List Nat → List Bool} {os : List (List Nat)} {i : Nat} (h : i < os.length) : fndL pt (os.take (i + 1)) = addF pt (fndL pt (os.take i)) (os.getD i []) := by
  unfold fndL
  rw [takeN (d := []) h, List.foldl_append]; rfl
theorem fndL_len {pt : List Nat → List Bool} (os : List (List Nat)) : ∀ i, (fndL pt (os.take i)).length ≤ i
  | 0 => Nat.le_refl _
  | i + 1 => by
    have ih := fndL_len (pt := pt) os i
    by_cases h : i < os.length
    · rw [fndL_s h]
      unfold addF
      split
      · omega
      · rw [List.length_append, List.length_singleton]; omega
    · rw [List.take_of_length_le (by omega)]
      rw [List.take_of_length_le (by omega)] at ih
      omega
/-- the dict of the patterns found -/
def DkF (H : Hp) (pt : List Nat → List Bool) (kvs : List (Key × V)) (acc : List (List Nat)) : Prop := ∃ Ts : List Addr, Ts.length = acc.length ∧ kvs = (List.range acc.length).map (fun i => ((Sum.inr (sOf (pt (acc.getD i []))) : Key), V.ref (Ts.getD i 0))) ∧ ∀ i, i < acc.length → H (Ts.getD i 0) = some (.tup (intsN (acc.getD i [])))
theorem DkF.nil {H : Hp} {pt : List Nat → List Bool} : DkF H pt [] [] := ⟨[], rfl, rfl, fun i h => absurd h (Nat.not_lt_zero _)⟩
theorem DkF.tup {H H' : Hp} {pt : List Nat → List Bool} {kvs : List (Key × V)} {acc : List (List Nat)} (h : DkF H pt kvs acc) (e : ∀ b xs, H b = some (.tup xs) → H' b = some (.tup xs)) : DkF H' pt kvs acc := by
  obtain ⟨Ts, h1, h2, h3⟩ := h
  exact ⟨Ts, h1, h2, fun i hi => e _ _ (h3 i hi)⟩
theorem DkF.len {H : Hp} {pt : List Nat → List Bool} {kvs : List (Key × V)} {acc : List (List Nat)} (h : DkF H pt kvs acc) : kvs.length = acc.length := by
  obtain ⟨Ts, _, h2, _⟩ := h
  rw [h2, List.length_map, List.length_range]
theorem DkF.has {H : Hp} {pt : List Nat → List Bool} {kvs : List (Key × V)} {acc : List (List Nat)} (h : DkF H pt kvs acc) (o : List Nat) : (valV kvs (.inr (sOf (pt o)))).isSome = acc.any (fun a => decide (pt a = pt o)) := by
  obtain ⟨Ts, _, h2, _⟩ := h
  rw [← valV_any, h2, List.any_map, Bool.eq_iff_iff, List.any_eq_true, List.any_eq_true]
  constructor
  · rintro ⟨i, hi, e⟩
    have hi := List.mem_range.mp hi
    have e := of_decide_eq_true e
    have e : (Sum.inr (sOf (pt (acc.getD i []))) : Key) = Sum.inr (sOf (pt o)) := e
    injection e with e
    refine ⟨acc.getD i [], ?_, decide_eq_true (sOf_inj e)⟩
    rw [List.getD_eq_getElem?_getD, List.getElem?_eq_getElem hi]
    exact List.getElem_mem _
  · rintro ⟨a, ha, e⟩
    obtain ⟨i, hi, rfl⟩ := List.getElem_of_mem ha
    refine ⟨i, List.mem_range.mpr hi, decide_eq_true ?_⟩
    show (Sum.inr (sOf (pt (acc.getD i []))) : Key) = Sum.inr (sOf (pt o))
    rw [List.getD_eq_getElem?_getD, List.getElem?_eq_getElem hi]
    show Sum.inr (sOf (pt acc[i])) = _
    rw [of_decide_eq_true e]
theorem DkF.add {H : Hp} {pt : List Nat → List Bool} {kvs : List (Key × V)} {acc : List (List Nat)} {o : List Nat} {T : Addr} (h : DkF H pt kvs acc) (hn : valV kvs (.inr (sOf (pt o))) = none) (hT : H T = some (.tup (intsN o))) : DkF H pt (putK kvs (.inr (sOf (pt o))) (.ref T)) (addF pt acc o) := by
  have hh := h.has o
  rw [hn] at hh
  have e : addF pt acc o = acc ++ [o] := by unfold addF; rw [← hh]; rfl
  rw [putK_new _ hn, e]
  obtain ⟨Ts, h1, h2, h3⟩ := h
  have ga : ∀ {α : Type} (l : List α) (x d : α) (i : Nat), (l ++ [x]).getD i d = if i < l.length then l.getD i d else if i = l.length then x else d := fun l x d i => by
    rw [List.getD_eq_getElem?_getD]
    by_cases h1 : i < l.length
    · rw [if_pos h1, List.getElem?_append_left h1, List.getD_eq_getElem?_getD]
    · rw [if_neg h1, List.getElem?_append_right (by omega)]
      by_cases h2 : i = l.length
      · rw [if_pos h2, h2]; simp
      · rw [if_neg h2, List.getElem?_eq_none (by simp; omega)]; rfl
  refine ⟨Ts ++ [T], by rw [List.length_append, List.length_append, h1]; rfl, ?_, fun i hi => ?_⟩
  · rw [List.length_append, List.length_singleton, List.range_succ, List.map_append, h2]
    congr 1
    · refine List.map_congr_left fun i hi => ?_
      have hi := List.mem_range.mp hi
      rw [ga, ga, if_pos hi, if_pos (by omega)]
    · simp only [List.map_cons, List.map_nil]
      rw [ga, ga, if_neg (Nat.lt_irrefl _), if_pos rfl, if_neg (by omega), if_pos h1.symm]
  · rw [List.length_append, List.length_singleton] at hi
    rw [ga, ga]
    by_cases hl : i < acc.length
    · rw [if_pos hl, if_pos (by omega)]; exact h3 i hl
    · have : i = acc.length := by omega
      rw [if_neg hl, if_pos this, if_neg (by omega), if_pos (by omega)]; exact hT

theorem lc_ofTG {X : Cx} {N L S G B : List Str} {tg elt iter : Expr} {ifs : List Expr} {scope : Scope} {own : List (Str × Nat)} {σ : L2.St} {H : Hp} {Q : VK} (c : Nm X N L S G B) (P : Nat → List V → Hp → Prop)
    (h : WI X tg iter σ H fun J H1 => ∃ n it, WlkT J n it H1 ∧ n < sizeLine ∧ (∀ D, H1 D = none → P 0 [] (upd H1 D (.lst []))) ∧ (∀ i acc acc' H' D, i < n → H1 D = none → Same H1 H' → H' D = some (.lst acc') → P i acc' H' → P (i + 1) acc H' → P (i + 1) acc (upd H' D (.lst acc))) ∧
      (∀ i acc H0 H' T, i < n → acc.length ≤ i → P i acc H0 → Same H1 H0 → Same H0 H' → H' T = some (.tup (it i)) → WGb X scope tg (.ref T) (wipe σ (own.map (·.2))) H' fun σ2 H2 => H2 = H' ∧ wipe σ2 (own.map (·.2)) = wipe σ (own.map (·.2)) ∧ WTb X scope ifs σ2 H2 fun k H3 => Same H2 H3 ∧
        if k = true then WEb X scope elt σ2 H3 fun y H4 => Same H3 H4 ∧ P i acc H4 ∧ P (i + 1) (acc ++ [y]) H4 else P (i + 1) acc H3) ∧
      ∀ acc D H', acc.length ≤ n → P n acc H' → H1 D = none → Same H1 H' → H' D = some (.lst acc) → Q (.ref D) H') :
    tLc (WI X tg iter) (WGb X scope tg) (WTb X scope ifs) (WEb X scope elt) (own.map (·.2)) σ H Q := by
  refine ⟨fun pins s I => thn (h.run pins s I) fun v s1 h1 => thn h1 fun itv s2 ⟨it, fp, tn, J, H1, e, I', T, t0, hf, n, itm, W, hz, p0, hfr, hst, hd⟩ => ⟨it, fp, tn, J, H1, e, I', T, t0, hf, fun D hD => ?_⟩⟩
  refine ⟨fun i m H' => m = n - i ∧ i ≤ n ∧ ∃ acc, acc.length ≤ i ∧ P i acc H' ∧ Same H1 H' ∧ H' D = some (.lst acc), ⟨n, by simp, Nat.zero_le _, [], Nat.le_refl _, p0 D hD, same_new hD, upd_same⟩, ?_⟩
  rintro i m H' ⟨rfl, hi, acc, hl, hp, hsm, hDa⟩
  by_cases hlt : i < n
  · refine .inr ⟨W.go i H' hlt hsm, fun H2 => i + 1 ≤ n ∧ ∃ acc, acc.length ≤ i + 1 ∧ P (i + 1) acc H2 ∧ Same H1 H2 ∧ H2 D = some (.lst acc), fun H2 q => ⟨n - (i + 1), by omega, rfl, q⟩, fun x H3 y => ?_⟩
    obtain ⟨T, rfl, hT, rfl⟩ := W.yld i H' x H3 hlt hsm y
    have eT := same_new (o := .tup (itm i)) hT
    intro X' bX
    refine ⟨fun pins' s' u I' r => thn ((hst i acc H' _ T hlt hl hp hsm eT upd_same X' bX).run pins' s' u I' r) fun _ s2 ⟨σ2, H2, I2, e2, ew, q2⟩ => ⟨σ2, H2, I2, ew, fun X2 b2 => ?_⟩⟩
    subst e2
    refine ⟨fun pins3 s3 I3 => thn ((q2 X2 b2).run pins3 s3 I3) fun k s4 ⟨H4, I4, e4, q4⟩ => ⟨H4, I4, ?_⟩⟩
    cases k with
    | false =>
      rw [if_neg (by decide)] at q4 ⊢
      exact ⟨hlt, acc, Nat.le_succ_of_le hl, q4, hsm.trans (eT.trans e4), e4 _ _ (eT _ _ hDa)⟩
    | true =>
      rw [if_pos rfl] at q4 ⊢
      intro X5 b5
      refine WE.imp (q4 X5 b5) fun y H5 ⟨e5, q50, q5⟩ => ⟨acc, e5 _ _ (e4 _ _ (eT _ _ hDa)), by omega, hlt, acc ++ [y], by rw [List.length_append]; show acc.length + 1 ≤ i + 1; omega, hfr i _ _ _ _ hlt hD (hsm.trans (eT.trans (e4.trans e5))) (e5 _ _ (e4 _ _ (eT _ _ hDa))) q50 q5, same_mut (hsm.trans (eT.trans (e4.trans e5))) hD, upd_same⟩
  · have e : i = n := by omega
    subst e
    exact .inl ⟨W.stop _ _ (Nat.le_refl _) hsm, hd acc D H' hl hp hD hsm hDa⟩
theorem w_lcTG {X : Cx} {N L S G B : List Str} {tg elt iter : Expr} {ifs : List Expr} {scope : Scope} {own : List (Str × Nat)} {σ : L2.St} {H : Hp} {Q : VK} {pos : Pos} (c : Nm X N L S G B) (ok : blkC N X.env.scope scope own = true) (P : Nat → List V → Hp → Prop)
    (h : WI X tg iter σ H fun J H1 => ∃ n it, WlkT J n it H1 ∧ n < sizeLine ∧ (∀ D, H1 D = none → P 0 [] (upd H1 D (.lst []))) ∧ (∀ i acc acc' H' D, i < n → H1 D = none → Same H1 H' → H' D = some (.lst acc') → P i acc' H' → P (i + 1) acc H' → P (i + 1) acc (upd H' D (.lst acc))) ∧
      (∀ i acc H0 H' T, i < n → acc.length ≤ i → P i acc H0 → Same H1 H0 → Same H0 H' → H' T = some (.tup (it i)) → WGb X scope tg (.ref T) (wipe σ (own.map (·.2))) H' fun σ2 H2 => H2 = H' ∧ wipe σ2 (own.map (·.2)) = wipe σ (own.map (·.2)) ∧ WTb X scope ifs σ2 H2 fun k H3 => Same H2 H3 ∧
        if k = true then WEb X scope elt σ2 H3 fun y H4 => Same H3 H4 ∧ P i acc H4 ∧ P (i + 1) (acc ++ [y]) H4 else P (i + 1) acc H3) ∧
      ∀ acc D H', acc.length ≤ n → P n acc H' → H1 D = none → Same H1 H' → H' D = some (.lst acc) → Q (.ref D) H')
    (hs : ∀ x, foldedSetIterable iter X.env x = pure x := by intro _; with_unfolding_all rfl) : WE X (.ListComp elt [⟨tg, iter, ifs, 0⟩] scope pos) σ H Q := by
  have hN : X.N.Nodup := by rw [c.names]; exact c.nd
  have ok' : BlkOk X.N X.env.scope scope own := by rw [c.names]; exact blkOk_by ok
  have p := pe_lc (X := X) (pos := pos) (g := WGb X scope tg) (tt := WTb X scope ifs) (te := WEb X scope elt) c.calm hN (pi_w (X := X) (tg := tg) (iter := iter)) ok'
    (fun s H C cl fp => ⟨fun pins s1 σ1 H1 v u R I r q => (q _ ⟨s, H, C, cl, fp, rfl⟩).run pins s1 u I r⟩)
    (fun s H C cl fp => ⟨fun pins s1 σ1 H1 R I q => (q _ ⟨s, H, C, cl, fp, rfl⟩).run pins s1 I⟩)
    (fun s H C cl fp => ⟨fun pins s1 σ1 H1 R I q => (q _ ⟨s, H, C, cl, fp, rfl⟩).run pins s1 I⟩) hs
  exact p.w (lc_ofTG c P h)

def vInt : V → Int
  | .int i => i
  | _ => 0
def otk (H : Hp) : V → List Int
  | .ref x => match H x with
    | some (.tup (.ref T :: _)) => match H T with
      | some (.tup its) => its.map vInt
      | _ => []
    | _ => []
  | _ => []
def otz (H : Hp) : V → Str
  | .ref x => match H x with
    | some (.tup [_, .str z]) => z
    | _ => ""
  | _ => ""
def nI (o : List Nat) : List Int := o.map fun n => ((n : Nat) : Int)
theorem nI_v (o : List Nat) : (nI o).map V.int = intsN o := by unfold nI intsN; rw [List.map_map]; rfl
theorem nI_inj : ∀ {a b : List Nat}, nI a = nI b → a = b
  | [], [], _ => rfl
  | x :: a, y :: b, h => by
    unfold nI at h
    rw [List.map_cons, List.map_cons] at h
    injection h with h1 h2
    rw [show x = y by omega, nI_inj (show nI a = nI b from h2)]
  | [], y :: b, h => by cases h
  | x :: a, [], h => by cases h
theorem otk_at {H : Hp} {x T : Addr} {z : Str} {o : List Nat} (h1 : H x = some (.tup [.ref T, .str z])) (h2 : H T = some (.tup (intsN o))) : otk H (.ref x) = nI o := by
  unfold otk
  simp only [h1, h2]
  unfold intsN nI
  rw [List.map_map]; rfl
theorem otz_at {H : Hp} {x T : Addr} {z : Str} (h1 : H x = some (.tup [.ref T, .str z])) : otz H (.ref x) = z := by
  unfold otz
  simp only [h1]
def lxN (a b : List Nat) : Bool := HT.lexLt (nI a) (nI b)
theorem prm_asc : ∀ n, n ≤ 4 → (prm n).Pairwise fun a b => lxN a b = true := by
  have : ∀ n, n < 5 → (prm n).Pairwise fun a b => lxN a b = true := by decide +kernel
  exact fun n h => this n (by omega)
theorem fndL_sub' (pt : List Nat → List Bool) : ∀ (os acc : List (List Nat)), (os.foldl (addF pt) acc).Sublist (acc ++ os)
  | [], acc => by rw [List.append_nil]; exact List.Sublist.refl _
  | o :: os, acc => by
    rw [List.foldl_cons]
    refine (fndL_sub' pt os (addF pt acc o)).trans ?_
    rw [show acc ++ o :: os = (acc ++ [o]) ++ os by simp]
    refine List.Sublist.append_right ?_ _
    unfold addF
    split
    · exact List.sublist_append_left _ _
    · exact List.Sublist.refl _
theorem fndL_sub (pt : List Nat → List Bool) (os : List (List Nat)) : (fndL pt os).Sublist os := fndL_sub' pt os []
theorem fndL_asc (pt : List Nat → List Bool) {n : Nat} (h : n ≤ 4) : (fndL pt (prm n)).Pairwise fun a b => lxN a b = true := (prm_asc n h).sublist (fndL_sub pt _)
def prmS (ls : List (List Bool)) (o : List Nat) : List (List Bool) := o.map fun i => ls.getD i []
/-- what the rows of rounds in all orders leave -/
structure PtOk (ls : List (List Bool)) (n : Nat) (pt : List Nat → List Bool) : Prop where
  good : ∀ o ∈ prm n, Good (pt o)
  stg : ∀ o ∈ prm n, ∀ k, kp (pt o) k = Sv.stg (prmS ls o) n k
  lim : ∀ o ∈ prm n, LimAll n (prmS ls o)
def OrdAt (H : Hp) (p : Addr) (pt : List Nat → List Bool) (acc : List (List Nat)) : Prop := ∃ Ts : List Addr, H p = some (.lst (Ts.map V.ref)) ∧ Ts.length = acc.length ∧ ∀ i, i < acc.length → ∃ T, H (Ts.getD i 0) = some (.tup [.ref T, .str (sOf (pt (acc.getD i [])))]) ∧ H T = some (.tup (intsN (acc.getD i [])))
def spOrdT (P : Program) (w : World) (K : PySem.W.Frag) (mg : Str → Option Value) (base : Heap) : Sp := fun vs H Q _ => ∃ (t : Addr) (rs : List Addr) (ls : List (List Bool)) (pt : List Nat → List Bool), vs = [.ref t] ∧ H t = some (.tup (rs.map V.ref)) ∧ rs.length ≤ 4 ∧ RdAll P w K mg base H rs ls ∧ PtOk ls rs.length pt ∧ ∀ p H', Same H H' → OrdAt H' p pt (fndL pt (prm rs.length)) → Q (.ref p) H'
def spOrd (P : Program) (w : World) (K : PySem.W.Frag) (mg : Str → Option Value) (base : Heap) : Sp := fun vs H Q _ => ∃ (rs : List Addr) (ls : List (List Bool)) (pt : List Nat → List Bool), vs = rs.map V.ref ∧ rs.length ≤ 4 ∧ RdAll P w K mg base H rs ls ∧ PtOk ls rs.length pt ∧ ∀ p H', Same H H' → OrdAt H' p pt (fndL pt (prm rs.length)) → Q (.ref p) H'
theorem ok_orders (F : FunD K "orders" "orders" (defArgs s_orders) (defBody s_orders) (defScope s_orders) [] [] f fd) (hb : ∀ x ∈ BB, mg x = none) (MR : ∃ t, mg ("MOST_ROUNDS" : Str) = some (.int 6 t)) (RW : ClF K mg "Row" ["parts", "stages"]) (h1 : Fn P w K mg base "check_rounds" 2 (spChkR P w K mg base)) (hA : GFt P w K mg base "all_orders" 17 spAOs) (h8 : Mkr P w K mg base (cRow K) 8 (spRowMk P w K mg base)) (hS : RwP P w K mg base "sieve" (spRowSv K)) (SC : SvC K mg) (hPt : SvP P w K mg base "pattern" (spPat K)) : FnR P w K mg base (L2.CX P w) 21 f (spOrd P w K mg base) := by
  refine FnR.imp (sp := fun vs H Q E => ∃ ws rest, vs = ws ++ rest ∧ ws.length = 0 ∧ rest.length ≤ sizeLine ∧ ∀ p, H p = Option.none → spOrdT P w K mg base (ws ++ [V.ref p]) (upd H p (.tup rest)) Q E) ?_ fun vs H Q E ⟨rs, ls, pt, e, h1, h2, h3, q⟩ => ⟨[], rs.map V.ref, by rw [e]; rfl, rfl, by rw [sizeLine_eq, List.length_map]; omega, fun p hp => ⟨p, rs, ls, pt, rfl, upd_same, h1, h2.same (same_new hp), h3, fun p' H' e2 => q p' H' ((same_new hp).trans e2)⟩⟩
  refine fnr_star (ps := []) (pv := "rounds") F sc_orders (fun kV doc pm an cdv ct us rest hl => match us, rest, hl with | [], [], _ => rfl | [], _ :: _, _ => rfl) (fun x hx => hb x (by revert x; decide +kernel)) fun cd A outer s H vs Q E hr hc h => ?_
  obtain ⟨t, rs, ls, pt, rfl, ht, hl4, hrd, hpt, q⟩ := h
  obtain ⟨mu, MR⟩ := MR
  have hz : sizeLine = 16777216 := sizeLine_eq
  refine wl_start (σ' := [some (.ref t), none, none, none, none, none]) rfl (wl_cons ?_)
  walk_at "w"
  refine w_call hc (by walk_at "mb") h1 hr (by decide) passL ?_
  walk_at "w"
  refine ⟨t, rs, rfl, .inl (.inl ht), fun a ha => ?_, ?_⟩
  · obtain ⟨i, hi, rfl⟩ := List.getElem_of_mem ha
    have := hrd i hi
    rw [List.getD_eq_getElem?_getD, List.getElem?_eq_getElem hi] at this
    exact ⟨_, this⟩
  walk_at "w"
  refine ⟨_, .inr ⟨_, .inl (.inl ht), rfl⟩, ?_⟩
  refine w_gname (v := .int 6) hc (by walk_at "mb") MR ⟨_, rfl⟩ ?_
  walk_at "w"
  rw [List.length_map, decide_eq_false (show ¬ ((rs.length : Nat) : Int) > 6 by omega)]
  walk_at "w"
  refine w_dnew fun d H1 hd e1 hd1 => ?_
  refine ⟨_, by walk_at "put", ?_⟩
  walk_at "go"
  refine ws_forM owns_cx hc ?_
  refine wi_list ?_
  refine x_listF hc (by walk_at "mb") (by walk_at "mb") hA hr (by decide) ?_
  walk_at "w"
  refine ⟨_, .inr ⟨_, .inl (.inl (e1 _ _ ht)), rfl⟩, ?_⟩
  rw [List.length_map]
  walk_at "w"
  refine ⟨rs.length, hl4, rfl, fun ys H2 e2 hys r hr2 => ?_⟩
  have hr3 : upd H2 r (.lst ys) r = some (.lst ys) := upd_same
  have e3 : Same H1 (upd H2 r (.lst ys)) := e2.trans (same_new hr2)
  have hys3 := hys.same (same_new (o := .lst ys) hr2)
  have hrd0 : r ≠ d := fun z => by have := e2 _ _ hd1; rw [← z, hr2] at this; cases this
  generalize upd H2 r (.lst ys) = H3 at *
  have hln := hys3.len
  have hpl := prm_len rs.length (by omega)
  have ht3 : H3 t = some (.tup (rs.map V.ref)) := e3 _ _ (e1 _ _ ht)
  have hd3 : H3 d = some (.dK []) := e3 _ _ hd1
  have ntd : t ≠ d := fun z => by rw [← z, ht] at hd; cases hd
  refine ⟨r, ys, rfl, .inl (.inl hr3), _, _, upd (fun _ => none) r (.lst ys), wlk_list (.inl (.inl upd_same)), fun i σ' H' => ∃ (kvs : List (Key × V)) (o3 o4 o5 o6 : Option V), σ' = [some (.ref t), some (.ref d), o3, o4, o5, o6] ∧ Fr d H3 H' ∧ H' d = some (.dK kvs) ∧ DkF H' pt kvs (fndL pt ((prm rs.length).take i)), ⟨[], _, _, _, _, rfl, fun b o _ h => h, hd3, DkF.nil⟩, fun i σ' H' ⟨kvs, _, _, _, _, _, f, _⟩ b o hb => ?_, fun i σ' H4 hi ⟨kvs, o3, o4, o5, o6, hσ, f4, hd4, hk4⟩ => ?_, fun σ' H4 ⟨kvs, o3, o4, o5, o6, hσ, f4, hd4, hk4⟩ => ?_⟩
  · by_cases z : b = r
    · rw [z, upd_same] at hb
      injection hb with hb
      rw [← hb, z]
      exact f _ _ hrd0 hr3
    · rw [upd_ne z] at hb; cases hb
  · subst hσ
    rw [hln] at hi
    obtain ⟨T, eT, hT3⟩ := hys3.get hi
    have hmem : (prm rs.length).getD i [] ∈ prm rs.length := by
      rw [List.getD_eq_getElem?_getD, List.getElem?_eq_getElem hi]
      exact List.getElem_mem _
    have hstep := fndL_s (pt := pt) hi
    have hflen := fndL_len (pt := pt) (prm rs.length) i
    generalize (prm rs.length).getD i [] = o at *
    obtain ⟨ol1, ol2⟩ := prm_lt _ o hmem
    have nTd : T ≠ d := fun z => by rw [← z, hT3] at hd3; cases hd3
    have hT4 := f4 _ _ nTd hT3
    have ht4 := f4 _ _ ntd ht3
    rw [eT]
    refine wg_name hc (by walk_at "put") (by walk_at "mb") ?_
    walk_at "go"
    refine ws_setLc hc (own := bO_orders_0) (by kernel_rfl) (fun q acc => acc = (o.take q).map fun j => V.ref (rs.getD j 0)) ?_ (by kernel_rfl) (by kernel_rfl) (iy := ⟨3, rfl⟩)
    refine wi_tup ?_
    walk_at "w"
    refine ⟨T, _, rfl, .inl (.inl hT4), _, _, wlk_tup (.inl (.inl hT4)), by unfold intsN; rw [List.length_map]; omega, rfl, fun q acc H' hq hl hP hS5 => ?_, fun acc D H5 hl hP hD hS5 hDa => ?_⟩
    · unfold intsN at hq
      rw [List.length_map] at hq
      rw [ints_getD hq]
      intro X1 b1
      have c1 := nm_blk (L' := bL_orders_0) (S' := bS_orders_0) (G' := bG_orders_0) (B' := bB_orders_0) b1 hc (by kernel_rfl) (fun x hx => nomatch hx)
      simp only [wipe, List.map_cons, List.map_nil, List.set_cons_succ, List.set_cons_zero]
      refine wg_name c1 (by walk_at "put") (by walk_at "mb") ?_
      refine ⟨rfl, rfl, ?_⟩
      intro X2 b2
      refine wts_nil ?_
      refine ⟨Same.refl _, ite_t ?_⟩
      intro X3 b3
      have c3 := nm_blk (L' := bL_orders_0) (S' := bS_orders_0) (G' := bG_orders_0) (B' := bB_orders_0) b3 hc (by kernel_rfl) (fun x hx => nomatch hx)
      obtain ⟨_, _, _, _, _, rfl⟩ := b3
      walk_at "w"
      have hlq : o.getD q 0 < rs.length := by
        rw [List.getD_eq_getElem?_getD, List.getElem?_eq_getElem hq]
        exact ol2 _ (List.getElem_mem _)
      have hat : atI (rs.map V.ref) ((o.getD q 0 : Nat) : Int) = some (V.ref (rs.getD (o.getD q 0) 0)) := by
        unfold atI
        rw [show ixN (rs.map V.ref).length ((o.getD q 0 : Nat) : Int) = some (o.getD q 0) by
          unfold ixN
          rw [List.length_map, if_pos (by omega), if_pos (by omega)]; simp]
        show (rs.map V.ref)[o.getD q 0]? = _
        rw [List.getElem?_map, List.getElem?_eq_getElem hlq, List.getD_eq_getElem?_getD (l := rs), List.getElem?_eq_getElem hlq]; rfl
      refine ix_t (.inl (.inl (hS5 _ _ ht4))) hat ?_
      refine ⟨Same.refl _, ?_⟩
      rw [hP, takeN (d := 0) hq, List.map_append]; rfl
    · have hln6 : (intsN o).length = o.length := by unfold intsN; rw [List.length_map]
      rw [hln6, List.take_length] at hP
      have hq6 : H5 D = some (.lst ((o.map fun j => rs.getD j 0).map V.ref)) := by rw [hDa, hP, List.map_map]; rfl
      refine ⟨_, by walk_at "put", ?_⟩
      walk_at "go"
      refine ws_expr ?_
      refine w_setd ?_
      walk_at "w"
      refine ⟨.inl ⟨kvs, .inl (hS5 _ _ hd4)⟩, ?_⟩
      refine w_attr ?_
      refine w_attr ?_
      refine w_makeS hc (by walk_at "mb") RW.g h8 hr (by decide) passL ?_
      walk_at "w"
      refine ⟨D, _, rfl, .inr (.inl (.inl hq6)), ?_⟩
      walk_at "w"
      have oth : Oth H3 d := ⟨fun C dx fs z => (by rw [hd3] at z; cases z), fun xs z => (by rw [hd3] at z; cases z)⟩
      have gd : ∀ {α : Type} (g : Nat → α) (dd : α) {q : Nat}, q < o.length → (o.map g).getD q dd = g (o.getD q 0) := fun g dd q hq => by
        rw [List.getD_eq_getElem?_getD, List.getElem?_map, List.getElem?_eq_getElem hq, List.getD_eq_getElem?_getD, List.getElem?_eq_getElem hq]; rfl
      have hrdo : ∀ q, q < (o.map fun j => rs.getD j 0).length → RdAt P w K mg base H5 ((o.map fun j => rs.getD j 0).getD q 0) ((prmS ls o).getD q []) := fun q hq => by
        rw [List.length_map] at hq
        rw [gd (fun j => rs.getD j 0) 0 hq]
        unfold prmS
        rw [gd (fun j => ls.getD j []) [] hq]
        have hlq : o.getD q 0 < rs.length := by
          rw [List.getD_eq_getElem?_getD, List.getElem?_eq_getElem hq]
          exact ol2 _ (List.getElem_mem _)
        exact (((hrd _ hlq).same (e1.trans e3)).frame f4 oth).same hS5
      refine made_rw (by rw [List.length_map]; omega) hrdo (by rw [List.length_map, ol1]; exact hpt.lim o hmem) fun a H6 e6 hrow => ?_
      obtain ⟨d1, t1, p1, qs, ms, r1, _⟩ := id hrow
      obtain ⟨pp, gg, hp, FF⟩ := hS.ex
      refine a_prop (E := E0) RW.cls hp FF (hr.mono (by decide)) r1 ⟨a, _, _, rfl, hrow, fun sp m hs hk => ?_⟩
      rw [List.length_map, ol1] at hk
      obtain rfl : m = pt o := hs.1.uniq (hpt.good o hmem) fun k => by rw [hk k, hpt.stg o hmem k]
      refine a_svp SC hPt hr (by decide) hs ⟨sp, _, rfl, hs, ?_⟩
      walk_at "w"
      have e46 := hS5.trans e6
      have hk6 : DkF H6 pt kvs (fndL pt ((prm rs.length).take i)) := hk4.tup fun b xs z => e46 _ _ z
      have hhas := hk6.has o
      have hkl := hk6.len
      refine ⟨kvs, .inr (sOf (pt o)), e46 _ _ hd4, rfl, by omega, fun v hv => ?_, fun hnone => ?_⟩
      · rw [hv] at hhas
        refine wl_nil ?_
        refine ⟨kvs, _, _, _, _, rfl, f4.trans (Fr.of e46), e46 _ _ hd4, ?_⟩
        rw [hstep]
        unfold addF
        rw [← hhas]
        exact hk6
      · refine wl_nil ?_
        refine ⟨_, _, _, _, _, rfl, (f4.trans (Fr.of e46)).trans Fr.upd, upd_same, ?_⟩
        rw [hstep]
        refine (hk6.add hnone (e46 _ _ hT4)).tup fun b xs z => ?_
        rw [upd_ne (fun k => by rw [k, e46 _ _ hd4] at z; cases z)]; exact z
  · subst hσ
    rw [hln, List.take_length] at hk4
    have hkl := hk4.len
    obtain ⟨Ts, t1, t2, t3⟩ := hk4
    have hasc := fndL_asc pt hl4
    have hflen := fndL_len (pt := pt) (prm rs.length) (prm rs.length).length
    rw [List.take_length] at hflen
    generalize fndL pt (prm rs.length) = F at *
    have hs04 : Same H H4 := fun b o h => f4 _ _ (fun z => by rw [z] at h; rw [hd] at h; cases h) (e3 _ _ (e1 _ _ h))
    have nTd : ∀ i, i < F.length → Ts.getD i 0 ≠ d := fun i hi z => by
      have := t3 i hi
      rw [z, hd4] at this; cases this
    refine wl_cons ?_
    refine ws_ret ?_
    refine x_sortedOT hc (by walk_at "mb") hr.units ?_
    refine w_lockD hd4 fun od => ?_
    refine w_lcTG hc (own := bO_orders_1) (by kernel_rfl) (fun i acc H' => ∃ Xs : List Addr, acc = Xs.map V.ref ∧ Xs.length = i ∧ ∀ j, j < i → H' (Xs.getD j 0) = some (.tup [.ref (Ts.getD j 0), .str (sOf (pt (F.getD j [])))])) ?_
    refine wi_items ?_
    walk_at "w"
    refine ⟨d, od, kvs, rfl, upd_same, _, _, wlk_items upd_same, by omega, fun D hD => ⟨[], rfl, rfl, fun j hj => absurd hj (Nat.not_lt_zero _)⟩, fun i acc acc' H' D hi hD hS hDa ⟨Xs0, _, _, _⟩ ⟨Xs, x1, x2, x3⟩ => ⟨Xs, x1, x2, fun j hj => ?_⟩, fun i acc H0 H' T hi hla hP hS0 hS hT => ?_, fun acc D H' hla hP hD hS hDa => ?_⟩
    · rw [upd_ne (fun z => by have := x3 j hj; rw [z, hDa] at this; cases this)]
      exact x3 j hj
    · rw [hkl] at hi
      have eg : kvs.getD i (.inl 0, .non) = ((Sum.inr (sOf (pt (F.getD i []))) : Key), V.ref (Ts.getD i 0)) := by
        rw [t2, List.getD_eq_getElem?_getD, List.getElem?_map, List.getElem?_eq_getElem (by rw [List.length_range]; exact hi)]
        simp
      rw [eg] at hT
      have hT : H' T = some (.tup [.str (sOf (pt (F.getD i []))), .ref (Ts.getD i 0)]) := hT
      intro X1 b1
      have c1 := nm_blk (L' := bL_orders_1) (S' := bS_orders_1) (G' := bG_orders_1) (B' := bB_orders_1) b1 hc (by kernel_rfl) (fun x hx => nomatch hx)
      simp only [wipe, List.map_cons, List.map_nil, List.set_cons_succ, List.set_cons_zero]
      refine wg_tup c1 (.inl (.inl hT)) ?_
      walk_at "w"
      refine ⟨rfl, rfl, ?_⟩
      intro X2 b2
      refine wts_nil ?_
      refine ⟨Same.refl _, ite_t ?_⟩
      intro X3 b3
      have c3 := nm_blk (L' := bL_orders_1) (S' := bS_orders_1) (G' := bG_orders_1) (B' := bB_orders_1) b3 hc (by kernel_rfl) (fun x hx => nomatch hx)
      obtain ⟨_, _, _, _, _, rfl⟩ := b3
      walk_at "w"
      refine ⟨(by show 2 ≤ sizeLine; omega), fun p H5 hp e5 hp5 => ?_⟩
      obtain ⟨Xs, x1, x2, x3⟩ := hP
      refine ⟨e5, ⟨Xs, x1, x2, fun j hj => e5 _ _ (hS _ _ (x3 j hj))⟩, Xs ++ [p], by rw [List.map_append, x1]; rfl, by rw [List.length_append, x2]; rfl, fun j hj => ?_⟩
      by_cases hj2 : j < i
      · rw [List.getD_eq_getElem?_getD, List.getElem?_append_left (by omega), ← List.getD_eq_getElem?_getD]
        exact e5 _ _ (hS _ _ (x3 j hj2))
      · have : j = i := by omega
        subst this
        rw [List.getD_eq_getElem?_getD, List.getElem?_append_right (by omega), x2, Nat.sub_self]
        exact hp5
    · obtain ⟨Xs, x1, x2, x3⟩ := hP
      rw [hkl] at x2 x3
      have hd5 := hS _ _ (upd_same (H := H4) (a := d) (o := .frz od (.dK kvs)))
      have hb5 := lock_back hd4 hS
      have nX : ∀ j, j < F.length → Xs.getD j 0 ≠ d := fun j hj z => by
        have := x3 j hj
        rw [z, hd5] at this; cases this
      have nD : D ≠ d := fun z => by rw [z, hd5] at hDa; cases hDa
      have y3 : ∀ j, j < F.length → upd H' d (.dK kvs) (Xs.getD j 0) = some (.tup [.ref (Ts.getD j 0), .str (sOf (pt (F.getD j [])))]) := fun j hj => by rw [upd_ne (nX j hj)]; exact x3 j hj
      have z3 : ∀ j, j < F.length → upd H' d (.dK kvs) (Ts.getD j 0) = some (.tup (intsN (F.getD j []))) := fun j hj => hb5 _ _ (t3 j hj)
      have hDl : upd H' d (.dK kvs) D = some (.lst (Xs.map V.ref)) := by rw [upd_ne nD, hDa, x1]
      refine ⟨hd5, ?_⟩
      generalize upd H' d (.dK kvs) = H6 at *
      have gX : ∀ {j : Nat} (h : j < Xs.length), Xs[j] = Xs.getD j 0 := fun h => by rw [List.getD_eq_getElem?_getD, List.getElem?_eq_getElem h]; rfl
      have gF : ∀ {j : Nat} (h : j < F.length), F[j] = F.getD j [] := fun h => by rw [List.getD_eq_getElem?_getD, List.getElem?_eq_getElem h]; rfl
      refine ⟨D, Xs.map V.ref, otk H6, otz H6, rfl, .inl (.inl hDl), fun x hx => ?_, fun x hx y hy exy => ?_, ?_, fun p hp => ?_⟩
      · obtain ⟨X, hX, rfl⟩ := List.mem_map.mp hx
        obtain ⟨j, hj, rfl⟩ := List.getElem_of_mem hX
        rw [gX hj]
        have h1 := y3 j (by omega)
        have h2 := z3 j (by omega)
        exact ⟨_, _, rfl, by rw [otz_at h1]; exact h1, by rw [otk_at h1 h2, nI_v]; exact h2⟩
      · obtain ⟨X, hX, rfl⟩ := List.mem_map.mp hx
        obtain ⟨Y, hY, rfl⟩ := List.mem_map.mp hy
        obtain ⟨j, hj, rfl⟩ := List.getElem_of_mem hX
        obtain ⟨k, hk, rfl⟩ := List.getElem_of_mem hY
        rw [gX hj, gX hk] at *
        have h1 := y3 j (by omega)
        have h2 := z3 j (by omega)
        have h3 := y3 k (by omega)
        have h4 := z3 k (by omega)
        rw [otk_at h1 h2, otk_at h3 h4] at exy
        rw [otz_at h1, otz_at h3, nI_inj exy]
      · rw [List.pairwise_map, List.pairwise_iff_getElem]
        rw [List.pairwise_iff_getElem] at hasc
        intro j k hj hk hjk
        have h1 := y3 j (by omega)
        have h2 := z3 j (by omega)
        have h3 := y3 k (by omega)
        have h4 := z3 k (by omega)
        rw [gX hj, gX hk, otk_at h1 h2, otk_at h3 h4]
        have := hasc j k (by omega) (by omega) hjk
        rw [gF, gF] at this
        exact this
      · refine q p _ ((hs04.trans hb5).trans (same_new hp)) ⟨Xs, upd_same, by omega, fun j hj => ⟨Ts.getD j 0, ?_, ?_⟩⟩
        · exact same_new hp _ _ (y3 j hj)
        · exact same_new hp _ _ (z3 j hj)

/-! rounds in any order: what their rows leave, and how dense it is -/
theorem nbk {H H' : Hp} {b : Addr} (e : Same H H') (h : H' b = none) : H b = none := by
  cases z : H b with
  | none => rfl
  | some o => rw [e _ _ z] at h; cases h
theorem comp_big {l m : List Bool} {a b : Nat} (pl : Pat l) (pm : Pat m) (ha : l.length ≤ a) (hb : m.length ≤ b) (hab : a * b ≤ 10000) : CompOk l m := by
  have s1 := pl.size
  have s2 := ct_le (kp l) l.length
  have h1 : Nat.lcm (ct (kp l) l.length) m.length ≤ ct (kp l) l.length * m.length := Nat.le_of_dvd (Nat.mul_pos s1 pm.one) (Nat.lcm_dvd_mul _ _)
  have h2 : Nat.lcm (ct (kp l) l.length) m.length / ct (kp l) l.length ≤ m.length := by
    refine Nat.div_le_of_le_mul ?_
    exact h1
  have h3 : l.length * m.length ≤ a * b := Nat.mul_le_mul ha hb
  have h4 : ct (kp l) l.length * m.length ≤ a * b := Nat.mul_le_mul (by omega) hb
  have h5 : l.length * (Nat.lcm (ct (kp l) l.length) m.length / ct (kp l) l.length) ≤ l.length * m.length := Nat.mul_le_mul_left _ h2
  have h6 := ct_le (kp m) (Nat.lcm (ct (kp l) l.length) m.length)
  exact ⟨by omega, by omega⟩
def prodN (ls : List (List Bool)) : Nat → Nat
  | 0 => 1
  | i + 1 => prodN ls i * (ls.getD i []).length
theorem stg_prod {ls : List (List Bool)} : ∀ i, (∀ j, j < i → Pat (ls.getD j [])) → ∃ q, 0 < q ∧ q ≤ prodN ls i ∧ Per (stg ls i) q ∧ 0 < ct (stg ls i) q
  | 0, _ => ⟨1, by decide, Nat.le_refl _, fun _ => rfl, by simp [ct, stg]⟩
  | i + 1, h => by
    obtain ⟨q, h0, h1, h2, h3⟩ := stg_prod (ls := ls) i fun j hj => h j (by omega)
    have p := h i (by omega)
    obtain ⟨r, r0, r1, r2⟩ := cmp_small h2 (kp_per (ls.getD i [])) h3 p.one h1 (Nat.le_refl _)
    refine ⟨r, r0, r1, r2, ?_⟩
    obtain ⟨n, hn⟩ := cmp_ex h2 h3 (by obtain ⟨k, _, e⟩ := plus_kp p.plus; exact ⟨k, e⟩)
    have hm : cmp (stg ls i) (kp (ls.getD i [])) (n % r) = true := by rw [r2.mod]; exact hn
    exact ct_pos ⟨n % r, Nat.mod_lt _ r0, hm⟩
theorem prodN_pos {ls : List (List Bool)} : ∀ {n : Nat}, (∀ j, j < n → Pat (ls.getD j [])) → 0 < prodN ls n
  | 0, _ => Nat.one_pos
  | n + 1, h => Nat.mul_pos (prodN_pos fun j hj => h j (by omega)) (h n (by omega)).one
theorem prodN_mono {ls : List (List Bool)} {n : Nat} (h : ∀ j, j < n → Pat (ls.getD j [])) : ∀ {i : Nat}, i ≤ n → prodN ls i ≤ prodN ls n := fun {i} hi => by
  induction n with
  | zero => rw [show i = 0 by omega]; exact Nat.le_refl _
  | succ n ih =>
    by_cases e : i = n + 1
    · rw [e]; exact Nat.le_refl _
    · have h1 := ih (fun j hj => h j (by omega)) (show i ≤ n by omega)
      have h2 := (h n (by omega)).one
      exact Nat.le_trans h1 (Nat.le_mul_of_pos_right _ h2)
theorem prodN_le {ls ms : List (List Bool)} : ∀ {n : Nat}, (∀ j, j < n → (ms.getD j []).length ≤ (ls.getD j []).length) → prodN ms n ≤ prodN ls n
  | 0, _ => Nat.le_refl _
  | n + 1, h => Nat.mul_le_mul (prodN_le fun j hj => h j (by omega)) (h n (by omega))
theorem lim_big {ls : List (List Bool)} {n : Nat} (hp : ∀ j, j < n → Pat (ls.getD j [])) (hb : prodN ls n ≤ 10000) : LimAll n ls := fun i hi m gm km => by
  obtain ⟨q, h0, h1, h2, h3⟩ := stg_prod (ls := ls) i fun j hj => hp j (by omega)
  have hml : m.length ≤ q := gm.le h0 (by rw [show kp m = stg ls i from funext km]; exact h2)
  have := prodN_mono hp (show i + 1 ≤ n from hi)
  exact comp_big gm.toPat (hp i hi) (Nat.le_trans hml h1) (Nat.le_refl _) (Nat.le_trans this hb)
theorem stg_congr {ls ms : List (List Bool)} : ∀ {n : Nat}, (∀ j, j < n → ∀ k, kp (ls.getD j []) k = kp (ms.getD j []) k) → stg ls n = stg ms n
  | 0, _ => rfl
  | n + 1, h => by
    show cmp (stg ls n) (kp (ls.getD n [])) = cmp (stg ms n) (kp (ms.getD n []))
    rw [stg_congr fun j hj => h j (by omega), show kp (ls.getD n []) = kp (ms.getD n []) from funext (h n (by omega))]
theorem getD_snoc {α : Type} {xs : List α} {x d : α} {i : Nat} : (xs ++ [x]).getD i d = if i < xs.length then xs.getD i d else if i = xs.length then x else d := by
  rw [List.getD_eq_getElem?_getD, List.getD_eq_getElem?_getD]
  by_cases h : i < xs.length
  · rw [if_pos h, List.getElem?_append_left h]
  · rw [if_neg h, List.getElem?_append_right (by omega)]
    by_cases e : i = xs.length
    · rw [if_pos e, e, Nat.sub_self]; rfl
    · rw [if_neg e, List.getElem?_eq_none (by simp; omega)]; rfl
/-! one period for all stages -/
theorem stg_per1 {ls : List (List Bool)} : ∀ n, (∀ j, j < n → Pat (ls.getD j [])) → Per (stg ls n) (prodN ls n) ∧ 0 < ct (stg ls n) (prodN ls n)
  | 0, _ => ⟨fun _ => rfl, by simp [ct, stg, prodN]⟩
  | n + 1, h => by
    obtain ⟨h2, h3⟩ := stg_per1 (ls := ls) n fun j hj => h j (by omega)
    have p := h n (by omega)
    have hP := cmp_per h2 (kp_per (ls.getD n [])) h3 (Nat.dvd_mul_right _ (ls.getD n []).length) (Nat.dvd_mul_left _ _)
    rw [Nat.mul_div_cancel_left _ h3] at hP
    have r0 : 0 < prodN ls n * (ls.getD n []).length := Nat.mul_pos (prodN_pos fun j hj => h j (by omega)) p.one
    refine ⟨hP, ?_⟩
    obtain ⟨k, hk⟩ := cmp_ex h2 h3 (by obtain ⟨k, _, e⟩ := plus_kp p.plus; exact ⟨k, e⟩)
    exact ct_pos ⟨k % (prodN ls n * (ls.getD n []).length), Nat.mod_lt _ r0, by
      have : cmp (stg ls n) (kp (ls.getD n [])) (k % (prodN ls n * (ls.getD n []).length)) = true := by rw [hP.mod]; exact hk
      exact this⟩
theorem min_ex (P : Nat → Prop) : (∃ d, P d) → ∃ d, P d ∧ ∀ e, e < d → ¬ P e := by
  rintro ⟨d, h⟩
  induction d using Nat.strongRecOn with
  | ind d ih =>
    by_cases hx : ∃ e, e < d ∧ P e
    · obtain ⟨e, he, hp⟩ := hx
      exact ih e he hp
    · exact ⟨d, h, fun e he hp => hx ⟨e, he, hp⟩⟩
/-- each pattern has a least one -/
theorem least_ex {l : List Bool} (p : Pat l) : ∃ m, Good m ∧ ∀ n, kp m n = kp l n := by
  obtain ⟨d, ⟨h0, hd, hc⟩, hn⟩ := min_ex (fun d => 0 < d ∧ d ≤ l.length ∧ Cuts l d) ⟨l.length, p.one, Nat.le_refl _, Nat.dvd_refl _, kp_per l⟩
  obtain ⟨h1, h2, _⟩ := least_good p h0 hd hc fun e e0 ed hce => hn e ed ⟨e0, by omega, hce⟩
  exact ⟨_, h1, h2⟩
theorem stg_good {ls : List (List Bool)} {n : Nat} (hp : ∀ j, j < n → Pat (ls.getD j [])) (hb : prodN ls n ≤ 10000) : ∃ m, Good m ∧ ∀ k, kp m k = stg ls n k := by
  obtain ⟨h1, h2⟩ := stg_per1 n hp
  have h0 := prodN_pos hp
  obtain ⟨m, gm, km⟩ := least_ex (lof_pat h1 h0 hb (by
    obtain ⟨i, e, _⟩ := nth_of h1 h2 0
    exact ⟨i, e⟩))
  exact ⟨m, gm, fun k => by rw [km, kp_lof h1 h0]⟩
/-- the product over a list -/
def prL {α : Type} (g : α → Nat) (l : List α) : Nat := l.foldr (fun x a => g x * a) 1
theorem prL_app {α : Type} (g : α → Nat) : ∀ a b : List α, prL g (a ++ b) = prL g a * prL g b
  | [], b => (Nat.one_mul _).symm
  | x :: a, b => by
    show g x * prL g (a ++ b) = g x * prL g a * prL g b
    rw [prL_app g a b, Nat.mul_assoc]
theorem prL_perm {α : Type} (g : α → Nat) {a b : List α} (h : a.Perm b) : prL g a = prL g b := by
  induction h with
  | nil => rfl
  | cons x _ ih => exact congrArg (fun a => g x * a) ih
  | swap x y l => show g y * (g x * prL g l) = g x * (g y * prL g l); rw [Nat.mul_left_comm]
  | trans _ _ h1 h2 => rw [h1, h2]
theorem prL_map {α β : Type} (g : β → Nat) (f : α → β) : ∀ a : List α, prL g (a.map f) = prL (fun x => g (f x)) a
  | [] => rfl
  | x :: a => by show g (f x) * prL g (a.map f) = _; rw [prL_map g f a]; rfl
def prG (g : List Bool → Nat) (ls : List (List Bool)) : Nat → Nat
  | 0 => 1
  | i + 1 => prG g ls i * g (ls.getD i [])
theorem prG_len (ls : List (List Bool)) : ∀ i, prodN ls i = prG List.length ls i
  | 0 => rfl
  | i + 1 => by show prodN ls i * _ = prG _ ls i * _; rw [prG_len ls i]
theorem prG_take (g : List Bool → Nat) (ls : List (List Bool)) : ∀ i, i ≤ ls.length → prG g ls i = prL g (ls.take i)
  | 0, _ => rfl
  | i + 1, h => by
    show prG g ls i * g (ls.getD i []) = _
    rw [takeN (d := []) (by omega), prL_app, prG_take g ls i (by omega)]
    congr 1
    show _ = g (ls.getD i []) * 1
    rw [Nat.mul_one]
theorem prG_prm (g : List Bool → Nat) {ls : List (List Bool)} {n : Nat} (hn : ls.length = n) {o : List Nat} (h : o.Perm (List.range n)) : prG g (prmS ls o) n = prG g ls n := by
  have hl : o.length = n := by rw [h.length_eq, List.length_range]
  have e1 : prmS ls (List.range n) = ls := by
    unfold prmS
    refine List.ext_getElem (by rw [List.length_map, List.length_range, hn]) fun i h1 h2 => ?_
    rw [List.getElem_map, List.getElem_range, List.getD_eq_getElem?_getD, List.getElem?_eq_getElem h2]; rfl
  rw [prG_take g _ n (by unfold prmS; rw [List.length_map]; omega), prG_take g ls n (by omega)]
  rw [List.take_of_length_le (by unfold prmS; rw [List.length_map]; omega), List.take_of_length_le (by omega)]
  rw [← e1]
  rw [e1]
  conv => rhs; rw [← e1]
  unfold prmS
  rw [prL_map, prL_map]
  exact prL_perm _ h
theorem prm_perm : ∀ n, n ≤ 4 → ∀ o ∈ prm n, o.Perm (List.range n) := by
  have : ∀ n, n < 5 → ∀ o ∈ prm n, o.Perm (List.range n) := by decide +kernel
  exact fun n h => this n (by omega)
theorem prm_mem0 : ([] : List Nat) ∈ prm 0 := by decide +kernel
theorem prm_mem1 : ∀ a, a < 1 → [a] ∈ prm 1 := by decide +kernel
def pmB (n : Nat) (o : List Nat) : Bool := decide (o.Perm (List.range n) → o ∈ prm n)
theorem all_rg {n : Nat} {f : Nat → Bool} (h : (List.range n).all f = true) {a : Nat} (ha : a < n) : f a = true := List.all_eq_true.mp h a (List.mem_range.mpr ha)
theorem prm_m2 : ((List.range 2).all fun a => (List.range 2).all fun b => pmB 2 [a, b]) = true := by decide +kernel
theorem prm_m3 : ((List.range 3).all fun a => (List.range 3).all fun b => (List.range 3).all fun c => pmB 3 [a, b, c]) = true := by decide +kernel
theorem prm_m4 : ((List.range 4).all fun a => (List.range 4).all fun b => (List.range 4).all fun c => (List.range 4).all fun d => pmB 4 [a, b, c, d]) = true := by decide +kernel
theorem prm_mem2 (a : Nat) (ha : a < 2) (b : Nat) (hb : b < 2) : [a, b].Perm (List.range 2) → [a, b] ∈ prm 2 := of_decide_eq_true (all_rg (all_rg prm_m2 ha) hb)
theorem prm_mem3 (a : Nat) (ha : a < 3) (b : Nat) (hb : b < 3) (c : Nat) (hc : c < 3) : [a, b, c].Perm (List.range 3) → [a, b, c] ∈ prm 3 := of_decide_eq_true (all_rg (all_rg (all_rg prm_m3 ha) hb) hc)
theorem prm_mem4 (a : Nat) (ha : a < 4) (b : Nat) (hb : b < 4) (c : Nat) (hc : c < 4) (d : Nat) (hd : d < 4) : [a, b, c, d].Perm (List.range 4) → [a, b, c, d] ∈ prm 4 := of_decide_eq_true (all_rg (all_rg (all_rg (all_rg prm_m4 ha) hb) hc) hd)
theorem prm_mem {n : Nat} (hn : n ≤ 4) {o : List Nat} (h : o.Perm (List.range n)) : o ∈ prm n := by
  have hl : o.length = n := by rw [h.length_eq, List.length_range]
  have hm : ∀ x ∈ o, x < n := fun x hx => List.mem_range.mp (h.mem_iff.mp hx)
  match n, o, hl, hm, h with
  | 0, [], _, _, _ => exact prm_mem0
  | 1, [a], _, hm, _ => exact prm_mem1 a (hm a (by simp))
  | 2, [a, b], _, hm, h => exact prm_mem2 a (hm a (by simp)) b (hm b (by simp)) h
  | 3, [a, b, c], _, hm, h => exact prm_mem3 a (hm a (by simp)) b (hm b (by simp)) c (hm c (by simp)) h
  | 4, [a, b, c, d], _, hm, h => exact prm_mem4 a (hm a (by simp)) b (hm b (by simp)) c (hm c (by simp)) d (hm d (by simp)) h
  | n + 5, _, _, _, _ => omega
def cK (l : List Bool) : Nat := ct (kp l) l.length
def cG (l : List Bool) : Nat := Nat.gcd (cK l) l.length
def shA (ls : List (List Bool)) : Nat → Nat := prG (fun l => cK l / cG l) ls
def shB (ls : List (List Bool)) : Nat → Nat := prG (fun l => l.length / cG l) ls
theorem prG_mul (g h : List Bool → Nat) (ls : List (List Bool)) : ∀ i, prG (fun l => g l * h l) ls i = prG g ls i * prG h ls i
  | 0 => rfl
  | i + 1 => by
    show prG _ ls i * (g _ * h _) = prG g ls i * g _ * (prG h ls i * h _)
    rw [prG_mul g h ls i]
    simp only [Nat.mul_assoc, Nat.mul_left_comm, Nat.mul_comm]
theorem prG_congr {g h : List Bool → Nat} {ls : List (List Bool)} : ∀ {i : Nat}, (∀ j, j < i → g (ls.getD j []) = h (ls.getD j [])) → prG g ls i = prG h ls i
  | 0, _ => rfl
  | i + 1, e => by
    show prG g ls i * g _ = prG h ls i * h _
    rw [prG_congr fun j hj => e j (by omega), e i (by omega)]
theorem prG_pos {g : List Bool → Nat} {ls : List (List Bool)} : ∀ {i : Nat}, (∀ j, j < i → 0 < g (ls.getD j [])) → 0 < prG g ls i
  | 0, _ => Nat.one_pos
  | i + 1, e => Nat.mul_pos (prG_pos fun j hj => e j (by omega)) (e i (by omega))
theorem stg_ct {ls : List (List Bool)} : ∀ n, (∀ j, j < n → Pat (ls.getD j [])) → ct (stg ls n) (prodN ls n) = prG cK ls n
  | 0, _ => rfl
  | n + 1, h => by
    obtain ⟨h2, h3⟩ := stg_per1 (ls := ls) n fun j hj => h j (by omega)
    have ih := stg_ct (ls := ls) n fun j hj => h j (by omega)
    have p := h n (by omega)
    have := cmp_size h2 (kp_per (ls.getD n [])) (Nat.dvd_mul_right (ct (stg ls n) (prodN ls n)) (ls.getD n []).length) (Nat.dvd_mul_left _ _)
    rw [Nat.mul_div_cancel_left _ h3, Nat.mul_div_cancel _ p.one] at this
    show ct (cmp (stg ls n) (kp (ls.getD n []))) (prodN ls n * (ls.getD n []).length) = prG cK ls n * cK (ls.getD n [])
    rw [this, ih]; rfl
theorem dens_all {ls : List (List Bool)} {n : Nat} (hn : ls.length = n) (hp : ∀ j, j < n → Pat (ls.getD j [])) {o : List Nat} (ho : o.Perm (List.range n)) {r : List Bool} (gr : Good r) (kr : ∀ k, kp r k = stg (prmS ls o) n k) :
    (cK r / cG r) * shB ls n = (r.length / cG r) * shA ls n := by
  have hol : o.length = n := by rw [ho.length_eq, List.length_range]
  have hp2 : ∀ j, j < n → Pat ((prmS ls o).getD j []) := fun j hj => by
    unfold prmS
    rw [List.getD_eq_getElem?_getD, List.getElem?_map, List.getElem?_eq_getElem (by omega)]
    exact hp _ (by
      have := ho.mem_iff.mp (List.getElem_mem (show j < o.length by omega))
      exact List.mem_range.mp this)
  obtain ⟨h1, h2⟩ := stg_per1 n hp2
  have h3 := stg_ct n hp2
  have e1 := per_ratio (kp_per r) (show Per (kp r) (prodN (prmS ls o) n) by rw [show kp r = stg (prmS ls o) n from funext kr]; exact h1)
  rw [show kp r = stg (prmS ls o) n from funext kr, h3, prG_len, prG_prm _ hn ho, prG_prm _ hn ho, ← show kp r = stg (prmS ls o) n from funext kr] at e1
  have g0 : 0 < cG r := Nat.gcd_pos_of_pos_right _ gr.one
  have G0 : 0 < prG cG ls n := prG_pos fun j hj => Nat.gcd_pos_of_pos_right _ (hp j hj).one
  have f1 : cK r / cG r * cG r = cK r := Nat.div_mul_cancel (Nat.gcd_dvd_left _ _)
  have f2 : r.length / cG r * cG r = r.length := Nat.div_mul_cancel (Nat.gcd_dvd_right _ _)
  have f3 : shA ls n * prG cG ls n = prG cK ls n := by
    unfold shA
    rw [← prG_mul]
    exact prG_congr fun j hj => Nat.div_mul_cancel (Nat.gcd_dvd_left _ _)
  have f4 : shB ls n * prG cG ls n = prG List.length ls n := by
    unfold shB
    rw [← prG_mul]
    exact prG_congr fun j hj => Nat.div_mul_cancel (Nat.gcd_dvd_right _ _)
  refine Nat.eq_of_mul_eq_mul_right (Nat.mul_pos g0 G0) ?_
  have e2 : cK r * prG List.length ls n = prG cK ls n * r.length := e1
  calc (cK r / cG r) * shB ls n * (cG r * prG cG ls n) = (cK r / cG r * cG r) * (shB ls n * prG cG ls n) := by simp only [Nat.mul_assoc, Nat.mul_left_comm, Nat.mul_comm]
    _ = prG cK ls n * r.length := by rw [f1, f4, e2]
    _ = (shA ls n * prG cG ls n) * (r.length / cG r * cG r) := by rw [f3, f2]
    _ = (r.length / cG r) * shA ls n * (cG r * prG cG ls n) := by simp only [Nat.mul_assoc, Nat.mul_left_comm, Nat.mul_comm]
/-! what rows of rounds in all orders leave -/
theorem prodN_b {ls : List (List Bool)} : ∀ {n : Nat}, (∀ j, j < n → (ls.getD j []).length ≤ 6) → prodN ls n ≤ 6 ^ n
  | 0, _ => Nat.le_refl _
  | n + 1, h => by
    show prodN ls n * _ ≤ 6 ^ n * 6
    exact Nat.mul_le_mul (prodN_b fun j hj => h j (by omega)) (h n (by omega))
theorem ptOk_ex {ls : List (List Bool)} {n : Nat} (h4 : n ≤ 4) (hg : ∀ j, j < n → Good (ls.getD j [])) (h6 : ∀ j, j < n → (ls.getD j []).length ≤ 6) : ∃ pt, PtOk ls n pt := by
  have at_ : ∀ o ∈ prm n, ∀ j, j < n → ∃ k, k < n ∧ (prmS ls o).getD j [] = ls.getD k [] := fun o ho j hj => by
    obtain ⟨h1, h2⟩ := prm_lt n o ho
    refine ⟨o[j]'(by omega), h2 _ (List.getElem_mem _), ?_⟩
    unfold prmS
    rw [List.getD_eq_getElem?_getD, List.getElem?_map, List.getElem?_eq_getElem (by omega)]; rfl
  have hp : ∀ o ∈ prm n, ∀ j, j < n → Pat ((prmS ls o).getD j []) := fun o ho j hj => by
    obtain ⟨k, hk, e⟩ := at_ o ho j hj
    rw [e]; exact (hg k hk).toPat
  have hb : ∀ o ∈ prm n, prodN (prmS ls o) n ≤ 10000 := fun o ho => by
    refine Nat.le_trans (prodN_b fun j hj => ?_) (Nat.le_trans (Nat.pow_le_pow_right (by decide) h4) (by decide))
    obtain ⟨k, hk, e⟩ := at_ o ho j hj
    rw [e]; exact h6 k hk
  have ex : ∀ o, ∃ m, o ∈ prm n → Good m ∧ ∀ k, kp m k = stg (prmS ls o) n k := fun o => by
    by_cases ho : o ∈ prm n
    · obtain ⟨m, h1, h2⟩ := stg_good (hp o ho) (hb o ho)
      exact ⟨m, fun _ => ⟨h1, h2⟩⟩
    · exact ⟨[], fun h => absurd h ho⟩
  refine ⟨fun o => (ex o).choose, fun o ho => ((ex o).choose_spec ho).1, fun o ho => ((ex o).choose_spec ho).2, fun o ho => lim_big (hp o ho) (hb o ho)⟩
/-! the first order of each pattern -/
def leN (a b : List Nat) : Bool := Ob.lexAt (fun j => decide ((nI a).getD j 0 = (nI b).getD j 0)) (fun j => decide ((nI a).getD j 0 ≤ (nI b).getD j 0)) (decide ((nI a).length ≤ (nI b).length)) 0 (min (nI a).length (nI b).length)
theorem prm_le : ∀ n, n ≤ 4 → ((prm n).Pairwise fun a b => leN a b = true) ∧ ∀ a ∈ prm n, leN a a = true := by
  have : ∀ n, n < 5 → ((prm n).Pairwise fun a b => leN a b = true) ∧ ∀ a ∈ prm n, leN a a = true := by decide +kernel
  exact fun n h => this n (by omega)
theorem fnd_keep (pt : List Nat → List Bool) : ∀ (os acc : List (List Nat)) (a : List Nat), a ∈ acc → a ∈ os.foldl (addF pt) acc
  | [], _, _, h => h
  | o :: os, acc, a, h => by
    rw [List.foldl_cons]
    refine fnd_keep pt os _ a ?_
    unfold addF
    split
    · exact h
    · exact List.mem_append_left _ h
theorem fnd_first (pt : List Nat → List Bool) (R : List Nat → List Nat → Prop) : ∀ (os acc : List (List Nat)), (acc ++ os).Pairwise R → (∀ o ∈ os, R o o) → ∀ o ∈ os, ∃ a ∈ os.foldl (addF pt) acc, pt a = pt o ∧ R a o
  | [], _, _, _, o, h => nomatch h
  | x :: os, acc, hp, hr, o, h => by
    rw [List.foldl_cons]
    rcases List.mem_cons.mp h with rfl | h
    · by_cases hx : acc.any (fun a => decide (pt a = pt o)) = true
      · obtain ⟨a, ha, e⟩ := List.any_eq_true.mp hx
        refine ⟨a, fnd_keep pt os _ a ?_, of_decide_eq_true e, ?_⟩
        · unfold addF
          rw [if_pos hx]; exact ha
        · exact (List.pairwise_append.mp hp).2.2 a ha o (List.mem_cons_self ..)
      · refine ⟨o, fnd_keep pt os _ o ?_, rfl, hr o (List.mem_cons_self ..)⟩
        unfold addF
        rw [if_neg hx]
        exact List.mem_append_right _ (List.mem_singleton.mpr rfl)
    · refine fnd_first pt R os _ (hp.sublist ?_) (fun o ho => hr o (List.mem_cons_of_mem _ ho)) o h
      rw [show acc ++ x :: os = (acc ++ [x]) ++ os by simp]
      refine List.Sublist.append_right ?_ _
      unfold addF
      split
      · exact List.sublist_append_left _ _
      · exact List.Sublist.refl _
theorem fndL_first {pt : List Nat → List Bool} {n : Nat} (h : n ≤ 4) {o : List Nat} (ho : o ∈ prm n) : ∃ a ∈ fndL pt (prm n), pt a = pt o ∧ leN a o = true := by
  obtain ⟨h1, h2⟩ := prm_le n h
  exact fnd_first pt _ (prm n) [] h1 h2 o ho
theorem fnd_dif (pt : List Nat → List Bool) : ∀ (os acc : List (List Nat)), acc.Pairwise (fun a b => pt a ≠ pt b) → (os.foldl (addF pt) acc).Pairwise (fun a b => pt a ≠ pt b)
  | [], _, h => h
  | o :: os, acc, h => by
    rw [List.foldl_cons]
    refine fnd_dif pt os _ ?_
    unfold addF
    split
    · exact h
    · rename_i hx
      refine List.pairwise_append.mpr ⟨h, List.pairwise_singleton _ _, fun a ha b hb e => ?_⟩
      rw [List.mem_singleton.mp hb] at e
      exact hx (List.any_eq_true.mpr ⟨a, ha, decide_eq_true e⟩)
theorem fndL_dif (pt : List Nat → List Bool) (os : List (List Nat)) : (fndL pt os).Pairwise (fun a b => pt a ≠ pt b) := fnd_dif pt os [] .nil
theorem fnd_hd (pt : List Nat → List Bool) : ∀ (os acc : List (List Nat)) (a : List Nat), acc.head? = some a → (os.foldl (addF pt) acc).head? = some a
  | [], _, _, h => h
  | o :: os, acc, a, h => by
    rw [List.foldl_cons]
    refine fnd_hd pt os _ a ?_
    unfold addF
    split
    · exact h
    · rw [List.head?_append, h]; rfl
theorem prm_hd : ∀ n, n ≤ 4 → (prm n).head? = some (List.range n) := by
  have : ∀ n, n < 5 → (prm n).head? = some (List.range n) := by decide +kernel
  exact fun n h => this n (by omega)
theorem fndL_hd {pt : List Nat → List Bool} {n : Nat} (h : n ≤ 4) : (fndL pt (prm n)).head? = some (List.range n) := by
  have := prm_hd n h
  cases e : prm n with
  | nil => rw [e] at this; cases this
  | cons o os =>
    rw [e] at this
    unfold fndL
    rw [List.foldl_cons]
    exact fnd_hd pt os _ _ this

section
variable {X : Cx} {N L S G B : List Str} {o e e2 : Expr} {σ : L2.St} {H : Hp} {Q : VK} {apos pos : Pos}
/-- xs.pop(i) -/
theorem w_lpop (h : WE X o σ H fun x H1 => ∃ l, x = .ref l ∧ (∃ xs, SqL X.K H1 l xs) ∧ WE X e σ H1 fun y H2 => ∃ (xs : List V) (i : Nat) (z : V), y = .int ((i : Nat) : Int) ∧ H2 l = some (.lst xs) ∧ i < 16777216 ∧ xs[i]? = some z ∧ Q z (upd H2 l (.lst (xs.eraseIdx i))))
    (hbase : attributeBase o "pop" X.env (eval o X.env) = eval o X.env := by with_unfolding_all rfl)
    (hfew : ((backTo pos (starEach [e] X.env)).all (fun x => !x.1) && (backToKw pos (keywordEach [] X.env)).all (fun x => x.1.isSome)
      && decide ([e].length + ([] : List Keyword).length + (if ([] : List Keyword).isEmpty then 0 else 1) < 30)) = true := by with_unfolding_all rfl)
    (hline : (apos.endLine == pos.line) = true := by with_unfolding_all rfl) (hs : starEach [e] X.env = (false, eval e X.env) :: starEach [] X.env := by with_unfolding_all rfl) : WE X (.Call (.Attribute o "pop" apos) [e] [] pos) σ H Q := by
  refine (pe_bm PySem.F.plainAttrs_list PySem.F.slot_list_pop PySem.F.type_list_pop mt_popAt pe_w (pa_cons pe_w pa_nil hs) hbase hfew hline hs rfl).w ?_
  refine WE.imp h fun x H1 ⟨l, e1, ⟨xs, hx⟩, q⟩ => ⟨by rw [e1]; exact Or.inl ⟨rfl, xs, hx⟩, WE.imp q fun y H2 ⟨xs, i, z, e2, h2, hi, hz, q⟩ => ⟨l, xs, ((i : Nat) : Int), i, z, e1, by rw [e2], h2, by omega, by omega, ?_, hz, q⟩⟩
  have hlt : i < xs.length := (List.getElem?_eq_some_iff.mp hz).1
  unfold seqIndex?
  simp
  omega
end
def spSpec30 : Sp := fun vs H Q _ => ∃ p : Addr, vs = [.ref p] ∧ H p = some (pool p) ∧ ∀ d T H', SpD.Ok d → d.sg.length ≤ 6 → H T = none → Same H H' → SpAt H' T d → Q (.ref T) H'
theorem ok__law_spec (F : FunD K "_law_spec" "_law_spec" (defArgs s__law_spec) (defBody s__law_spec) (defScope s__law_spec) [] [] f fd) (hb : ∀ x ∈ BB, mg x = none) (h1 : Fn P w K mg base "_law_take" 2 spTakeW) (h2 : Fn P w K mg base "_law_pattern" 3 spLPatU) : FnR P w K mg base (L2.CX P w) 4 f spSpec30 := by
  refine fnr_of F sc__law_spec (fun vs H Q E h => ?_) (fun kV doc pm an cdv ct us hl => match us, hl with | [_], _ => rfl) (fun x hx => hb x (by revert x; decide +kernel)) fun cd A outer s0 H vs Q E hr hc h => ?_
  · obtain ⟨p, rfl, _⟩ := h; rfl
  · obtain ⟨p, rfl, hp, q⟩ := h
    have hz : sizeLine = 16777216 := sizeLine_eq
    refine wl_start (σ' := [some (.ref p), none]) rfl (wl_cons ?_)
    walk_at "w"
    refine w_call hc (by walk_at "mb") h1 hr (by decide) passL ?_
    walk_at "w"
    refine ⟨p, 3, rfl, hp, by decide, by decide +kernel, fun k hk => ?_⟩
    refine ⟨_, by walk_at "put", ?_⟩
    walk_at "w"
    refine if_dec (fun k0 => ?_) (fun k0 => ?_)
    · walk_at "w"
      refine w_call hc (by walk_at "mb") h1 hr (by decide) passL ?_
      walk_at "w"
      refine ⟨p, 5, rfl, hp, by decide, by decide +kernel, fun j hj => ?_⟩
      walk_at "w"
      refine ⟨by show 2 ≤ sizeLine; omega, fun T H1 hT e1 hT1 => ?_⟩
      refine q (.ev (2 + j)) T H1 ⟨by omega, by omega⟩ (by show (blL (2 + j - 1) 1).length ≤ 6; rw [blL_len]; omega) hT e1 ?_
      show H1 T = some (.tup [.str "every", .int ((2 + j : Nat) : Int)])
      rw [hT1, Int.natCast_add]; rfl
    · walk_at "w"
      refine if_dec (fun k1 => ?_) (fun k1 => ?_)
      · walk_at "w"
        refine w_call hc (by walk_at "mb") h1 hr (by decide) passL ?_
        walk_at "w"
        refine ⟨p, 3, rfl, hp, by decide, by decide +kernel, fun j hj => ?_⟩
        walk_at "w"
        refine w_call hc (by walk_at "mb") h1 hr (by decide) passL ?_
        walk_at "w"
        refine ⟨p, 3, rfl, hp, by decide, by decide +kernel, fun j2 hj2 => ?_⟩
        walk_at "w"
        refine ⟨by show 3 ≤ sizeLine; omega, fun T H1 hT e1 hT1 => ?_⟩
        refine q (.bk (1 + j) j2) T H1 ⟨by omega, by omega, by omega⟩ (by show (blL (1 + j) j2).length ≤ 6; rw [blL_len]; omega) hT e1 ?_
        show H1 T = some (.tup [.str "block", .int ((1 + j : Nat) : Int), .int ((j2 : Nat) : Int)])
        rw [hT1, Int.natCast_add]; rfl
      · walk_at "w"
        refine w_call hc (by walk_at "mb") h2 hr (by decide) passL ?_
        walk_at "w"
        refine ⟨p, 4, rfl, hp, by decide, by decide, fun l H1 e1 pl hl => ?_⟩
        walk_at "w"
        refine ⟨by show 2 ≤ sizeLine; omega, fun T H2 hT e2 hT2 => ?_⟩
        exact q (.rd l) T H2 ⟨pl, by omega⟩ (by show l.length ≤ 6; omega) (nbk e1 hT) (e1.trans e2) hT2
def spLRow (P : Program) (w : World) (K : PySem.W.Frag) (mg : Str → Option Value) (base : Heap) : Sp := fun vs H Q _ => ∃ (D : Addr) (rs : List Addr) (ms : List (List Bool)), vs = [.ref D] ∧ H D = some (.lst (rs.map V.ref)) ∧ RdAll P w K mg base H rs ms ∧ rs.length ≤ 1000 ∧ LimAll rs.length ms ∧ ∀ a H', Same H H' → RowAt K H' a rs ms → Q (.ref a) H'
theorem ok__law_row (F : FunD K "_law_row" "_law_row" (defArgs s__law_row) (defBody s__law_row) (defScope s__law_row) [] [] f fd) (hb : ∀ x ∈ BB, mg x = none) (RW : ClF K mg "Row" ["parts", "stages"]) (h8 : Mkr P w K mg base (cRow K) 8 (fun vs H Q E => ∃ ws rest, vs = ws ++ rest ∧ ws.length = 1 ∧ rest.length ≤ sizeLine ∧ ∀ p, H p = Option.none → spRowI P w K mg base (ws ++ [V.ref p]) (upd H p (.tup rest)) Q E)) (h9 : Mth P w K mg base (cRow K) "then" 10 (spThen P w K mg base)) : FnR P w K mg base (L2.CX P w) 12 f (spLRow P w K mg base) := by
  refine fnr_of F sc__law_row (fun vs H Q E h => ?_) (fun kV doc pm an cdv ct us hl => match us, hl with | [_], _ => rfl) (fun x hx => hb x (by revert x; decide +kernel)) fun cd A outer s0 H vs Q E hr hc h => ?_
  · obtain ⟨D, rs, ms, rfl, _⟩ := h; rfl
  · obtain ⟨D, rs, ms, rfl, hD, hrd, hl, hlim, q⟩ := h
    have hz : sizeLine = 16777216 := sizeLine_eq
    refine wl_start (σ' := [some (.ref D), none, none]) rfl (wl_cons ?_)
    walk_at "w"
    refine w_make0 hc (by walk_at "mb") RW.g h8 hr (by decide) passL ?_
    refine made_rw (rs := []) (ls := ms) (by decide) (fun i hi => absurd hi (Nat.not_lt_zero _)) (fun i hi => absurd hi (Nat.not_lt_zero _)) fun a H1 e1 hrow => ?_
    refine ⟨_, by walk_at "put", ?_⟩
    walk_at "go"
    refine ws_for owns_cx hc ?_
    refine wi_list ?_
    walk_at "w"
    have hD1 := e1 _ _ hD
    refine ⟨D, _, rfl, .inl (.inl hD1), _, _, wlk_list (.inl (.inl hD1)), fun i σ' H' => Same H1 H' ∧ ∃ b o3, RowAt K H' b (rs.take i) ms ∧ σ' = [some (.ref D), some (.ref b), o3], ⟨Same.refl _, a, _, by rw [List.take_zero]; exact hrow, rfl⟩, fun i σ' H' h => h.1, fun i σ' H' hi ⟨e2, b, o3, hb2, hσ⟩ => ?_, fun σ' H' ⟨e2, b, o3, hb2, hσ⟩ => ?_⟩
    · subst hσ
      rw [List.length_map] at hi
      have e9 : (rs.map V.ref).getD i .non = .ref (rs.getD i 0) := by
        rw [List.getD_eq_getElem?_getD, List.getElem?_map, List.getElem?_eq_getElem hi, List.getD_eq_getElem?_getD, List.getElem?_eq_getElem hi]; rfl
      rw [e9]
      refine wg_name hc (by walk_at "put") (by walk_at "mb") ?_
      walk_at "w"
      obtain ⟨dx, tp, pp, qs, mm, g1, g2, g3, g4⟩ := id hb2
      refine w_meth h9 hr (by decide) passL ?_
      walk_at "w"
      refine ⟨b, dx, _, rfl, g1, rfl, ?_⟩
      walk_at "w"
      have etk : rs.take i ++ [rs.getD i 0] = rs.take (i + 1) := by
        rw [List.take_succ, List.getElem?_eq_getElem hi, List.getD_eq_getElem?_getD, List.getElem?_eq_getElem hi]; rfl
      refine ⟨b, rs.take i, [rs.getD i 0], ms, [], rfl, hb2, ?_, ?_, ?_, fun c H3 e3 hrow3 => ?_⟩
      · rw [etk, List.append_nil]
        intro j hj
        rw [List.length_take] at hj
        rw [show (rs.take (i + 1)).getD j 0 = rs.getD j 0 by rw [List.getD_eq_getElem?_getD, List.getElem?_take_of_lt (by omega), ← List.getD_eq_getElem?_getD]]
        exact ((hrd j (by omega)).same e1).same e2
      · rw [etk, List.length_take]; omega
      · rw [etk, List.append_nil, List.length_take]
        exact fun j hj => hlim j (by omega)
      · rw [etk, List.append_nil] at hrow3
        refine ⟨_, by walk_at "put", ?_⟩
        walk_at "w"
        exact ⟨e2.trans e3, c, _, hrow3, rfl⟩
    · subst hσ
      rw [List.length_map, List.take_length] at hb2
      walk_at "w"
      exact q b H' (e1.trans e2) hb2

def spShuf : Sp := fun vs H Q _ => ∃ (p a : Addr) (l : List Nat), vs = [.ref p, .ref a] ∧ H p = some (pool p) ∧ H a = some (.lst (intsN l)) ∧ l.length ≤ 100 ∧ ∀ r o H', H r = none → Same H H' → H' r = some (.lst (intsN o)) → o.Perm l → Q (.ref r) H'
theorem map_erase {α β : Type} (f : α → β) : ∀ (l : List α) (k : Nat), (l.map f).eraseIdx k = (l.eraseIdx k).map f
  | [], _ => rfl
  | _ :: _, 0 => rfl
  | x :: l, k + 1 => congrArg (f x :: ·) (map_erase f l k)
theorem perm_erase {α : Type} : ∀ {l : List α} {k : Nat} (h : k < l.length), (l[k] :: l.eraseIdx k).Perm l
  | _ :: _, 0, _ => List.Perm.refl _
  | x :: l, k + 1, h => (List.Perm.swap x _ _).trans ((perm_erase (l := l) (k := k) (Nat.lt_of_succ_lt_succ h)).cons x)
theorem intsN_len (l : List Nat) : (intsN l).length = l.length := List.length_map ..
theorem ok__law_shuffle (F : FunD K "_law_shuffle" "_law_shuffle" (defArgs s__law_shuffle) (defBody s__law_shuffle) (defScope s__law_shuffle) [] [] f fd) (hb : ∀ x ∈ BB, mg x = none) (h1 : Fn P w K mg base "_law_take" 2 spTakeW) : FnR P w K mg base (L2.CX P w) 3 f spShuf := by
  refine fnr_of F sc__law_shuffle (fun vs H Q E h => ?_) (fun kV doc pm an cdv ct us hl => match us, hl with | [_, _], _ => rfl) (fun x hx => hb x (by revert x; decide +kernel)) fun cd A outer s0 H vs Q E hr hc h => ?_
  · obtain ⟨p, a, l, rfl, _⟩ := h; rfl
  · obtain ⟨p, a, l, rfl, hp, ha, hl, q⟩ := h
    have hz : sizeLine = 16777216 := sizeLine_eq
    refine wl_start (σ' := [some (.ref p), some (.ref a), none, none, none]) rfl (wl_cons ?_)
    refine ws_par hc (by kernel_rfl) (by kernel_rfl) (by decide +kernel) ?_ (by with_unfolding_all rfl) (by with_unfolding_all rfl) (by with_unfolding_all rfl) (by with_unfolding_all rfl) ⟨3, 4, rfl, rfl⟩
    walk_at "w"
    refine ⟨a, _, rfl, .inl (.inl (.inl ha)), fun D1 H1 hD1 e1 hD1' => ?_⟩
    walk_at "w"
    refine ⟨by show 0 ≤ sizeLine; omega, fun D2 H2 hD2 e2 hD2' => ?_⟩
    refine ⟨_, _, by walk_at "put", by walk_at "put", ?_⟩
    walk_at "go"
    have n12 : D1 ≠ D2 := fun z => by rw [← z, hD1'] at hD2; cases hD2
    have hD2n := nbk e1 hD2
    have e02 := e1.trans e2
    have ha2 := e02 _ _ ha
    refine ws_forM owns_cx hc ?_
    refine wi_range1 hc (by walk_at "mb") ?_
    walk_at "w"
    refine ⟨_, .inl ⟨_, .inl (.inl ha2), rfl⟩, ?_⟩
    rw [intsN_len]
    refine ⟨_, rfl, by omega, by omega, ?_⟩
    refine ⟨_, _, fun _ => none, wlk_range, fun i σ' H' => Same H H' ∧ ∃ rl ol o5, H' D1 = some (.lst (intsN rl)) ∧ H' D2 = some (.lst (intsN ol)) ∧ ol.length = i ∧ (ol ++ rl).Perm l ∧ σ' = [some (.ref p), some (.ref a), o5, some (.ref D1), some (.ref D2)], ⟨e02, l, [], _, e2 _ _ hD1', hD2', rfl, List.Perm.refl _, rfl⟩, fun i σ' H' h => none_same, fun i σ' H' hi ⟨e3, rl, ol, o5, h3, h4, hol, hpm, hσ⟩ => ?_, fun σ' H' ⟨e3, rl, ol, o5, h3, h4, hol, hpm, hσ⟩ => ?_⟩
    · subst hσ
      have hlen := hpm.length_eq
      rw [List.length_append] at hlen
      refine wg_name hc (by walk_at "put") (by walk_at "mb") ?_
      walk_at "go"
      refine ws_expr ?_
      refine w_append ?_
      walk_at "w"
      refine ⟨⟨_, .inl (.inl h4)⟩, ?_⟩
      refine w_lpop ?_
      walk_at "w"
      refine ⟨⟨_, .inl (.inl h3)⟩, ?_⟩
      refine w_call hc (by walk_at "mb") h1 hr (by decide) passL ?_
      walk_at "w"
      refine ⟨_, .inl ⟨_, .inl (.inl h3), rfl⟩, ?_⟩
      rw [intsN_len]
      walk_at "w"
      refine ⟨p, rl.length, rfl, e3 _ _ hp, by omega, Nat.lt_of_le_of_lt (show rl.length ≤ 100 by omega) (by decide +kernel), fun k hk => ?_⟩
      refine ⟨_, k, .int ((rl[k] : Nat) : Int), rfl, h3, by omega, by unfold intsN; rw [List.getElem?_map, List.getElem?_eq_getElem hk]; rfl, ?_⟩
      refine ⟨_, by rw [upd_ne (Ne.symm n12)]; exact h4, by rw [intsN_len]; omega, ?_⟩
      walk_at "w"
      refine ⟨same_mut (same_mut e3 hD1) hD2n, rl.eraseIdx k, ol ++ [rl[k]], _, ?_, ?_, by rw [List.length_append, hol]; rfl, ?_, rfl⟩
      · rw [upd_ne n12, upd_same]
        unfold intsN
        rw [map_erase]
      · rw [upd_same]
        unfold intsN
        rw [List.map_append]; rfl
      · refine List.Perm.trans ?_ hpm
        rw [List.append_assoc]
        exact List.Perm.append_left _ (perm_erase hk)
    · subst hσ
      have hlen := hpm.length_eq
      rw [List.length_append] at hlen
      have hnil : rl = [] := List.length_eq_zero_iff.mp (by omega)
      subst hnil
      rw [List.append_nil] at hpm
      walk_at "w"
      exact q D2 ol H' hD2n e3 h4 hpm
theorem len2 {α : Type} {l : List α} (h : l.length = 2) : ∃ a b, l = [a, b] := match l, h with | [a, b], _ => ⟨a, b, rfl⟩
theorem len3 {α : Type} {l : List α} (h : l.length = 3) : ∃ a b c, l = [a, b, c] := match l, h with | [a, b, c], _ => ⟨a, b, c, rfl⟩
theorem len4 {α : Type} {l : List α} (h : l.length = 4) : ∃ a b c d, l = [a, b, c, d] := match l, h with | [a, b, c, d], _ => ⟨a, b, c, d, rfl⟩
def spLOrd (P : Program) (w : World) (K : PySem.W.Frag) (mg : Str → Option Value) (base : Heap) : Sp := fun vs H Q _ => ∃ (D : Addr) (rs : List Addr) (ls : List (List Bool)) (pt : List Nat → List Bool), vs = [.ref D] ∧ H D = some (.lst (rs.map V.ref)) ∧ 2 ≤ rs.length ∧ rs.length ≤ 4 ∧ RdAll P w K mg base H rs ls ∧ PtOk ls rs.length pt ∧ ∀ p H', Same H H' → OrdAt H' p pt (fndL pt (prm rs.length)) → Q (.ref p) H'
theorem ok__law_orders (F : FunD K "_law_orders" "_law_orders" (defArgs s__law_orders) (defBody s__law_orders) (defScope s__law_orders) [] [] f fd) (hb : ∀ x ∈ BB, mg x = none) (h1 : Fn P w K mg base "orders" 21 (spOrd P w K mg base)) : FnR P w K mg base (L2.CX P w) 22 f (spLOrd P w K mg base) := by
  refine fnr_of F sc__law_orders (fun vs H Q E h => ?_) (fun kV doc pm an cdv ct us hl => match us, hl with | [_], _ => rfl) (fun x hx => hb x (by revert x; decide +kernel)) fun cd A outer s0 H vs Q E hr hc h => ?_
  · obtain ⟨D, rs, ls, pt, rfl, _⟩ := h; rfl
  · obtain ⟨D, rs, ls, pt, rfl, hD, hl2, hl4, hrd, hpt, q⟩ := h
    refine wl_start (σ' := [some (.ref D)]) rfl (wl_cons ?_)
    walk_at "w"
    refine ⟨_, .inl ⟨_, .inl (.inl hD), rfl⟩, ?_⟩
    rw [List.length_map]
    walk_at "w"
    rw [decide_eq_false (show ¬ ((rs.length : Nat) : Int) = 0 by omega)]
    walk_at "w"
    refine ⟨_, .inl ⟨_, .inl (.inl hD), rfl⟩, ?_⟩
    rw [List.length_map]
    walk_at "w"
    rw [decide_eq_false (show ¬ ((rs.length : Nat) : Int) = 1 by omega)]
    walk_at "w"
    refine ⟨_, .inl ⟨_, .inl (.inl hD), rfl⟩, ?_⟩
    rw [List.length_map]
    walk_at "w"
    refine if_dec (fun k2 => ?_) (fun k2 => ?_)
    · obtain ⟨a, b, rfl⟩ : ∃ a b, rs = [a, b] := len2 (by omega)
      walk_at "w"
      refine w_call hc (by walk_at "mb") h1 hr (by decide) passL ?_
      walk_at "w"
      refine ix_l (.inl (.inl hD)) (show atI ([a, b].map V.ref) 0 = some (V.ref a) from rfl) ?_
      walk_at "w"
      refine ix_l (.inl (.inl hD)) (show atI ([a, b].map V.ref) 1 = some (V.ref b) from rfl) ?_
      walk_at "w"
      exact ⟨[a, b], ls, pt, rfl, hl4, hrd, hpt, q⟩
    walk_at "w"
    refine ⟨_, .inl ⟨_, .inl (.inl hD), rfl⟩, ?_⟩
    rw [List.length_map]
    walk_at "w"
    refine if_dec (fun k3 => ?_) (fun k3 => ?_)
    · obtain ⟨a, b, c, rfl⟩ : ∃ a b c, rs = [a, b, c] := len3 (by omega)
      walk_at "w"
      refine w_call hc (by walk_at "mb") h1 hr (by decide) passL ?_
      walk_at "w"
      refine ix_l (.inl (.inl hD)) (show atI ([a, b, c].map V.ref) 0 = some (V.ref a) from rfl) ?_
      walk_at "w"
      refine ix_l (.inl (.inl hD)) (show atI ([a, b, c].map V.ref) 1 = some (V.ref b) from rfl) ?_
      walk_at "w"
      refine ix_l (.inl (.inl hD)) (show atI ([a, b, c].map V.ref) 2 = some (V.ref c) from rfl) ?_
      walk_at "w"
      exact ⟨[a, b, c], ls, pt, rfl, hl4, hrd, hpt, q⟩
    walk_at "w"
    refine ⟨_, .inl ⟨_, .inl (.inl hD), rfl⟩, ?_⟩
    rw [List.length_map]
    walk_at "w"
    refine if_dec (fun k4 => ?_) (fun k4 => by omega)
    obtain ⟨a, b, c, d, rfl⟩ : ∃ a b c d, rs = [a, b, c, d] := len4 (by omega)
    walk_at "w"
    refine w_call hc (by walk_at "mb") h1 hr (by decide) passL ?_
    walk_at "w"
    refine ix_l (.inl (.inl hD)) (show atI ([a, b, c, d].map V.ref) 0 = some (V.ref a) from rfl) ?_
    walk_at "w"
    refine ix_l (.inl (.inl hD)) (show atI ([a, b, c, d].map V.ref) 1 = some (V.ref b) from rfl) ?_
    walk_at "w"
    refine ix_l (.inl (.inl hD)) (show atI ([a, b, c, d].map V.ref) 2 = some (V.ref c) from rfl) ?_
    walk_at "w"
    refine ix_l (.inl (.inl hD)) (show atI ([a, b, c, d].map V.ref) 3 = some (V.ref d) from rfl) ?_
    walk_at "w"
    exact ⟨[a, b, c, d], ls, pt, rfl, hl4, hrd, hpt, q⟩
theorem getD_ref {rs : List Addr} {i : Nat} (hi : i < rs.length) : (rs.map V.ref).getD i .non = .ref (rs.getD i 0) := by
  rw [List.getD_eq_getElem?_getD, List.getElem?_map, List.getElem?_eq_getElem hi, List.getD_eq_getElem?_getD, List.getElem?_eq_getElem hi]; rfl
theorem prG_le {g : List Bool → Nat} {ls : List (List Bool)} : ∀ {i : Nat}, (∀ j, j < i → g (ls.getD j []) ≤ 6) → prG g ls i ≤ 6 ^ i
  | 0, _ => Nat.le_refl _
  | i + 1, h => by
    show prG g ls i * _ ≤ 6 ^ i * 6
    exact Nat.mul_le_mul (prG_le fun j hj => h j (by omega)) (h i (by omega))
def spShare (P : Program) (w : World) (K : PySem.W.Frag) (mg : Str → Option Value) (base : Heap) : Sp := fun vs H Q _ => ∃ (D : Addr) (rs : List Addr) (ls : List (List Bool)), vs = [.ref D] ∧ H D = some (.lst (rs.map V.ref)) ∧ rs.length ≤ 4 ∧ RdAll P w K mg base H rs ls ∧ (∀ j, j < rs.length → Good (ls.getD j []) ∧ (ls.getD j []).length ≤ 6) ∧ ∀ T H', Same H H' → H' T = some (.tup [.int ((shA ls rs.length : Nat) : Int), .int ((shB ls rs.length : Nat) : Int)]) → Q (.ref T) H'
theorem ok__law_share (F : FunD K "_law_share" "_law_share" (defArgs s__law_share) (defBody s__law_share) (defScope s__law_share) [] [] f fd) (hb : ∀ x ∈ BB, mg x = none) (h1 : Fn P w K mg base "density" 5 (spDens K)) : FnR P w K mg base (L2.CX P w) 6 f (spShare P w K mg base) := by
  refine fnr_of F sc__law_share (fun vs H Q E h => ?_) (fun kV doc pm an cdv ct us hl => match us, hl with | [_], _ => rfl) (fun x hx => hb x (by revert x; decide +kernel)) fun cd A outer s0 H vs Q E hr hc h => ?_
  · obtain ⟨D, rs, ls, rfl, _⟩ := h; rfl
  · obtain ⟨D, rs, ls, rfl, hD, hl4, hrd, hg, q⟩ := h
    have hz : sizeLine = 16777216 := sizeLine_eq
    refine wl_start (σ' := [some (.ref D), none, none, none, none]) rfl (wl_cons ?_)
    refine ws_asg ?_
    walk_at "w"
    refine ⟨by show 2 ≤ sizeLine; omega, fun T0 H1 hT0 e1 hT0' => ?_⟩
    refine wg_tup hc (.inl (.inl hT0')) ?_
    walk_at "w"
    have hD1 := e1 _ _ hD
    refine ws_for owns_cx hc ?_
    refine wi_list ?_
    walk_at "w"
    refine ⟨D, _, rfl, .inl (.inl hD1), _, _, wlk_list (.inl (.inl hD1)), fun i σ' H' => Same H1 H' ∧ ∃ o1 o4, σ' = [some (.ref D), o1, some (.int ((shA ls i : Nat) : Int)), some (.int ((shB ls i : Nat) : Int)), o4], ⟨Same.refl _, _, _, rfl⟩, fun i σ' H' h => h.1, fun i σ' H' hi ⟨e2, o1, o4, hσ⟩ => ?_, fun σ' H' ⟨e2, o1, o4, hσ⟩ => ?_⟩
    · subst hσ
      rw [List.length_map] at hi
      rw [getD_ref hi]
      have e12 := e1.trans e2
      obtain ⟨gl, l6⟩ := hg i hi
      have hA := prG_le (g := fun l => cK l / cG l) (ls := ls) (i := i) fun j hj => Nat.le_trans (Nat.div_le_self _ _) (Nat.le_trans (ct_le _ _) (hg j (by omega)).2)
      have hB := prG_le (g := fun l => l.length / cG l) (ls := ls) (i := i) fun j hj => Nat.le_trans (Nat.div_le_self _ _) (hg j (by omega)).2
      have h64 : 6 ^ i ≤ 1296 := Nat.le_trans (Nat.pow_le_pow_right (by decide) (show i ≤ 4 by omega)) (by decide)
      have a6 : cK (ls.getD i []) / cG (ls.getD i []) ≤ 6 := Nat.le_trans (Nat.div_le_self _ _) (Nat.le_trans (ct_le _ _) l6)
      have b6 : (ls.getD i []).length / cG (ls.getD i []) ≤ 6 := Nat.le_trans (Nat.div_le_self _ _) l6
      have hA : shA ls i ≤ 1296 := Nat.le_trans hA h64
      have hB : shB ls i ≤ 1296 := Nat.le_trans hB h64
      refine wg_name hc (by walk_at "put") (by walk_at "mb") ?_
      walk_at "go"
      refine ws_set hc (by walk_at "mb") ?_
      refine w_call hc (by walk_at "mb") h1 hr (by decide) passL ?_
      walk_at "w"
      refine a_rsv hr (by decide) ((hrd i hi).same e12) fun p hs => ?_
      walk_at "w"
      refine ⟨p, _, rfl, hs, fun T H3 e3 hT3 => ?_⟩
      refine ⟨_, by walk_at "put", ?_⟩
      walk_at "go"
      have hT3 : H3 T = some (.tup [.int ((cK (ls.getD i []) / cG (ls.getD i []) : Nat) : Int), .int (((ls.getD i []).length / cG (ls.getD i []) : Nat) : Int)]) := hT3
      have eA : shA ls (i + 1) = shA ls i * (cK (ls.getD i []) / cG (ls.getD i [])) := rfl
      have eB : shB ls (i + 1) = shB ls i * ((ls.getD i []).length / cG (ls.getD i [])) := rfl
      generalize cK (ls.getD i []) / cG (ls.getD i []) = x at hT3 a6 eA
      generalize (ls.getD i []).length / cG (ls.getD i []) = y at hT3 b6 eB
      refine ws_par hc (by kernel_rfl) (by kernel_rfl) (by decide +kernel) ?_ (by with_unfolding_all rfl) (by with_unfolding_all rfl) (by with_unfolding_all rfl) (by with_unfolding_all rfl) ⟨2, 3, rfl, rfl⟩
      walk_at "w"
      refine ix_t (.inl (.inl hT3)) (show atI [V.int ((x : Nat) : Int), V.int ((y : Nat) : Int)] 0 = some (V.int ((x : Nat) : Int)) from rfl) ?_
      refine b_mul (mul_small (by omega) (by omega)) ?_
      walk_at "w"
      refine ix_t (.inl (.inl hT3)) (show atI [V.int ((x : Nat) : Int), V.int ((y : Nat) : Int)] 1 = some (V.int ((y : Nat) : Int)) from rfl) ?_
      refine b_mul (mul_small (by omega) (by omega)) ?_
      refine ⟨_, _, by walk_at "put", by walk_at "put", ?_⟩
      rw [show ((shA ls i : Nat) : Int) * ((x : Nat) : Int) = ((shA ls (i + 1) : Nat) : Int) by rw [eA]; exact (Int.natCast_mul _ _).symm, show ((shB ls i : Nat) : Int) * ((y : Nat) : Int) = ((shB ls (i + 1) : Nat) : Int) by rw [eB]; exact (Int.natCast_mul _ _).symm]
      walk_at "w"
      exact ⟨e2.trans e3, _, _, rfl⟩
    · subst hσ
      rw [List.length_map]
      walk_at "w"
      refine ⟨by show 2 ≤ sizeLine; omega, fun T H3 hT e3 hT3 => ?_⟩
      exact q T H3 (e1.trans (e2.trans e3)) hT3

def orD (pt : List Nat → List Bool) (o : List Nat) : PyData := .tuple [.tuple ((nI o).map PyData.int), .str (sOf (pt o))]
theorem dps_nI {H : Hp} : ∀ o : List Nat, DpAll K H (intsN o) ((nI o).map PyData.int)
  | [] => .nil
  | _ :: o => .cons (.int _) (dps_nI o)
theorem dp_nI {H : Hp} {T : Addr} {o : List Nat} (h : H T = some (.tup (intsN o))) : Dp K H (.ref T) (.tuple ((nI o).map PyData.int)) := .tup (.inl (.inl h)) (dps_nI o)
theorem dps_or {H : Hp} {pt : List Nat → List Bool} : ∀ {Ts : List Addr} {F : List (List Nat)}, Ts.length = F.length → (∀ i, i < F.length → ∃ T, H (Ts.getD i 0) = some (.tup [.ref T, .str (sOf (pt (F.getD i [])))]) ∧ H T = some (.tup (intsN (F.getD i [])))) → DpAll K H (Ts.map V.ref) (F.map (orD pt))
  | [], [], _, _ => .nil
  | t :: Ts, o :: F, hl, h => by
    obtain ⟨T, h1, h2⟩ := h 0 (Nat.succ_pos _)
    exact .cons (.tup (.inl (.inl h1)) (.cons (dp_nI h2) (.cons (.str _) .nil))) (dps_or (Nat.succ.inj hl) fun i hi => h (i + 1) (Nat.succ_lt_succ hi))
  | [], _ :: _, hl, _ => by cases hl
  | _ :: _, [], hl, _ => by cases hl
theorem strOk_sOf30 (l : List Bool) : PyData.strOk (sOf l) = true := by
  show ((sOf l).cps.all fun c => decide (c < 0x110000)) = true
  rw [← Array.all_toList, List.all_eq_true]
  intro c hc
  have : c ∈ l.map sgn := by simpa [sOf] using hc
  obtain ⟨b, _, rfl⟩ := List.mem_map.mp this
  cases b <;> decide
theorem lay_or (pt : List Nat → List Bool) : ∀ F : List (List Nat), PyData.canLayAll0 (F.map (orD pt)) = true
  | [] => by simp [PyData.canLayAll0]
  | o :: F => by
    have h1 := lay_or pt F
    have h2 := lay_ints (nI o)
    simp only [List.map_cons, PyData.canLayAll0, h1, Bool.and_true]
    simp [orD, PyData.canLay0, PyData.canLayAll0, h2, strOk_sOf30]
theorem dep_or (pt : List Nat → List Bool) : ∀ F : List (List Nat), PyData.depthAll (F.map (orD pt)) ≤ 8
  | [] => by simp [PyData.depthAll]
  | o :: F => by
    have h1 := dep_or pt F
    have h2 := depth_ints (nI o)
    simp only [List.map_cons, PyData.depthAll]
    have h3 : PyData.depth (orD pt o) ≤ 8 := by
      unfold orD
      simp only [PyData.depth, PyData.depthAll]
      omega
    omega
theorem shaped_or (pt : List Nat → List Bool) (F : List (List Nat)) : SeqAt.shaped (.list (F.map (orD pt))) = true := by
  have h1 := dep_or pt F
  have h2 : PyData.depth (.list (F.map (orD pt))) ≤ 64 := by simp only [PyData.depth]; omega
  show (PyData.canLay0 (.list (F.map (orD pt))) && decide (PyData.depth (.list (F.map (orD pt))) ≤ 64)) = true
  rw [decide_eq_true h2, Bool.and_true]
  simp only [PyData.canLay0]
  exact lay_or pt F
theorem shaped_nI (o : List Nat) : SeqAt.shaped (.tuple ((nI o).map PyData.int)) = true := by
  have h1 := depth_ints (nI o)
  have h2 : PyData.depth (.tuple ((nI o).map PyData.int)) ≤ 64 := by simp only [PyData.depth]; omega
  show (PyData.canLay0 (.tuple ((nI o).map PyData.int)) && decide (PyData.depth (.tuple ((nI o).map PyData.int)) ≤ 64)) = true
  rw [decide_eq_true h2, Bool.and_true]
  simp only [PyData.canLay0]
  exact lay_ints _
theorem eqv_rfl30 {d : PyData} (h : SeqAt.shaped d = true) : PyData.eqv d d = true := by
  refine SeqAt.eqv_refl_plain d (PyData.plain_of_canLay0 d ?_)
  unfold SeqAt.shaped at h
  simp only [Bool.and_eq_true] at h
  exact h.1
theorem OrdAt.same {H H' : Hp} {p : Addr} {pt : List Nat → List Bool} {F : List (List Nat)} (h : OrdAt H p pt F) (e : Same H H') : OrdAt H' p pt F := by
  obtain ⟨Ts, h1, h2, h3⟩ := h
  exact ⟨Ts, e _ _ h1, h2, fun i hi => by
    obtain ⟨T, a, b⟩ := h3 i hi
    exact ⟨T, e _ _ a, e _ _ b⟩⟩
theorem OrdAt.srt {H : Hp} {pt : List Nat → List Bool} {F : List (List Nat)} {Ts : List Addr} (asc : F.Pairwise fun a b => lxN a b = true) (t1 : Ts.length = F.length) (h : ∀ i, i < F.length → ∃ T, H (Ts.getD i 0) = some (.tup [.ref T, .str (sOf (pt (F.getD i [])))]) ∧ H T = some (.tup (intsN (F.getD i [])))) :
    (∀ x ∈ Ts.map V.ref, ∃ t T, x = V.ref t ∧ H t = some (.tup [.ref T, .str (otz H x)]) ∧ H T = some (.tup ((otk H x).map V.int))) ∧ (∀ x ∈ Ts.map V.ref, ∀ y ∈ Ts.map V.ref, otk H x = otk H y → otz H x = otz H y) ∧ (Ts.map V.ref).Pairwise fun x y => HT.lexLt (otk H x) (otk H y) = true := by
  have gX : ∀ {j : Nat} (h : j < Ts.length), Ts[j] = Ts.getD j 0 := fun h => by rw [List.getD_eq_getElem?_getD, List.getElem?_eq_getElem h]; rfl
  have gF : ∀ {j : Nat} (h : j < F.length), F[j] = F.getD j [] := fun h => by rw [List.getD_eq_getElem?_getD, List.getElem?_eq_getElem h]; rfl
  refine ⟨fun x hx => ?_, fun x hx y hy exy => ?_, ?_⟩
  · obtain ⟨X, hX, rfl⟩ := List.mem_map.mp hx
    obtain ⟨j, hj, rfl⟩ := List.getElem_of_mem hX
    rw [gX hj]
    obtain ⟨T, h1, h2⟩ := h j (by omega)
    exact ⟨_, _, rfl, by rw [otz_at h1]; exact h1, by rw [otk_at h1 h2, nI_v]; exact h2⟩
  · obtain ⟨X, hX, rfl⟩ := List.mem_map.mp hx
    obtain ⟨Y, hY, rfl⟩ := List.mem_map.mp hy
    obtain ⟨j, hj, rfl⟩ := List.getElem_of_mem hX
    obtain ⟨k, hk, rfl⟩ := List.getElem_of_mem hY
    rw [gX hj, gX hk] at *
    obtain ⟨T, h1, h2⟩ := h j (by omega)
    obtain ⟨U, h3, h4⟩ := h k (by omega)
    rw [otk_at h1 h2, otk_at h3 h4] at exy
    rw [otz_at h1, otz_at h3, nI_inj exy]
  · rw [List.pairwise_map, List.pairwise_iff_getElem]
    rw [List.pairwise_iff_getElem] at asc
    intro j k hj hk hjk
    obtain ⟨T, h1, h2⟩ := h j (by omega)
    obtain ⟨U, h3, h4⟩ := h k (by omega)
    rw [gX hj, gX hk, otk_at h1 h2, otk_at h3 h4]
    have := asc j k (by omega) (by omega) hjk
    rw [gF, gF] at this
    exact this
theorem count_one {pt : List Nat → List Bool} : ∀ {F : List (List Nat)}, F.Pairwise (fun a b => pt a ≠ pt b) → ∀ {o : List Nat}, o ∈ F → (F.map fun a => sOf (pt a)).countP (fun y => decide (y = sOf (pt o))) = 1
  | [], _, _, h => nomatch h
  | a :: F, hp, o, h => by
    obtain ⟨h1, h2⟩ := List.pairwise_cons.mp hp
    rw [List.map_cons, List.countP_cons]
    rcases List.mem_cons.mp h with rfl | h
    · have : (F.map fun a => sOf (pt a)).countP (fun y => decide (y = sOf (pt o))) = 0 := by
        rw [List.countP_eq_zero]
        intro y hy e
        obtain ⟨b, hb, rfl⟩ := List.mem_map.mp hy
        exact h1 b hb (sOf_inj (of_decide_eq_true e)).symm
      rw [this, decide_eq_true rfl]; rfl
    · rw [count_one h2 h, decide_eq_false (fun e => h1 o h (sOf_inj e))]; rfl
/-- the orders of two rounds -/
theorem fnd_two (pt : List Nat → List Bool) : (fndL pt (prm 2)).length = 1 ↔ pt [0, 1] = pt [1, 0] := by
  have e : prm 2 = [[0, 1], [1, 0]] := by decide +kernel
  rw [e]
  unfold fndL
  simp only [List.foldl_cons, List.foldl_nil]
  have e1 : addF pt [] [0, 1] = [[0, 1]] := rfl
  rw [e1]
  unfold addF
  by_cases h : pt [0, 1] = pt [1, 0]
  · simp [h]
  · simp [h]
def LstR (P : Program) (w : World) (K : PySem.W.Frag) (mg : Str → Option Value) (base : Heap) (H : Hp) (rs : List Addr) (ls : List (List Bool)) (i : Nat) : Prop := rs.length = i ∧ ls.length = i ∧ ∀ j, j < i → RdAt P w K mg base H (rs.getD j 0) (ls.getD j []) ∧ Good (ls.getD j []) ∧ (ls.getD j []).length ≤ 6
theorem at_ref {rs : List Addr} {i : Nat} (h : i < rs.length) : atI (rs.map V.ref) ((i : Nat) : Int) = some (V.ref (rs.getD i 0)) := by
  unfold atI
  rw [show ixN (rs.map V.ref).length ((i : Nat) : Int) = some i by
    unfold ixN
    rw [List.length_map, if_pos (by omega), if_pos (by omega)]; simp]
  show (rs.map V.ref)[i]? = _
  rw [List.getElem?_map, List.getElem?_eq_getElem h, List.getD_eq_getElem?_getD (l := rs), List.getElem?_eq_getElem h]; rfl
theorem rd_prm {H : Hp} {rs : List Addr} {ls : List (List Bool)} {o : List Nat} (hrd : RdAll P w K mg base H rs ls) (ho : ∀ i ∈ o, i < rs.length) : RdAll P w K mg base H (o.map fun j => rs.getD j 0) (prmS ls o) := fun q hq => by
  rw [List.length_map] at hq
  have gd : ∀ {α : Type} (g : Nat → α) (dd : α), (o.map g).getD q dd = g (o.getD q 0) := fun g dd => by
    rw [List.getD_eq_getElem?_getD, List.getElem?_map, List.getElem?_eq_getElem hq, List.getD_eq_getElem?_getD, List.getElem?_eq_getElem hq]; rfl
  rw [gd (fun j => rs.getD j 0) 0]
  unfold prmS
  rw [gd (fun j => ls.getD j []) []]
  exact hrd _ (by
    rw [List.getD_eq_getElem?_getD, List.getElem?_eq_getElem hq]
    exact ho _ (List.getElem_mem _))
theorem mem_getD {o : List Nat} {q n : Nat} (ho : ∀ i ∈ o, i < n) (hq : q < o.length) : o.getD q 0 < n := by
  rw [List.getD_eq_getElem?_getD, List.getElem?_eq_getElem hq]
  exact ho _ (List.getElem_mem _)
/-- two rounds may be exchanged exactly if their orders leave one pattern -/
theorem exch_iff {l m : List Bool} {pt : List Nat → List Bool} (h : PtOk [l, m] 2 pt) : (fndL pt (prm 2)).length = 1 ↔ ∀ n, cmp (kp l) (kp m) n = cmp (kp m) (kp l) n := by
  have m1 : [0, 1] ∈ prm 2 := by decide +kernel
  have m2 : [1, 0] ∈ prm 2 := by decide +kernel
  have e1 : ∀ k, kp (pt [0, 1]) k = cmp (kp l) (kp m) k := fun k => by
    rw [h.stg _ m1 k]
    show cmp (cmp (fun _ => true) (kp l)) (kp m) k = _
    rw [cmp_top]
  have e2 : ∀ k, kp (pt [1, 0]) k = cmp (kp m) (kp l) k := fun k => by
    rw [h.stg _ m2 k]
    show cmp (cmp (fun _ => true) (kp m)) (kp l) k = _
    rw [cmp_top]
  rw [fnd_two]
  constructor
  · intro e n
    rw [← e1, ← e2, e]
  · intro e
    exact (h.good _ m1).uniq (h.good _ m2) fun n => by rw [e1, e2, e n]

def spLaw (K : PySem.W.Frag) : Sp := fun vs H Q _ => ∃ (a : Addr) (ns : List Int), vs = [.ref a] ∧ SqL K H a (ns.map V.int) ∧ ns.length ≤ 63 ∧ ∀ H', Q (.bl true) H'
theorem ok_law (F : FunD K "law" "law" (defArgs s_law) (defBody s_law) (defScope s_law) [] [] f fd) (hb : ∀ x ∈ BB, mg x = none) (SC : SvC K mg) (RW : ClF K mg "Row" ["parts", "stages"])
    (h1 : Fn P w K mg base "_law_pool" 2 (spPool K)) (h2 : Fn P w K mg base "_law_take" 2 spTakeW) (h3 : Fn P w K mg base "_law_spec" 4 spSpec30) (h4 : Fn P w K mg base "_law_round" 9 (spRound P w K mg base)) (h5 : Fn P w K mg base "_law_orders" 22 (spLOrd P w K mg base)) (h6 : Fn P w K mg base "_law_share" 6 (spShare P w K mg base)) (h7 : Fn P w K mg base "_law_row" 12 (spLRow P w K mg base)) (h8 : Fn P w K mg base "_law_shuffle" 3 spShuf) (h9 : Fn P w K mg base "density" 5 (spDens K)) (hX : Fn P w K mg base "may_exchange" 8 (spExch P w K mg base)) (hO : Fn P w K mg base "orders" 21 (spOrd P w K mg base)) (hM : Mkr P w K mg base (cS K) 4 (spSvInit K)) (hSv : RwP P w K mg base "sieve" (spRowSv K)) (hPt : SvP P w K mg base "pattern" (spPat K)) : FnOk P w K mg base (L2.CX P w) 23 f fd ["_law_script"] (spLaw K) := by
  refine fnr_ofD F sc_law (fun vs H Q E h => ?_) (fun x hx => hb x (by revert x; decide +kernel)) fun cd A outer s H vs Q E hr hc h => ?_
  · obtain ⟨a, ns, rfl, _⟩ := h; rfl
  obtain ⟨sc, ns, rfl, hsc, hns, q⟩ := h
  have hz : sizeLine = 16777216 := sizeLine_eq
  refine wl_start (σ' := [some (.ref sc), none, none, none, none, none, none, none, none, none, none, none, none, none]) rfl (wl_cons ?_)
  refine ws_for owns_cx hc ?_
  refine wi_range1 hc (by walk_at "mb") ?_
  walk_at "w"
  refine ⟨_, .inl ⟨_, hsc, rfl⟩, ?_⟩
  refine ⟨_, _, rfl, rfl, ?_⟩
  refine ⟨_, _, rfl, rfl, ?_⟩
  refine ⟨_, rfl, ?_⟩
  generalize hN : (if (if ((List.map V.int ns).length : Int) < 30 then ((List.map V.int ns).length : Int) else 30) > 1 then (if ((List.map V.int ns).length : Int) < 30 then ((List.map V.int ns).length : Int) else 30) else 1) = NN
  have hNN : 0 ≤ NN ∧ NN ≤ 30 := by
    rw [← hN]
    have : (0 : Int) ≤ ((List.map V.int ns).length : Int) := Int.natCast_nonneg _
    split <;> split <;> omega
  refine ⟨by omega, by omega, ?_⟩
  refine ⟨_, _, wlk_range, fun i σ' H' => Same H H' ∧ ∃ o1 o2 o3 o4 o5 o6 o7 o8 o9, σ' = [some (.ref sc), o1, o2, o3, o4, o5, o6, o7, o8, o9, none, none, none, none], ⟨Same.refl _, _, _, _, _, _, _, _, _, _, rfl⟩, fun i σ' H' h => h.1, fun i σ' H0 hi ⟨eH, o1, o2, o3, o4, o5, o6, o7, o8, o9, hσ⟩ => ?_, fun σ' Ha ⟨eH, o1, o2, o3, o4, o5, o6, o7, o8, o9, hσ⟩ => ?_⟩
  rotate_left
  · subst hσ
    walk_at "w"
    exact q _
  subst hσ
  rw [show (0 : Int) + (i : Nat) = ((i : Nat) : Int) by omega]
  refine wg_name hc (by walk_at "put") (by walk_at "mb") ?_
  walk_at "go"
  walk_at "w"
  refine w_call hc (by walk_at "mb") h1 hr (by decide) passL ?_
  walk_at "w"
  refine ⟨sc, ns, i, rfl, Same.seq eH hsc, hns, by omega, fun p H1 hp e1 hp1 => ?_⟩
  refine ⟨_, by walk_at "put", ?_⟩
  walk_at "go"
  refine ws_set hc (by walk_at "mb") ?_
  refine w_lcH hc (own := bO_law_0) (by kernel_rfl) (fun i acc H' => ∃ rs ls, acc = rs.map V.ref ∧ LstR P w K mg base H' rs ls i) ?_
  refine wi_range1 hc (by walk_at "mb") ?_
  walk_at "w"
  refine w_call hc (by walk_at "mb") h2 hr (by decide) passL ?_
  refine wa_cons (w_name hc (by walk_at "at") (by walk_at "mb") ?_)
  refine wa_cons (WE.imp (Q := fun v H' => ∃ m : Nat, v = .int ((m : Nat) : Int) ∧ 2 ≤ m ∧ m ≤ 3 ∧ H' = H1) ?_ fun v H' ⟨m, hv, m2, m3, hH⟩ => ?_)
  · refine w_if ?_
    walk_at "w"
    by_cases h6 : ((i : Nat) : Int) < 6
    · rw [decide_eq_true h6]
      walk_at "w"
      exact ⟨by decide, by decide, rfl⟩
    · rw [decide_eq_false h6]
      walk_at "w"
      exact ⟨by decide, by decide, rfl⟩
  subst hv hH
  walk_at "w"
  refine ⟨p, m, rfl, hp1, by omega, Nat.lt_of_le_of_lt m3 (by decide +kernel), fun rr hrr => ?_⟩
  walk_at "w"
  rw [show (2 : Int) + (rr : Nat) = ((rr + 2 : Nat) : Int) by omega]
  generalize hn : rr + 2 = n
  have hn2 : 2 ≤ n := by omega
  have hn4 : n ≤ 4 := by omega
  refine ⟨by omega, by omega, _, _, wlk_range, by omega, fun D hD => ⟨[], [], rfl, rfl, rfl, fun j hj => absurd hj (Nat.not_lt_zero _)⟩, fun i acc acc' H' D hi hD hS hDa ⟨rs', ls', ea', hr'⟩ ⟨rs, ls, ea, l1, l2, hl⟩ => ⟨rs, ls, ea, l1, l2, fun j hj => ⟨(hl j hj).1.frame Fr.upd ⟨fun C dx fs z => (by rw [hDa] at z; cases z), fun xs z x hx => ?_⟩, (hl j hj).2⟩⟩, fun i acc H' hi hla hP hS => ?_, fun acc D H2 hla hP hD hS hDa => ?_⟩
  · rw [hDa] at z
    injection z with z
    injection z with z
    subst z
    rw [ea'] at hx
    obtain ⟨b, _, rfl⟩ := List.mem_map.mp hx
    exact ⟨b, rfl⟩
  · intro X1 b1
    have c1 := nm_blk (L' := bL_law_0) (S' := bS_law_0) (G' := bG_law_0) (B' := bB_law_0) b1 hc (by kernel_rfl) (fun x hx => nomatch hx)
    simp only [wipe, List.map_cons, List.map_nil, List.set_cons_succ, List.set_cons_zero]
    walk_at "w"
    refine ⟨rfl, rfl, ?_⟩
    intro X2 b2
    refine wts_nil ?_
    refine ⟨Same.refl _, ite_t ?_⟩
    intro X3 b3
    have c3 := nm_blk (L' := bL_law_0) (S' := bS_law_0) (G' := bG_law_0) (B' := bB_law_0) b3 hc (by kernel_rfl) (fun x hx => nomatch hx)
    obtain ⟨_, _, _, _, _, rfl⟩ := b3
    refine w_call c3 (by walk_at "mb") h4 hr (by decide) passL ?_
    refine wa_cons ?_
    refine w_call c3 (by walk_at "mb") h3 hr (by decide) passL ?_
    walk_at "w"
    refine ⟨p, rfl, hS _ _ hp1, fun d T H3 hd hd6 hT e3 hT3 => ?_⟩
    walk_at "w"
    refine ⟨T, d, rfl, hT3, hd, fun r l H4 e4 gl kl _ hrd => ?_⟩
    have e34 := e3.trans e4
    have hl6 : l.length ≤ 6 := by
      have pd := (SpD.pat hd).1
      exact Nat.le_trans (gl.le pd.one (by rw [show kp l = kp d.sg from funext kl]; exact kp_per _)) hd6
    obtain ⟨rs, ls, ea, l1, l2, hl⟩ := hP
    refine ⟨e34, ⟨rs, ls, ea, l1, l2, fun j hj => ⟨(hl j hj).1.same e34, (hl j hj).2⟩⟩, rs ++ [r], ls ++ [l], by rw [ea, List.map_append]; rfl, by rw [List.length_append, l1]; rfl, by rw [List.length_append, l2]; rfl, fun j hj => ?_⟩
    rw [getD_snoc, getD_snoc, l1, l2]
    by_cases z : j < i
    · rw [if_pos z, if_pos z]
      exact ⟨(hl j z).1.same e34, (hl j z).2⟩
    · rw [if_neg z, if_neg z, if_pos (by omega), if_pos (by omega)]
      exact ⟨hrd, gl, hl6⟩
  obtain ⟨rs, ls, rfl, hL⟩ := hP
  rw [Int.toNat_natCast] at hL
  obtain ⟨l1, l2, hl⟩ := hL
  subst l1
  refine ⟨_, by walk_at "put", ?_⟩
  walk_at "go"
  have s2 : Same H0 H2 := e1.trans hS
  obtain ⟨pt, hpt⟩ := ptOk_ex hn4 (fun j hj => (hl j hj).2.1) (fun j hj => (hl j hj).2.2)
  have hrd2 : RdAll P w K mg base H2 rs ls := fun j hj => (hl j hj).1
  have hgd : ∀ j, j < rs.length → Good (ls.getD j []) ∧ (ls.getD j []).length ≤ 6 := fun j hj => (hl j hj).2
  have hdens : ∀ o ∈ prm rs.length, (cK (pt o) / cG (pt o)) * shB ls rs.length = ((pt o).length / cG (pt o)) * shA ls rs.length := fun o ho => dens_all l2 (fun j hj => (hgd j hj).1.toPat) (prm_perm rs.length hn4 o ho) (hpt.good o ho) (fun k => hpt.stg o ho k)
  have hshA : shA ls rs.length ≤ 1296 := Nat.le_trans (prG_le fun j hj => Nat.le_trans (Nat.div_le_self _ _) (Nat.le_trans (ct_le _ _) (hgd j hj).2)) (Nat.le_trans (Nat.pow_le_pow_right (by decide) hn4) (by decide))
  have hshB : shB ls rs.length ≤ 1296 := Nat.le_trans (prG_le fun j hj => Nat.le_trans (Nat.div_le_self _ _) (hgd j hj).2) (Nat.le_trans (Nat.pow_le_pow_right (by decide) hn4) (by decide))
  refine ws_set hc (by walk_at "mb") ?_
  refine w_call hc (by walk_at "mb") h5 hr (by decide) passL ?_
  walk_at "w"
  refine ⟨D, rs, ls, pt, rfl, hDa, hn2, hn4, hrd2, hpt, fun pO H3 e3 hO3 => ?_⟩
  refine ⟨_, by walk_at "put", ?_⟩
  walk_at "go"
  have hasc := fndL_asc pt hn4
  have hdif := fndL_dif pt (prm rs.length)
  have hsub := fndL_sub pt (prm rs.length)
  have hhd := fndL_hd (pt := pt) hn4
  have hfirst := fun o (ho : o ∈ prm rs.length) => fndL_first (pt := pt) hn4 ho
  have hplen := prm_len rs.length (by omega)
  generalize fndL pt (prm rs.length) = F at *
  have hFl : F.length ≤ 720 := Nat.le_trans hsub.length_le hplen
  have hmemF : ∀ {j : Nat}, j < F.length → F.getD j [] ∈ F := fun {j} hj => by
    rw [List.getD_eq_getElem?_getD, List.getElem?_eq_getElem hj]
    exact List.getElem_mem _
  obtain ⟨F0, hF0⟩ : 0 < F.length ∧ F.getD 0 [] = List.range rs.length := by
    cases F with
    | nil => cases hhd
    | cons a F => exact ⟨Nat.succ_pos _, Option.some.inj hhd⟩
  obtain ⟨Ts, t1, t2, t3⟩ := id hO3
  refine ws_par hc (by kernel_rfl) (by kernel_rfl) (by decide +kernel) ?_ (by with_unfolding_all rfl) (by with_unfolding_all rfl) (by with_unfolding_all rfl) (by with_unfolding_all rfl) ⟨7, 8, rfl, rfl⟩
  refine w_lc hc (own := bO_law_1) (by kernel_rfl) (fun i acc => acc = (F.take i).map fun a => V.str (sOf (pt a))) ?_
  refine wi_list ?_
  walk_at "w"
  refine ⟨pO, _, rfl, .inl (.inl t1), _, _, wlk_list (.inl (.inl t1)), by rw [List.length_map]; omega, rfl, fun i acc H' hi hla hP hS4 => ?_, fun acc D2 H4 hla hP hD2 hS4 hDa2 => ?_⟩
  · rw [List.length_map, t2] at hi
    rw [getD_ref (by omega)]
    obtain ⟨T, hT1, hT2⟩ := t3 i hi
    intro X1 b1
    have c1 := nm_blk (L' := bL_law_1) (S' := bS_law_1) (G' := bG_law_1) (B' := bB_law_1) b1 hc (by kernel_rfl) (fun x hx => nomatch hx)
    simp only [wipe, List.map_cons, List.map_nil, List.set_cons_succ, List.set_cons_zero]
    refine wg_tup c1 (.inl (.inl (hS4 _ _ hT1))) ?_
    walk_at "w"
    refine ⟨rfl, rfl, ?_⟩
    intro X2 b2
    refine wts_nil ?_
    refine ⟨Same.refl _, ite_t ?_⟩
    intro X3 b3
    have c3 := nm_blk (L' := bL_law_1) (S' := bS_law_1) (G' := bG_law_1) (B' := bB_law_1) b3 hc (by kernel_rfl) (fun x hx => nomatch hx)
    obtain ⟨_, _, _, _, _, rfl⟩ := b3
    walk_at "w"
    exact ⟨Same.refl _, by rw [hP, takeN (d := []) hi, List.map_append]; rfl⟩
  rw [List.length_map, t2, List.take_length] at hP
  subst hP
  have hrd4 := (hrd2.same e3).same hS4
  refine w_call hc (by walk_at "mb") h6 hr (by decide) passL ?_
  walk_at "w"
  refine ⟨D, rs, ls, rfl, hS4 _ _ (e3 _ _ hDa), hn4, hrd4, fun j hj => (hl j hj).2, fun T5 H5 e5 hT5 => ?_⟩
  refine ⟨_, _, by walk_at "put", by walk_at "put", ?_⟩
  walk_at "go"
  have e35 := hS4.trans e5
  have hO5 := hO3.same e35
  have t15 := e35 _ _ t1
  have t35 : ∀ j, j < F.length → ∃ T, H5 (Ts.getD j 0) = some (.tup [.ref T, .str (sOf (pt (F.getD j [])))]) ∧ H5 T = some (.tup (intsN (F.getD j []))) := fun j hj => by
    obtain ⟨T, a, b⟩ := t3 j hj
    exact ⟨T, e35 _ _ a, e35 _ _ b⟩
  have hpats := e5 _ _ hDa2
  have hD5 := e35 _ _ (e3 _ _ hDa)
  have hrd5 := hrd4.same e5
  obtain ⟨q1, q2, q3⟩ := OrdAt.srt hasc t2 t35
  walk_at "w"
  refine x_sortedOT hc (by walk_at "mb") hr.units ?_
  walk_at "w"
  refine ⟨pO, _, _, _, rfl, .inl (.inl t15), q1, q2, q3, fun p6 hp6 => ?_⟩
  have e6 := same_new (o := .lst (Ts.map V.ref)) hp6
  have hp6' : upd H5 p6 (.lst (Ts.map V.ref)) p6 = some (.lst (Ts.map V.ref)) := upd_same
  have t36 : ∀ j, j < F.length → ∃ T, upd H5 p6 (.lst (Ts.map V.ref)) (Ts.getD j 0) = some (.tup [.ref T, .str (sOf (pt (F.getD j [])))]) ∧ upd H5 p6 (.lst (Ts.map V.ref)) T = some (.tup (intsN (F.getD j []))) := fun j hj => by
    obtain ⟨T, a, b⟩ := t35 j hj
    exact ⟨T, e6 _ _ a, e6 _ _ b⟩
  generalize upd H5 p6 (.lst (Ts.map V.ref)) = H6 at *
  refine b_neD hr.units (.lst (.inl (.inl (e6 _ _ t15))) (dps_or t2 t36)) (.lst (.inl (.inl hp6')) (dps_or t2 t36)) (shaped_or pt F) (shaped_or pt F) ?_
  rw [eqv_rfl30 (shaped_or pt F)]
  walk_at "w"
  obtain ⟨T0, h00, h01⟩ := t36 0 F0
  rw [hF0] at h01
  refine ix_l (.inl (.inl (e6 _ _ t15))) (show atI (Ts.map V.ref) 0 = some (V.ref (Ts.getD 0 0)) from at_ref (i := 0) (by omega)) ?_
  walk_at "w"
  refine ix_t (.inl (.inl h00)) (show atI [V.ref T0, V.str (sOf (pt (F.getD 0 [])))] 0 = some (V.ref T0) from rfl) ?_
  refine x_tupRg hc (by walk_at "mb") (by walk_at "mb") ?_
  walk_at "w"
  refine ⟨_, .inl ⟨_, .inl (.inl (e6 _ _ hD5)), rfl⟩, ?_⟩
  rw [List.length_map]
  refine ⟨rs.length, rfl, by omega, fun p7 H7 hp7 e7 hp7' => ?_⟩
  have hp7' : H7 p7 = some (.tup (intsN (List.range rs.length))) := hp7'
  refine b_neD hr.units (dp_nI (e7 _ _ h01)) (dp_nI hp7') (shaped_nI _) (shaped_nI _) ?_
  rw [eqv_rfl30 (shaped_nI _)]
  refine ⟨_, rfl, ?_⟩
  walk_at "w"
  have e57 := e6.trans e7
  have t17 := e57 _ _ t15
  have t37 : ∀ j, j < F.length → ∃ T, H7 (Ts.getD j 0) = some (.tup [.ref T, .str (sOf (pt (F.getD j [])))]) ∧ H7 T = some (.tup (intsN (F.getD j []))) := fun j hj => by
    obtain ⟨T, a, b⟩ := t36 j hj
    exact ⟨T, e7 _ _ a, e7 _ _ b⟩
  have hpats7 := e57 _ _ hpats
  have hD7 := e57 _ _ hD5
  have hT57 := e57 _ _ hT5
  have hrd7 := hrd5.same e57
  have hp17 := e57 _ _ (e35 _ _ (e3 _ _ (hS _ _ hp1)))
  have e27 : Same H0 H7 := s2.trans (e3.trans (e35.trans e57))
  refine ws_for owns_cx hc ?_
  refine wi_list ?_
  walk_at "w"
  refine ⟨pO, _, rfl, .inl (.inl t17), _, _, wlk_list (.inl (.inl t17)), fun j σ' H' => Same H7 H' ∧ ∃ o5 o6 o9, σ' = [some (.ref sc), some (.int ((i : Nat) : Int)), some (.ref p), some (.ref D), some (.ref pO), o5, o6, some (.ref D2), some (.ref T5), o9, none, none, none, none], ⟨Same.refl _, _, _, _, rfl⟩, fun j σ' H' h => h.1, fun j σ' H8 hj ⟨e8, o5, o6, o9, hσ⟩ => ?_, fun σ' H8 ⟨e8, o5, o6, o9, hσ⟩ => ?_⟩
  · subst hσ
    rw [List.length_map, t2] at hj
    rw [getD_ref (by omega)]
    obtain ⟨T, hT1, hT2⟩ := t37 j hj
    have hm := hmemF hj
    generalize F.getD j [] = o at hT1 hT2 hm
    have hoP : o ∈ prm rs.length := hsub.subset hm
    obtain ⟨ol1, ol2⟩ := prm_lt _ o hoP
    have gP := hpt.good o hoP
    refine wg_tup hc (.inl (.inl (e8 _ _ hT1))) ?_
    walk_at "w"
    refine w_call hc (by walk_at "mb") h9 hr (by decide) passL ?_
    refine wa_cons ?_
    refine w_make hc (by walk_at "mb") SC.g hM hr (by decide) passL ?_
    walk_at "w"
    refine made_sv ⟨gP.toPat, fun a m H9 e9 gm km dm hs => ?_⟩
    obtain rfl : m = pt o := gm.uniq gP km
    walk_at "w"
    refine ⟨a, pt o, rfl, hs, fun T9 HA eA hTA => ?_⟩
    refine ⟨_, by walk_at "put", ?_⟩
    walk_at "go"
    walk_at "w"
    have e7A := e8.trans (e9.trans eA)
    have hT2A := e7A _ _ hT2
    have hDA := e7A _ _ hD7
    have hrdA := hrd7.same e7A
    refine w_call hc (by walk_at "mb") h7 hr (by decide) passL ?_
    refine wa_cons ?_
    refine w_lc hc (own := bO_law_2) (by kernel_rfl) (fun q acc => acc = (o.take q).map fun j => V.ref (rs.getD j 0)) ?_
    refine wi_tup ?_
    walk_at "w"
    refine ⟨T, _, rfl, .inl (.inl hT2A), _, _, wlk_tup (.inl (.inl hT2A)), by rw [intsN_len]; omega, rfl, fun q acc HB hq hl hP hSB => ?_, fun acc DB HB hl hP hDB hSB hDaB => ?_⟩
    · rw [intsN_len] at hq
      rw [ints_getD hq]
      intro X1 b1
      have c1 := nm_blk (L' := bL_law_2) (S' := bS_law_2) (G' := bG_law_2) (B' := bB_law_2) b1 hc (by kernel_rfl) (fun x hx => nomatch hx)
      simp only [wipe, List.map_cons, List.map_nil, List.set_cons_succ, List.set_cons_zero]
      refine wg_name c1 (by walk_at "put") (by walk_at "mb") ?_
      refine ⟨rfl, rfl, ?_⟩
      intro X2 b2
      refine wts_nil ?_
      refine ⟨Same.refl _, ite_t ?_⟩
      intro X3 b3
      have c3 := nm_blk (L' := bL_law_2) (S' := bS_law_2) (G' := bG_law_2) (B' := bB_law_2) b3 hc (by kernel_rfl) (fun x hx => nomatch hx)
      obtain ⟨_, _, _, _, _, rfl⟩ := b3
      walk_at "w"
      refine ix_l (.inl (.inl (hSB _ _ hDA))) (at_ref (mem_getD ol2 hq)) ?_
      exact ⟨Same.refl _, by rw [hP, takeN (d := 0) hq, List.map_append]; rfl⟩
    rw [intsN_len, List.take_length] at hP
    subst hP
    walk_at "w"
    refine ⟨DB, o.map fun j => rs.getD j 0, prmS ls o, rfl, by rw [List.map_map]; exact hDaB, (rd_prm hrdA ol2).same hSB, by rw [List.length_map]; omega, by rw [List.length_map, ol1]; exact hpt.lim o hoP, fun r HC eC hrow => ?_⟩
    obtain ⟨d1, tt1, pp1, qs1, ms1, r1, _⟩ := id hrow
    obtain ⟨pp, gg, hpp, FF⟩ := hSv.ex
    refine a_prop (E := E0) RW.cls hpp FF (hr.mono (by decide)) r1 ⟨r, _, _, rfl, hrow, fun sp m hs2 hk => ?_⟩
    rw [List.length_map, ol1] at hk
    obtain rfl : m = pt o := hs2.1.uniq gP fun k => by rw [hk k, hpt.stg o hoP k]
    refine a_svp SC hPt hr (by decide) hs2 ⟨sp, _, rfl, hs2, ?_⟩
    walk_at "w"
    rw [decide_eq_true rfl]
    walk_at "v"
    refine w_countT ?_
    walk_at "w"
    have eAC := hSB.trans eC
    have e7C := e7A.trans eAC
    have hpatsC : SqL K HC D2 ((F.map fun a => sOf (pt a)).map V.str) := .inl (.inl (by rw [List.map_map]; exact e7C _ _ hpats7))
    refine ⟨D2, _, rfl, hpatsC, ?_⟩
    walk_at "w"
    refine ⟨hpatsC, ?_⟩
    rw [count_one hdif hm]
    walk_at "w"
    rw [show decide (((1 : Nat) : Int) = 1) = true by decide]
    walk_at "w"
    have hTC := eAC _ _ hTA
    have hT5C := e7C _ _ hT57
    have hdn := hdens o hoP
    have hTC : HC T9 = some (.tup [.int ((cK (pt o) / cG (pt o) : Nat) : Int), .int (((pt o).length / cG (pt o) : Nat) : Int)]) := hTC
    have a4 : cK (pt o) / cG (pt o) ≤ 10000 := Nat.le_trans (Nat.div_le_self _ _) (Nat.le_trans (ct_le _ _) gP.most)
    have b4 : (pt o).length / cG (pt o) ≤ 10000 := Nat.le_trans (Nat.div_le_self _ _) gP.most
    generalize cK (pt o) / cG (pt o) = x at hdn hTC a4
    generalize (pt o).length / cG (pt o) = y at hdn hTC b4
    generalize hsa : shA ls rs.length = sa at hdn hT5C hshA
    generalize hsb : shB ls rs.length = sb at hdn hT5C hshB
    refine ix_t (.inl (.inl hTC)) (show atI [V.int ((x : Nat) : Int), V.int ((y : Nat) : Int)] 0 = some (V.int ((x : Nat) : Int)) from rfl) ?_
    walk_at "w"
    refine ix_t (.inl (.inl hT5C)) (show atI [V.int ((sa : Nat) : Int), V.int ((sb : Nat) : Int)] 1 = some (V.int ((sb : Nat) : Int)) from rfl) ?_
    refine b_mul (mul_small (by omega) (by omega)) ?_
    walk_at "w"
    refine ix_t (.inl (.inl hTC)) (show atI [V.int ((x : Nat) : Int), V.int ((y : Nat) : Int)] 1 = some (V.int ((y : Nat) : Int)) from rfl) ?_
    walk_at "w"
    refine ix_t (.inl (.inl hT5C)) (show atI [V.int ((sa : Nat) : Int), V.int ((sb : Nat) : Int)] 0 = some (V.int ((sa : Nat) : Int)) from rfl) ?_
    refine b_mul (mul_small (by omega) (by omega)) ?_
    rw [show ((x : Nat) : Int) * ((sb : Nat) : Int) = ((y : Nat) : Int) * ((sa : Nat) : Int) by rw [← Int.natCast_mul, hdn, Int.natCast_mul]]
    walk_at "w"
    rw [decide_eq_true rfl]
    walk_at "v"
    walk_at "w"
    exact ⟨e7C, _, _, _, rfl⟩
  · subst hσ
    walk_at "w"
    have hp8 := e8 _ _ hp17
    have hD8 := e8 _ _ hD7
    refine w_call hc (by walk_at "mb") h8 hr (by decide) passL ?_
    refine wa_cons (w_name hc (by walk_at "at") (by walk_at "mb") ?_)
    refine wa_cons (x_listRg hc (by walk_at "mb") (by walk_at "mb") ?_)
    walk_at "w"
    refine ⟨_, .inl ⟨_, .inl (.inl hD8), rfl⟩, ?_⟩
    rw [List.length_map]
    refine ⟨rs.length, rfl, by omega, fun a9 H9 ha9 e9 ha9' => ?_⟩
    walk_at "w"
    refine ⟨p, a9, List.range rs.length, rfl, e9 _ _ hp8, ha9', by rw [List.length_range]; omega, fun r o HA hr0 eA hoA hperm => ?_⟩
    refine ⟨_, by walk_at "put", ?_⟩
    walk_at "go"
    have hoP := prm_mem hn4 hperm
    obtain ⟨ol1, ol2⟩ := prm_lt _ o hoP
    have gP := hpt.good o hoP
    have e7A := e8.trans (e9.trans eA)
    have hDA := e7A _ _ hD7
    have hrdA := hrd7.same e7A
    refine ws_set hc (by walk_at "mb") ?_
    walk_at "w"
    refine w_call hc (by walk_at "mb") h7 hr (by decide) passL ?_
    refine wa_cons ?_
    refine w_lc hc (own := bO_law_3) (by kernel_rfl) (fun q acc => acc = (o.take q).map fun j => V.ref (rs.getD j 0)) ?_
    refine wi_list ?_
    walk_at "w"
    refine ⟨r, _, rfl, .inl (.inl hoA), _, _, wlk_list (.inl (.inl hoA)), by rw [intsN_len]; omega, rfl, fun q acc HB hq hl hP hSB => ?_, fun acc DB HB hl hP hDB hSB hDaB => ?_⟩
    · rw [intsN_len] at hq
      rw [ints_getD hq]
      intro X1 b1
      have c1 := nm_blk (L' := bL_law_3) (S' := bS_law_3) (G' := bG_law_3) (B' := bB_law_3) b1 hc (by kernel_rfl) (fun x hx => nomatch hx)
      simp only [wipe, List.map_cons, List.map_nil, List.set_cons_succ, List.set_cons_zero]
      refine wg_name c1 (by walk_at "put") (by walk_at "mb") ?_
      refine ⟨rfl, rfl, ?_⟩
      intro X2 b2
      refine wts_nil ?_
      refine ⟨Same.refl _, ite_t ?_⟩
      intro X3 b3
      have c3 := nm_blk (L' := bL_law_3) (S' := bS_law_3) (G' := bG_law_3) (B' := bB_law_3) b3 hc (by kernel_rfl) (fun x hx => nomatch hx)
      obtain ⟨_, _, _, _, _, rfl⟩ := b3
      walk_at "w"
      refine ix_l (.inl (.inl (hSB _ _ hDA))) (at_ref (mem_getD ol2 hq)) ?_
      exact ⟨Same.refl _, by rw [hP, takeN (d := 0) hq, List.map_append]; rfl⟩
    rw [intsN_len, List.take_length] at hP
    subst hP
    walk_at "w"
    refine ⟨DB, o.map fun j => rs.getD j 0, prmS ls o, rfl, by rw [List.map_map]; exact hDaB, (rd_prm hrdA ol2).same hSB, by rw [List.length_map]; omega, by rw [List.length_map, ol1]; exact hpt.lim o hoP, fun rw' HC eC hrow => ?_⟩
    obtain ⟨d1, tt1, pp1, qs1, ms1, r1, _⟩ := id hrow
    obtain ⟨pp, gg, hpp, FF⟩ := hSv.ex
    refine a_prop (E := E0) RW.cls hpp FF (hr.mono (by decide)) r1 ⟨rw', _, _, rfl, hrow, fun sp m hs2 hk => ?_⟩
    rw [List.length_map, ol1] at hk
    obtain rfl : m = pt o := hs2.1.uniq gP fun k => by rw [hk k, hpt.stg o hoP k]
    refine a_svp SC hPt hr (by decide) hs2 ⟨sp, _, rfl, hs2, ?_⟩
    refine ⟨_, by walk_at "put", ?_⟩
    walk_at "go"
    have e7C := e7A.trans (hSB.trans eC)
    have hDC := e7C _ _ hD7
    have hrdC := hrd7.same e7C
    have t1C := e7C _ _ t17
    have hoC := eC _ _ (hSB _ _ hoA)
    obtain ⟨fa, hfa, hfe, hfl⟩ := hfirst o hoP
    walk_at "w"
    refine w_lc hc (own := bO_law_4) (by kernel_rfl) (fun q acc => (∃ j, j < q ∧ pt (F.getD j []) = pt o ∧ leN (F.getD j []) o = true) → acc ≠ []) ?_
    refine wi_list ?_
    walk_at "w"
    refine ⟨pO, _, rfl, .inl (.inl t1C), _, _, wlk_list (.inl (.inl t1C)), by rw [List.length_map]; omega, fun ⟨j, hj, _⟩ => absurd hj (Nat.not_lt_zero _), fun q acc HE hq hl hP hSE => ?_, fun acc DE HE hl hP hDE hSE hDaE => ?_⟩
    · rw [List.length_map, t2] at hq
      rw [getD_ref (by omega)]
      obtain ⟨T, hT1, hT2⟩ := t37 q hq
      intro X1 b1
      have c1 := nm_blk (L' := bL_law_4) (S' := bS_law_4) (G' := bG_law_4) (B' := bB_law_4) b1 hc (by kernel_rfl) (fun x hx => hb x (by revert x; decide +kernel))
      simp only [wipe, List.map_cons, List.map_nil, List.set_cons_succ, List.set_cons_zero]
      refine wg_tup c1 (.inl (.inl (hSE _ _ (e7C _ _ hT1)))) ?_
      walk_at "w"
      refine ⟨rfl, rfl, ?_⟩
      intro X2 b2
      refine wts_one ?_
      have c2 := nm_blk (L' := bL_law_4) (S' := bS_law_4) (G' := bG_law_4) (B' := bB_law_4) b2 hc (by kernel_rfl) (fun x hx => hb x (by revert x; decide +kernel))
      obtain ⟨_, _, _, _, _, rfl⟩ := b2
      walk_at "w"
      have hT2E := hSE _ _ (e7C _ _ hT2)
      by_cases ep : pt (F.getD q []) = pt o
      · rw [ep, decide_eq_true rfl]
        walk_at "v"
        walk_at "w"
        refine x_tupleL c2 (by walk_at "mb") ?_
        walk_at "w"
        refine ⟨r, _, rfl, .inl (.inl (hSE _ _ hoC)), fun p9 HF hp9 eF hp9' => ?_⟩
        refine b_leT (ns := nI (F.getD q [])) (ms := nI o) (Nat.lt_of_le_of_lt (Nat.le_add_right _ _) hr.units) (by rw [nI_v]; exact .inl (.inl (eF _ _ hT2E))) (by rw [nI_v]; exact .inl (.inl hp9')) ?_
        refine ⟨leN (F.getD q []) o, rfl, ?_⟩
        cases hle : leN (F.getD q []) o with
        | true =>
          refine ⟨eF, ite_t ?_⟩
          intro X3 b3
          have c3 := nm_blk (L' := bL_law_4) (S' := bS_law_4) (G' := bG_law_4) (B' := bB_law_4) b3 hc (by kernel_rfl) (fun x hx => hb x (by revert x; decide +kernel))
          obtain ⟨_, _, _, _, _, rfl⟩ := b3
          walk_at "w"
          exact ⟨Same.refl _, fun _ z => by simp at z⟩
        | false =>
          refine ⟨eF, ?_⟩
          rw [if_neg (by decide)]
          rintro ⟨j, hj, hj1, hj2⟩
          by_cases hjq : j = q
          · rw [hjq, hle] at hj2; cases hj2
          · exact hP ⟨j, by omega, hj1, hj2⟩
      · rw [decide_eq_false (fun z => ep (sOf_inj z))]
        walk_at "v"
        refine ⟨Same.refl _, ?_⟩
        rw [if_neg (by decide)]
        rintro ⟨j, hj, hj1, hj2⟩
        by_cases hjq : j = q
        · rw [hjq] at hj1; exact absurd hj1 ep
        · exact hP ⟨j, by omega, hj1, hj2⟩
    rw [List.length_map, t2] at hP
    have hne : acc ≠ [] := hP (by
      obtain ⟨j, hj, e⟩ := List.getElem_of_mem hfa
      refine ⟨j, hj, ?_⟩
      rw [show F.getD j [] = fa by rw [List.getD_eq_getElem?_getD, List.getElem?_eq_getElem hj]; exact e]
      exact ⟨hfe, hfl⟩)
    walk_at "w"
    refine ⟨by show 0 ≤ sizeLine; omega, fun DN HN hDN eN hDN' => ?_⟩
    refine b_eqNil hr.units (eN _ _ hDaE) hDN' ?_
    rw [decide_eq_false hne]
    walk_at "w"
    have eCN := hSE.trans eN
    have hDN2 := eCN _ _ hDC
    have hrdN := hrdC.same eCN
    have g0 := hgd 0 (by omega)
    have g1 := hgd 1 (by omega)
    have r0 := hrdN 0 (by omega)
    have r1 := hrdN 1 (by omega)
    refine w_call hc (by walk_at "mb") hX hr (by decide) passL ?_
    walk_at "w"
    refine ix_l (.inl (.inl hDN2)) (show atI (rs.map V.ref) 0 = some (V.ref (rs.getD 0 0)) from at_ref (i := 0) (by omega)) ?_
    walk_at "w"
    refine ix_l (.inl (.inl hDN2)) (show atI (rs.map V.ref) 1 = some (V.ref (rs.getD 1 0)) from at_ref (i := 1) (by omega)) ?_
    walk_at "w"
    generalize hea : rs.getD 0 0 = ra at r0
    generalize heb : rs.getD 1 0 = rb at r1
    generalize ls.getD 0 [] = l at r0 g0
    generalize ls.getD 1 [] = m at r1 g1
    have cp1 : cper l m ≤ 10000 := Nat.le_trans (cper_le g0.1.toPat g1.1.toPat) (Nat.le_trans (Nat.mul_le_mul g0.2 g1.2) (by decide))
    have cp2 : cper m l ≤ 10000 := Nat.le_trans (cper_le g1.1.toPat g0.1.toPat) (Nat.le_trans (Nat.mul_le_mul g1.2 g0.2) (by decide))
    refine ⟨ra, rb, l, m, rfl, r0, r1, fun z => by omega, fun _ _ bx HG eG hbx => ?_⟩
    obtain ⟨pt2, hpt2⟩ := ptOk_ex (ls := [l, m]) (n := 2) (by decide) (fun j hj => by
      rcases (by omega : j = 0 ∨ j = 1) with rfl | rfl
      · exact g0.1
      · exact g1.1) (fun j hj => by
      rcases (by omega : j = 0 ∨ j = 1) with rfl | rfl
      · exact g0.2
      · exact g1.2)
    have hex := exch_iff hpt2
    walk_at "w"
    refine w_call hc (by walk_at "mb") hO hr (by decide) passL ?_
    walk_at "w"
    refine ix_l (.inl (.inl (eG _ _ hDN2))) (show atI (rs.map V.ref) 0 = some (V.ref ra) by rw [← hea]; exact at_ref (i := 0) (by omega)) ?_
    walk_at "w"
    refine ix_l (.inl (.inl (eG _ _ hDN2))) (show atI (rs.map V.ref) 1 = some (V.ref rb) by rw [← heb]; exact at_ref (i := 1) (by omega)) ?_
    walk_at "w"
    refine ⟨[ra, rb], [l, m], pt2, rfl, (by show 2 ≤ 4; decide), fun j hj => ?_, hpt2, fun pq HI eI hO2 => ?_⟩
    · have hj : j < 2 := hj
      rcases (by omega : j = 0 ∨ j = 1) with rfl | rfl
      · exact r0.same eG
      · exact r1.same eG
    have hO2 : OrdAt HI pq pt2 (fndL pt2 (prm 2)) := hO2
    obtain ⟨Us, u1, u2, _⟩ := hO2
    refine ⟨_, .inl ⟨_, .inl (.inl u1), rfl⟩, ?_⟩
    rw [List.length_map, u2]
    walk_at "w"
    rw [decide_eq_true (show bx = decide (((fndL pt2 (prm 2)).length : Int) = 1) by
      rw [Bool.eq_iff_iff, decide_eq_true_iff, hbx, ← hex]; omega)]
    walk_at "v"
    walk_at "w"
    exact ⟨eH.trans (e27.trans (e7C.trans (eCN.trans (eG.trans eI)))), _, _, _, _, _, _, _, _, _, rfl⟩

end
open He in
theorem factsL {P : Program} {w : World} {K : PySem.W.Frag} {h : Heap} {mg : Str → Option Value} {f : Addr} (X : K.In h) (G : h.Ns mainGlobals mg) (hfa : mg ("law" : Str) = some (.ref f)) (c : SaysY fsL fnL K) (hpf : P.main.file = PySem.Challenge.pw_sieverows_k30_whole_orders_and_exchanges.main.file) (htop : (P.main.scope.names.lookup ("super" : Str)).isSome = false) :
    ∃ fd : FuncData, (∀ (s : Shared) (v : Value), BindsTo s fd ⟨[v], []⟩ [("_law_script", v)]) ∧ ∀ base : Heap, K.In base → base.Ns mainGlobals mg → FnOk P w K mg base (L2.CX P w) 23 f fd ["_law_script"] (spLaw K) := by
  have hb : ∀ x ∈ BB, mg x = none := fun x hx => free_ok X G (SaysY.mem (f := fun K => (Fa.free x).ok K) c (List.mem_append_right _ (List.mem_map.mpr ⟨x, hx, rfl⟩)))
  have eg := hfa.symm.trans (He.glo_ok X G (c.fact 34))
  cases eg
  obtain ⟨fd_LimitExceeded___init__, F_LimitExceeded___init__⟩ : ∃ fd, FunD K "__init__" "LimitExceeded.__init__" (defArgs s_LimitExceeded___init__) (defBody s_LimitExceeded___init__) (defScope s_LimitExceeded___init__) [] [] (He.ma K (He.ga K "LimitExceeded") "__init__") fd := c.def_ 0 rfl
  obtain ⟨fd_is_integer, F_is_integer⟩ : ∃ fd, FunD K "is_integer" "is_integer" (defArgs s_is_integer) (defBody s_is_integer) (defScope s_is_integer) [.int 0] [] (He.ga K "is_integer") fd := c.def_ 1 rfl
  obtain ⟨fd_check_number, F_check_number⟩ : ∃ fd, FunD K "check_number" "check_number" (defArgs s_check_number) (defBody s_check_number) (defScope s_check_number) [] [] (He.ga K "check_number") fd := c.def_ 2 rfl
  obtain ⟨fd_least_pattern, F_least_pattern⟩ : ∃ fd, FunD K "least_pattern" "least_pattern" (defArgs s_least_pattern) (defBody s_least_pattern) (defScope s_least_pattern) [] [] (He.ga K "least_pattern") fd := c.def_ 3 rfl
  obtain ⟨fd_pattern_of, F_pattern_of⟩ : ∃ fd, FunD K "pattern_of" "pattern_of" (defArgs s_pattern_of) (defBody s_pattern_of) (defScope s_pattern_of) [] [] (He.ga K "pattern_of") fd := c.def_ 4 rfl
  obtain ⟨fd_Sieve_is_pattern, F_Sieve_is_pattern⟩ : ∃ fd, FunD K "is_pattern" "Sieve.is_pattern" (defArgs s_Sieve_is_pattern) (defBody s_Sieve_is_pattern) (defScope s_Sieve_is_pattern) [] [] (rcA "staticmethod" "Sieve" "is_pattern" K) fd := c.def_ 6 rfl
  obtain ⟨fd_Sieve___init__, F_Sieve___init__⟩ : ∃ fd, FunD K "__init__" "Sieve.__init__" (defArgs s_Sieve___init__) (defBody s_Sieve___init__) (defScope s_Sieve___init__) [] [] (He.ma K (He.ga K "Sieve") "__init__") fd := c.def_ 5 rfl
  obtain ⟨fd_Sieve_everything, F_Sieve_everything⟩ : ∃ fd, FunD K "everything" "Sieve.everything" (defArgs s_Sieve_everything) (defBody s_Sieve_everything) (defScope s_Sieve_everything) [] [] (rcA "classmethod" "Sieve" "everything" K) fd := c.def_ 7 rfl
  obtain ⟨fd_Sieve_pattern, F_Sieve_pattern⟩ : ∃ fd, FunD K "pattern" "Sieve.pattern" (defArgs s_Sieve_pattern) (defBody s_Sieve_pattern) (defScope s_Sieve_pattern) [] [] (rcA "property" "Sieve" "pattern" K) fd := c.def_ 8 rfl
  obtain ⟨fd_Sieve_period, F_Sieve_period⟩ : ∃ fd, FunD K "period" "Sieve.period" (defArgs s_Sieve_period) (defBody s_Sieve_period) (defScope s_Sieve_period) [] [] (rcA "property" "Sieve" "period" K) fd := c.def_ 9 rfl
  obtain ⟨fd_Sieve_size, F_Sieve_size⟩ : ∃ fd, FunD K "size" "Sieve.size" (defArgs s_Sieve_size) (defBody s_Sieve_size) (defScope s_Sieve_size) [] [] (rcA "property" "Sieve" "size" K) fd := c.def_ 10 rfl
  obtain ⟨fd_Sieve_is_kept, F_Sieve_is_kept⟩ : ∃ fd, FunD K "is_kept" "Sieve.is_kept" (defArgs s_Sieve_is_kept) (defBody s_Sieve_is_kept) (defScope s_Sieve_is_kept) [] [] (He.ma K (He.ga K "Sieve") "is_kept") fd := c.def_ 11 rfl
  obtain ⟨fd_Sieve_nth, F_Sieve_nth⟩ : ∃ fd, FunD K "nth" "Sieve.nth" (defArgs s_Sieve_nth) (defBody s_Sieve_nth) (defScope s_Sieve_nth) [] [] (He.ma K (He.ga K "Sieve") "nth") fd := c.def_ 12 rfl
  obtain ⟨fd_Sieve_rank, F_Sieve_rank⟩ : ∃ fd, FunD K "rank" "Sieve.rank" (defArgs s_Sieve_rank) (defBody s_Sieve_rank) (defScope s_Sieve_rank) [] [] (He.ma K (He.ga K "Sieve") "rank") fd := c.def_ 13 rfl
  obtain ⟨fd_Sieve___eq__, F_Sieve___eq__⟩ : ∃ fd, FunD K "__eq__" "Sieve.__eq__" (defArgs s_Sieve___eq__) (defBody s_Sieve___eq__) (defScope s_Sieve___eq__) [] [] (He.ma K (He.ga K "Sieve") "__eq__") fd := c.def_ 14 rfl
  obtain ⟨fd_common_divisor, F_common_divisor⟩ : ∃ fd, FunD K "common_divisor" "common_divisor" (defArgs s_common_divisor) (defBody s_common_divisor) (defScope s_common_divisor) [] [] (He.ga K "common_divisor") fd := c.def_ 15 rfl
  obtain ⟨fd_common_multiple, F_common_multiple⟩ : ∃ fd, FunD K "common_multiple" "common_multiple" (defArgs s_common_multiple) (defBody s_common_multiple) (defScope s_common_multiple) [] [] (He.ga K "common_multiple") fd := c.def_ 16 rfl
  obtain ⟨fd_check_limit, F_check_limit⟩ : ∃ fd, FunD K "check_limit" "check_limit" (defArgs s_check_limit) (defBody s_check_limit) (defScope s_check_limit) [] [] (He.ga K "check_limit") fd := c.def_ 17 rfl
  obtain ⟨fd_sieve_from, F_sieve_from⟩ : ∃ fd, FunD K "sieve_from" "sieve_from" (defArgs s_sieve_from) (defBody s_sieve_from) (defScope s_sieve_from) [] [] (He.ga K "sieve_from") fd := c.def_ 18 rfl
  obtain ⟨fd_compose, F_compose⟩ : ∃ fd, FunD K "compose" "compose" (defArgs s_compose) (defBody s_compose) (defScope s_compose) [] [] (He.ga K "compose") fd := c.def_ 19 rfl
  obtain ⟨fd_density, F_density⟩ : ∃ fd, FunD K "density" "density" (defArgs s_density) (defBody s_density) (defScope s_density) [] [] (He.ga K "density") fd := c.def_ 31 rfl
  obtain ⟨fd__law_pool, F__law_pool⟩ : ∃ fd, FunD K "_law_pool" "_law_pool" (defArgs s__law_pool) (defBody s__law_pool) (defScope s__law_pool) [] [] (He.ga K "_law_pool") fd := c.def_ 32 rfl
  obtain ⟨fd__law_take, F__law_take⟩ : ∃ fd, FunD K "_law_take" "_law_take" (defArgs s__law_take) (defBody s__law_take) (defScope s__law_take) [] [] (He.ga K "_law_take") fd := c.def_ 33 rfl
  obtain ⟨fd__law_pattern, F__law_pattern⟩ : ∃ fd, FunD K "_law_pattern" "_law_pattern" (defArgs s__law_pattern) (defBody s__law_pattern) (defScope s__law_pattern) [] [] (He.ga K "_law_pattern") fd := c.def_ 34 rfl
  obtain ⟨fd_Round___init__, F_Round___init__⟩ : ∃ fd, FunD K "__init__" "Round.__init__" (defArgs s_Round___init__) (defBody s_Round___init__) (defScope s_Round___init__) [] [] (He.ma K (He.ga K "Round") "__init__") fd := c.def_ 20 rfl
  obtain ⟨fd_Round_sieve, F_Round_sieve⟩ : ∃ fd, FunD K "sieve" "Round.sieve" (defArgs s_Round_sieve) (defBody s_Round_sieve) (defScope s_Round_sieve) [] [] (rcA "property" "Round" "sieve" K) fd := c.def_ 21 rfl
  have F_Every___init__ : FunX P K "__init__" "Every.__init__" (defArgs s_Every___init__) (defBody s_Every___init__) (defScope s_Every___init__) (He.ga K "Every") (He.ma K (He.ga K "Every") "__init__") := funX_ok (d := ⟨fun K => He.ma K (He.ga K "Every") "__init__", "__init__", "Every.__init__", defArgs s_Every___init__, defBody s_Every___init__, defScope s_Every___init__, [], [("__class__" : Str)]⟩) hpf rfl (c.defR 22 rfl) (c.fact 112)
  have F_Block___init__ : FunX P K "__init__" "Block.__init__" (defArgs s_Block___init__) (defBody s_Block___init__) (defScope s_Block___init__) (He.ga K "Block") (He.ma K (He.ga K "Block") "__init__") := funX_ok (d := ⟨fun K => He.ma K (He.ga K "Block") "__init__", "__init__", "Block.__init__", defArgs s_Block___init__, defBody s_Block___init__, defScope s_Block___init__, [], [("__class__" : Str)]⟩) hpf rfl (c.defR 23 rfl) (c.fact 114)
  obtain ⟨fd_check_rounds, F_check_rounds⟩ : ∃ fd, FunD K "check_rounds" "check_rounds" (defArgs s_check_rounds) (defBody s_check_rounds) (defScope s_check_rounds) [] [] (He.ga K "check_rounds") fd := c.def_ 24 rfl
  obtain ⟨fd_Row___init__, F_Row___init__⟩ : ∃ fd, FunD K "__init__" "Row.__init__" (defArgs s_Row___init__) (defBody s_Row___init__) (defScope s_Row___init__) [] [] (He.ma K (He.ga K "Row") "__init__") fd := c.def_ 25 rfl
  obtain ⟨fd_Row_sieve, F_Row_sieve⟩ : ∃ fd, FunD K "sieve" "Row.sieve" (defArgs s_Row_sieve) (defBody s_Row_sieve) (defScope s_Row_sieve) [] [] (rcA "property" "Row" "sieve" K) fd := c.def_ 26 rfl
  obtain ⟨fd__law_round, F__law_round⟩ : ∃ fd, FunD K "_law_round" "_law_round" (defArgs s__law_round) (defBody s__law_round) (defScope s__law_round) [] [] (He.ga K "_law_round") fd := c.def_ 36 rfl
  obtain ⟨fd_may_exchange, F_may_exchange⟩ : ∃ fd, FunD K "may_exchange" "may_exchange" (defArgs s_may_exchange) (defBody s_may_exchange) (defScope s_may_exchange) [] [] (He.ga K "may_exchange") fd := c.def_ 28 rfl
  obtain ⟨fd_Row_then, F_Row_then⟩ : ∃ fd, FunD K "then" "Row.then" (defArgs s_Row_then) (defBody s_Row_then) (defScope s_Row_then) [] [] (He.ma K (He.ga K "Row") "then") fd := c.def_ 27 rfl
  obtain ⟨fd_all_orders, F_all_orders⟩ : ∃ fd, FunD K "all_orders" "all_orders" (defArgs s_all_orders) (defBody s_all_orders) (defScope s_all_orders) [] [] (He.ga K "all_orders") fd := c.def_ 29 rfl
  obtain ⟨fd_orders, F_orders⟩ : ∃ fd, FunD K "orders" "orders" (defArgs s_orders) (defBody s_orders) (defScope s_orders) [] [] (He.ga K "orders") fd := c.def_ 30 rfl
  obtain ⟨fd__law_spec, F__law_spec⟩ : ∃ fd, FunD K "_law_spec" "_law_spec" (defArgs s__law_spec) (defBody s__law_spec) (defScope s__law_spec) [] [] (He.ga K "_law_spec") fd := c.def_ 35 rfl
  obtain ⟨fd__law_row, F__law_row⟩ : ∃ fd, FunD K "_law_row" "_law_row" (defArgs s__law_row) (defBody s__law_row) (defScope s__law_row) [] [] (He.ga K "_law_row") fd := c.def_ 38 rfl
  obtain ⟨fd__law_shuffle, F__law_shuffle⟩ : ∃ fd, FunD K "_law_shuffle" "_law_shuffle" (defArgs s__law_shuffle) (defBody s__law_shuffle) (defScope s__law_shuffle) [] [] (He.ga K "_law_shuffle") fd := c.def_ 39 rfl
  obtain ⟨fd__law_orders, F__law_orders⟩ : ∃ fd, FunD K "_law_orders" "_law_orders" (defArgs s__law_orders) (defBody s__law_orders) (defScope s__law_orders) [] [] (He.ga K "_law_orders") fd := c.def_ 37 rfl
  obtain ⟨fd__law_share, F__law_share⟩ : ∃ fd, FunD K "_law_share" "_law_share" (defArgs s__law_share) (defBody s__law_share) (defScope s__law_share) [] [] (He.ga K "_law_share") fd := c.def_ 40 rfl
  obtain ⟨fd_law, F_law⟩ : ∃ fd, FunD K "law" "law" (defArgs s_law) (defBody s_law) (defScope s_law) [] [] (He.ga K "law") fd := c.def_ 41 rfl
  have bl := FunD.bindsA (ps := ["_law_script"]) F_law fun _ _ _ _ _ _ us hl => match us, hl with | [_], _ => rfl
  refine ⟨fd_law, fun s v => bl s [v] rfl, fun base KB GB => ?_⟩
  have SC : SvC K mg := ⟨cls_ok (c.fact 35), noat_ok (c.fact 39), noat_ok (c.fact 40), He.glo_ok X G (c.fact 5), creadB_ok (c.fact 37), cvalB_ok (c.fact 53), fun e => tyB_ok (c.fact 38) (cls_ok (c.fact 35)) e⟩
  have gm_Sieve : mg "Sieve" = some (.ref (He.ga K "Sieve")) := He.glo_ok X G (c.fact 5)
  have gm_Round : mg "Round" = some (.ref (He.ga K "Round")) := He.glo_ok X G (c.fact 15)
  have gm_Every : mg "Every" = some (.ref (He.ga K "Every")) := He.glo_ok X G (c.fact 13)
  have gm_Block : mg "Block" = some (.ref (He.ga K "Block")) := He.glo_ok X G (c.fact 14)
  have gm_Row : mg "Row" = some (.ref (He.ga K "Row")) := He.glo_ok X G (c.fact 19)
  have na_Round : ∀ y ∈ (["own"] : List Str), NoAttr K (ga K "Round") y := fun y hy => by
    rcases List.mem_cons.mp hy with rfl | hy
    · exact noat_ok (c.fact 58)
    exact nomatch hy
  have cl_Round : ClF K mg "Round" ["own"] := ⟨cls_ok (c.fact 54), na_Round, He.glo_ok X G (c.fact 15), fun e => tyB_ok (c.fact 57) (cls_ok (c.fact 54)) e⟩
  have na_Every : ∀ y ∈ (["step", "own"] : List Str), NoAttr K (ga K "Every") y := fun y hy => by
    rcases List.mem_cons.mp hy with rfl | hy
    · exact noat_ok (c.fact 64)
    rcases List.mem_cons.mp hy with rfl | hy
    · exact noat_ok (c.fact 65)
    exact nomatch hy
  have cl_Every : ClF K mg "Every" ["step", "own"] := ⟨cls_ok (c.fact 60), na_Every, He.glo_ok X G (c.fact 13), fun e => tyB_ok (c.fact 63) (cls_ok (c.fact 60)) e⟩
  have na_Block : ∀ y ∈ (["sizes", "own"] : List Str), NoAttr K (ga K "Block") y := fun y hy => by
    rcases List.mem_cons.mp hy with rfl | hy
    · exact noat_ok (c.fact 72)
    rcases List.mem_cons.mp hy with rfl | hy
    · exact noat_ok (c.fact 73)
    exact nomatch hy
  have cl_Block : ClF K mg "Block" ["sizes", "own"] := ⟨cls_ok (c.fact 68), na_Block, He.glo_ok X G (c.fact 14), fun e => tyB_ok (c.fact 71) (cls_ok (c.fact 68)) e⟩
  have na_Row : ∀ y ∈ (["parts", "stages"] : List Str), NoAttr K (ga K "Row") y := fun y hy => by
    rcases List.mem_cons.mp hy with rfl | hy
    · exact noat_ok (c.fact 80)
    rcases List.mem_cons.mp hy with rfl | hy
    · exact noat_ok (c.fact 81)
    exact nomatch hy
  have cl_Row : ClF K mg "Row" ["parts", "stages"] := ⟨cls_ok (c.fact 76), na_Row, He.glo_ok X G (c.fact 19), fun e => tyB_ok (c.fact 79) (cls_ok (c.fact 76)) e⟩
  have KI_Sieve_Sieve : PySem.W.kitOne K (.ref (He.ga K "Sieve")) (.ref (He.ga K "Sieve")) = some true := of_decide_eq_true (c.fact 101)
  have KI_Sieve_Round : PySem.W.kitOne K (.ref (He.ga K "Sieve")) (.ref (He.ga K "Round")) = some false := of_decide_eq_true (c.fact 90)
  have KI_Round_Sieve : PySem.W.kitOne K (.ref (He.ga K "Round")) (.ref (He.ga K "Sieve")) = some false := of_decide_eq_true (c.fact 102)
  have KI_Round_Round : PySem.W.kitOne K (.ref (He.ga K "Round")) (.ref (He.ga K "Round")) = some true := of_decide_eq_true (c.fact 91)
  have CR_Round : ClX.CRead K (He.ga K "Round") (.type "type") := creadB_ok (c.fact 56)
  have KI_Every_Sieve : PySem.W.kitOne K (.ref (He.ga K "Every")) (.ref (He.ga K "Sieve")) = some false := of_decide_eq_true (c.fact 103)
  have KI_Every_Round : PySem.W.kitOne K (.ref (He.ga K "Every")) (.ref (He.ga K "Round")) = some true := of_decide_eq_true (c.fact 92)
  have CR_Every : ClX.CRead K (He.ga K "Every") (.type "type") := creadB_ok (c.fact 62)
  have CV_Every_MOST : ∃ u, ClX.CVal K (He.ga K "Every") (.type "type") "MOST" (.int 60) u := cvalB_ok (c.fact 67)
  have KI_Block_Sieve : PySem.W.kitOne K (.ref (He.ga K "Block")) (.ref (He.ga K "Sieve")) = some false := of_decide_eq_true (c.fact 104)
  have KI_Block_Round : PySem.W.kitOne K (.ref (He.ga K "Block")) (.ref (He.ga K "Round")) = some true := of_decide_eq_true (c.fact 93)
  have CR_Block : ClX.CRead K (He.ga K "Block") (.type "type") := creadB_ok (c.fact 70)
  have CV_Block_MOST : ∃ u, ClX.CVal K (He.ga K "Block") (.type "type") "MOST" (.int 60) u := cvalB_ok (c.fact 75)
  have KI_Row_Sieve : PySem.W.kitOne K (.ref (He.ga K "Row")) (.ref (He.ga K "Sieve")) = some false := of_decide_eq_true (c.fact 105)
  have KI_Row_Round : PySem.W.kitOne K (.ref (He.ga K "Row")) (.ref (He.ga K "Round")) = some false := of_decide_eq_true (c.fact 94)
  have CR_Row : ClX.CRead K (He.ga K "Row") (.type "type") := creadB_ok (c.fact 78)
  have SU_Every_init : SupF K (He.ga K "Every") (He.ga K "Every") "__init__" (He.ma K (He.ga K "Round") "__init__") := supF_ok (c.fact 113)
  have SU_Block_init : SupF K (He.ga K "Block") (He.ga K "Block") "__init__" (He.ma K (He.ga K "Round") "__init__") := supF_ok (c.fact 115)
  have gm_SieveError : mg "SieveError" = some (.ref (He.ga K "SieveError")) := He.glo_ok X G (c.fact 0)
  have gm_InvalidPattern : mg "InvalidPattern" = some (.ref (He.ga K "InvalidPattern")) := He.glo_ok X G (c.fact 4)
  have gm_InvalidNumber : mg "InvalidNumber" = some (.ref (He.ga K "InvalidNumber")) := He.glo_ok X G (c.fact 2)
  have gm_InvalidRound : mg "InvalidRound" = some (.ref (He.ga K "InvalidRound")) := He.glo_ok X G (c.fact 16)
  have gm_LimitExceeded : mg "LimitExceeded" = some (.ref (He.ga K "LimitExceeded")) := He.glo_ok X G (c.fact 8)
  have ER_LimitExceeded : ErrCB K (He.ga K "LimitExceeded") "limit" (He.ma K (He.ga K "LimitExceeded") "__init__") "OverflowError.__new__" ovTail := errOB_ok (c.fact 118)
  have EC_LimitExceeded : ExcC K (He.ga K "LimitExceeded") := excCB_ok (c.fact 119)
  have KI_LimitExceeded_SieveError : PySem.W.kitOne K (.ref (He.ga K "LimitExceeded")) (.ref (He.ga K "SieveError")) = some false := of_decide_eq_true (c.fact 125)
  have KI_LimitExceeded_InvalidPattern : PySem.W.kitOne K (.ref (He.ga K "LimitExceeded")) (.ref (He.ga K "InvalidPattern")) = some false := of_decide_eq_true (c.fact 122)
  have KI_LimitExceeded_InvalidNumber : PySem.W.kitOne K (.ref (He.ga K "LimitExceeded")) (.ref (He.ga K "InvalidNumber")) = some false := of_decide_eq_true (c.fact 121)
  have KI_LimitExceeded_InvalidRound : PySem.W.kitOne K (.ref (He.ga K "LimitExceeded")) (.ref (He.ga K "InvalidRound")) = some false := of_decide_eq_true (c.fact 123)
  have EM_LimitExceeded_LimitExceeded : PySem.W.exmOne K (.ref (He.ga K "LimitExceeded")) (.ref (He.ga K "LimitExceeded")) = some true := exmB_ok (c.fact 120)
  have KI_LimitExceeded_LimitExceeded : PySem.W.kitOne K (.ref (He.ga K "LimitExceeded")) (.ref (He.ga K "LimitExceeded")) = some true := of_decide_eq_true (c.fact 124)
  have gi_MOST_ROUNDS : ∃ t, mg ("MOST_ROUNDS" : Str) = some (.int 6 t) := He.int_ok X G (c.fact 21)
  have KB_int_Round : PySem.W.kitOne K (.type "int") (.ref (He.ga K "Round")) = some false := of_decide_eq_true (c.fact 95)
  have KB_bool_Round : PySem.W.kitOne K (.type "bool") (.ref (He.ga K "Round")) = some false := of_decide_eq_true (c.fact 96)
  have KB_str_Round : PySem.W.kitOne K (.type "str") (.ref (He.ga K "Round")) = some false := of_decide_eq_true (c.fact 97)
  have KB_NoneType_Round : PySem.W.kitOne K (.type "NoneType") (.ref (He.ga K "Round")) = some false := of_decide_eq_true (c.fact 98)
  have KB_list_Round : PySem.W.kitOne K (.type "list") (.ref (He.ga K "Round")) = some false := of_decide_eq_true (c.fact 99)
  have KB_tuple_Round : PySem.W.kitOne K (.type "tuple") (.ref (He.ga K "Round")) = some false := of_decide_eq_true (c.fact 100)
  have KB_int_Sieve : PySem.W.kitOne K (.type "int") (.ref (He.ga K "Sieve")) = some false := of_decide_eq_true (c.fact 106)
  have KB_bool_Sieve : PySem.W.kitOne K (.type "bool") (.ref (He.ga K "Sieve")) = some false := of_decide_eq_true (c.fact 107)
  have KB_str_Sieve : PySem.W.kitOne K (.type "str") (.ref (He.ga K "Sieve")) = some false := of_decide_eq_true (c.fact 108)
  have KB_NoneType_Sieve : PySem.W.kitOne K (.type "NoneType") (.ref (He.ga K "Sieve")) = some false := of_decide_eq_true (c.fact 109)
  have KB_list_Sieve : PySem.W.kitOne K (.type "list") (.ref (He.ga K "Sieve")) = some false := of_decide_eq_true (c.fact 110)
  have KB_tuple_Sieve : PySem.W.kitOne K (.type "tuple") (.ref (He.ga K "Sieve")) = some false := of_decide_eq_true (c.fact 111)
  have R_LimitExceeded___init__ := ok_LimitExceeded___init__ (P := P) (w := w) (base := base) F_LimitExceeded___init__ (by assumption) (by assumption)
  have E_LimitExceeded___init__ : ErrB P w K mg base (He.ga K "LimitExceeded") "limit" _ "OverflowError" "OverflowError.__new__" "OverflowError.__init__" ovTail := ⟨base_ov, ⟨_, ER_LimitExceeded, R_LimitExceeded___init__⟩⟩
  have R_is_integer := ok_is_integer (P := P) (w := w) (base := base) F_is_integer (by assumption)
  have E_is_integer : Fn P w K mg base "is_integer" _ _ := ⟨⟨_, He.glo_ok X G (c.fact 1), F_is_integer.kp, R_is_integer⟩⟩
  have R_check_number := ok_check_number (P := P) (w := w) (base := base) F_check_number (by assumption) (by assumption)
  have E_check_number : Fn P w K mg base "check_number" _ _ := ⟨⟨_, He.glo_ok X G (c.fact 6), F_check_number.kp, R_check_number⟩⟩
  have R_least_pattern := ok_least_pattern (P := P) (w := w) (base := base) F_least_pattern (by assumption)
  have E_least_pattern : Fn P w K mg base "least_pattern" _ _ := ⟨⟨_, He.glo_ok X G (c.fact 3), F_least_pattern.kp, R_least_pattern⟩⟩
  have R_pattern_of := ok_pattern_of (P := P) (w := w) (base := base) F_pattern_of (by assumption)
  have E_pattern_of : Fn P w K mg base "pattern_of" _ _ := ⟨⟨_, He.glo_ok X G (c.fact 9), F_pattern_of.kp, R_pattern_of⟩⟩
  have W_pattern_of := wk_pattern_of (P := P) (w := w) (K := K) (mg := mg) (base := base) E_pattern_of
  have R_Sieve_is_pattern := ok_Sieve_is_pattern (P := P) (w := w) (base := base) F_Sieve_is_pattern (by assumption) (by assumption)
  have E_Sieve_is_pattern : SMt P w K mg base (He.ga K "Sieve") "is_pattern" _ _ := ⟨⟨_, _, _, creadB_ok (c.fact 37), (getB_ok (c.fact 41)).1, (getB_ok (c.fact 41)).2.choose_spec, c.fact 42, R_Sieve_is_pattern⟩⟩
  have R_Sieve___init__ := ok_Sieve___init__ (P := P) (w := w) (base := base) F_Sieve___init__ (by assumption) (by assumption) (by assumption) (by assumption)
  have E_Sieve___init__ : Mkr P w K mg base (He.ga K "Sieve") _ _ := ⟨⟨_, mkr_ok (c.fact 36), R_Sieve___init__⟩⟩
  have R_Sieve_everything := ok_Sieve_everything (P := P) (w := w) (base := base) F_Sieve_everything (by assumption) (by assumption) (by assumption)
  have E_Sieve_everything : CMt P w K mg base (He.ga K "Sieve") "everything" _ _ := ⟨⟨_, _, creadB_ok (c.fact 37), ⟨(getB_ok (c.fact 43)).1, (getB_ok (c.fact 43)).2, c.fact 45⟩, R_Sieve_everything⟩⟩
  have R_Sieve_pattern := ok_Sieve_pattern (P := P) (w := w) (base := base) F_Sieve_pattern (by assumption) (by assumption)
  have E_Sieve_pattern : SvP P w K mg base "pattern" _ := ⟨⟨_, _, propB_ok (c.fact 46), R_Sieve_pattern⟩⟩
  have R_Sieve_period := ok_Sieve_period (P := P) (w := w) (base := base) F_Sieve_period (by assumption) (by assumption)
  have E_Sieve_period : SvP P w K mg base "period" _ := ⟨⟨_, _, propB_ok (c.fact 47), R_Sieve_period⟩⟩
  have R_Sieve_size := ok_Sieve_size (P := P) (w := w) (base := base) F_Sieve_size (by assumption) (by assumption)
  have E_Sieve_size : SvP P w K mg base "size" _ := ⟨⟨_, _, propB_ok (c.fact 48), R_Sieve_size⟩⟩
  have R_Sieve_is_kept := ok_Sieve_is_kept (P := P) (w := w) (base := base) F_Sieve_is_kept (by assumption) (by assumption) (by assumption)
  have E_Sieve_is_kept : Mth P w K mg base (He.ga K "Sieve") "is_kept" _ _ := ⟨⟨_, cls_ok (c.fact 35), meth_ok (c.fact 49), R_Sieve_is_kept⟩⟩
  have R_Sieve_nth := ok_Sieve_nth (P := P) (w := w) (base := base) F_Sieve_nth (by assumption) (by assumption) (by assumption)
  have E_Sieve_nth : MtT P w K mg base (He.ga K "Sieve") "nth" _ _ := ⟨⟨_, cls_ok (c.fact 35), meth_ok (c.fact 50), R_Sieve_nth⟩⟩
  have ET_Sieve_nth := E_Sieve_nth.mth
  have R_Sieve_rank := ok_Sieve_rank (P := P) (w := w) (base := base) F_Sieve_rank (by assumption) (by assumption) (by assumption)
  have E_Sieve_rank : Mth P w K mg base (He.ga K "Sieve") "rank" _ _ := ⟨⟨_, cls_ok (c.fact 35), meth_ok (c.fact 51), R_Sieve_rank⟩⟩
  have R_Sieve___eq__ := ok_Sieve___eq__ (P := P) (w := w) (base := base) F_Sieve___eq__ (by assumption) (by assumption)
  have E_Sieve___eq__ : EqM P w K mg base (He.ga K "Sieve") _ _ := ⟨⟨_, eqcB_ok (c.fact 52), R_Sieve___eq__⟩⟩
  have R_common_divisor := ok_common_divisor (P := P) (w := w) (base := base) F_common_divisor (by assumption)
  have E_common_divisor : Fn P w K mg base "common_divisor" _ _ := ⟨⟨_, He.glo_ok X G (c.fact 7), F_common_divisor.kp, R_common_divisor⟩⟩
  have R_common_multiple := ok_common_multiple (P := P) (w := w) (base := base) F_common_multiple (by assumption) (by assumption)
  have E_common_multiple : Fn P w K mg base "common_multiple" _ _ := ⟨⟨_, He.glo_ok X G (c.fact 10), F_common_multiple.kp, R_common_multiple⟩⟩
  have R_check_limit := ok_check_limit (P := P) (w := w) (base := base) F_check_limit (by assumption) (by assumption) (by assumption) (by assumption)
  have E_check_limit : Fn P w K mg base "check_limit" _ _ := ⟨⟨_, He.glo_ok X G (c.fact 11), F_check_limit.kp, R_check_limit⟩⟩
  have W_check_limit := wk_check_limit (P := P) (w := w) (K := K) (mg := mg) (base := base) E_check_limit
  have R_sieve_from := ok_sieve_from (P := P) (w := w) (base := base) F_sieve_from (by assumption) (by assumption) (by assumption) (by assumption)
  have E_sieve_from : Fn P w K mg base "sieve_from" _ _ := ⟨⟨_, He.glo_ok X G (c.fact 12), F_sieve_from.kp, R_sieve_from⟩⟩
  have W_sieve_from := wk_sieve_from (P := P) (w := w) (K := K) (mg := mg) (base := base) E_sieve_from
  have R_compose := ok_compose (P := P) (w := w) (base := base) F_compose (by assumption) (by assumption) (by assumption) (by assumption) (by assumption) (by assumption) (by assumption) (by assumption) (by assumption) (by assumption)
  have E_compose : Fn P w K mg base "compose" _ _ := ⟨⟨_, He.glo_ok X G (c.fact 18), F_compose.kp, R_compose⟩⟩
  have W_compose := wk_compose (P := P) (w := w) (K := K) (mg := mg) (base := base) E_compose
  have R_density := ok_density (P := P) (w := w) (base := base) F_density (by assumption) (by assumption) (by assumption) (by assumption) (by assumption)
  have E_density : Fn P w K mg base "density" _ _ := ⟨⟨_, He.glo_ok X G (c.fact 25), F_density.kp, R_density⟩⟩
  have R__law_pool := ok__law_pool (P := P) (w := w) (base := base) F__law_pool (by assumption)
  have E__law_pool : Fn P w K mg base "_law_pool" _ _ := ⟨⟨_, He.glo_ok X G (c.fact 26), F__law_pool.kp, R__law_pool⟩⟩
  have R__law_take := ok__law_take (P := P) (w := w) (base := base) F__law_take (by assumption)
  have E__law_take : Fn P w K mg base "_law_take" _ _ := ⟨⟨_, He.glo_ok X G (c.fact 22), F__law_take.kp, R__law_take⟩⟩
  have R__law_pattern := ok__law_pattern (P := P) (w := w) (base := base) F__law_pattern (by assumption) (by assumption)
  have E__law_pattern : Fn P w K mg base "_law_pattern" _ _ := ⟨⟨_, He.glo_ok X G (c.fact 23), F__law_pattern.kp, R__law_pattern⟩⟩
  have R_Round___init__ := ok_Round___init__ (P := P) (w := w) (base := base) F_Round___init__ (by assumption) (by assumption) (by assumption)
  have E_Round___init__ : Mkr P w K mg base (He.ga K "Round") _ _ := ⟨⟨_, mkr_ok (c.fact 55), R_Round___init__⟩⟩
  have R_Round_sieve := ok_Round_sieve (P := P) (w := w) (base := base) F_Round_sieve (by assumption)
  have RL : RCl P w K mg base (He.ga K "Round") := ⟨cls_ok (c.fact 54), noat_ok (c.fact 58), fun e => ⟨_, tyB_ok (c.fact 57) (cls_ok (c.fact 54)) e, kit_own⟩, ⟨_, _, propB_ok (c.fact 59), R_Round_sieve⟩⟩
  have RL_Every : RCl P w K mg base (He.ga K "Every") := ⟨cls_ok (c.fact 60), noat_ok (c.fact 65), fun e => ⟨_, tyB_ok (c.fact 63) (cls_ok (c.fact 60)) e, of_decide_eq_true (c.fact 92)⟩, ⟨_, _, propB_ok (c.fact 66), (by rw [show rcA "property" "Every" "sieve" K = rcA "property" "Round" "sieve" K from of_decide_eq_true (c.fact 116)]; exact R_Round_sieve)⟩⟩
  have RL_Block : RCl P w K mg base (He.ga K "Block") := ⟨cls_ok (c.fact 68), noat_ok (c.fact 73), fun e => ⟨_, tyB_ok (c.fact 71) (cls_ok (c.fact 68)) e, of_decide_eq_true (c.fact 93)⟩, ⟨_, _, propB_ok (c.fact 74), (by rw [show rcA "property" "Block" "sieve" K = rcA "property" "Round" "sieve" K from of_decide_eq_true (c.fact 117)]; exact R_Round_sieve)⟩⟩
  have R_Every___init__ := ok_Every___init__ (P := P) (w := w) (base := base) F_Every___init__ (by assumption) (by assumption) (by assumption) (by assumption) (by assumption) (by assumption) (by assumption) (by assumption)
  have E_Every___init__ : Mkr P w K mg base (He.ga K "Every") _ _ := ⟨⟨_, mkr_ok (c.fact 61), R_Every___init__⟩⟩
  have R_Block___init__ := ok_Block___init__ (P := P) (w := w) (base := base) F_Block___init__ (by assumption) (by assumption) (by assumption) (by assumption) (by assumption) (by assumption) (by assumption) (by assumption)
  have E_Block___init__ : Mkr P w K mg base (He.ga K "Block") _ _ := ⟨⟨_, mkr_ok (c.fact 69), R_Block___init__⟩⟩
  have R_check_rounds := ok_check_rounds (P := P) (w := w) (base := base) F_check_rounds (by assumption) (by assumption)
  have E_check_rounds : Fn P w K mg base "check_rounds" _ _ := ⟨⟨_, He.glo_ok X G (c.fact 17), F_check_rounds.kp, R_check_rounds⟩⟩
  have R_Row___init__ := ok_Row___init__ (P := P) (w := w) (base := base) F_Row___init__ (by assumption) (by assumption) (by assumption) (by assumption) (by assumption) (by assumption)
  have E_Row___init__ : Mkr P w K mg base (He.ga K "Row") _ _ := ⟨⟨_, mkr_ok (c.fact 77), R_Row___init__⟩⟩
  have W_Row___init__ := wk_Row___init__ (P := P) (w := w) (K := K) (mg := mg) (base := base) E_Row___init__
  have R_Row_sieve := ok_Row_sieve (P := P) (w := w) (base := base) F_Row_sieve (by assumption) (by assumption)
  have E_Row_sieve : RwP P w K mg base "sieve" _ := ⟨⟨_, _, propB_ok (c.fact 82), R_Row_sieve⟩⟩
  have R__law_round := ok__law_round (P := P) (w := w) (base := base) F__law_round (by assumption) (by assumption) (by assumption) (by assumption) (by assumption) (by assumption) (by assumption) (by assumption) (by assumption) (by assumption)
  have E__law_round : Fn P w K mg base "_law_round" _ _ := ⟨⟨_, He.glo_ok X G (c.fact 29), F__law_round.kp, R__law_round⟩⟩
  have R_may_exchange := ok_may_exchange (P := P) (w := w) (base := base) F_may_exchange (by assumption) (by assumption) (by assumption)
  have E_may_exchange : Fn P w K mg base "may_exchange" _ _ := ⟨⟨_, He.glo_ok X G (c.fact 31), F_may_exchange.kp, R_may_exchange⟩⟩
  have R_Row_then := ok_Row_then (P := P) (w := w) (base := base) F_Row_then (by assumption) (by assumption) (by assumption)
  have E_Row_then : Mth P w K mg base (He.ga K "Row") "then" _ _ := ⟨⟨_, cls_ok (c.fact 76), meth_ok (c.fact 83), R_Row_then⟩⟩
  have gm_all_orders : mg "all_orders" = some (.ref (He.ga K "all_orders")) := He.glo_ok X G (c.fact 20)
  have R_all_orders := ok_all_orders (P := P) (w := w) (base := base) F_all_orders (by assumption) (by assumption)
  have E_all_orders : GFt P w K mg base "all_orders" _ _ := ⟨⟨_, _, _, He.glo_ok X G (c.fact 20), F_all_orders.kp, R_all_orders, F_all_orders.bindsN fun _ _ _ _ _ _ us hl => match us, hl with | [_], _ => rfl⟩⟩
  have R_orders := ok_orders (P := P) (w := w) (base := base) F_orders (by assumption) (by assumption) (by assumption) (by assumption) (by assumption) (by assumption) (by assumption) (by assumption) (by assumption)
  have E_orders : Fn P w K mg base "orders" _ _ := ⟨⟨_, He.glo_ok X G (c.fact 24), F_orders.kp, R_orders⟩⟩
  have R__law_spec := ok__law_spec (P := P) (w := w) (base := base) F__law_spec (by assumption) (by assumption) (by assumption)
  have E__law_spec : Fn P w K mg base "_law_spec" _ _ := ⟨⟨_, He.glo_ok X G (c.fact 32), F__law_spec.kp, R__law_spec⟩⟩
  have R__law_row := ok__law_row (P := P) (w := w) (base := base) F__law_row (by assumption) (by assumption) (by assumption) (by assumption)
  have E__law_row : Fn P w K mg base "_law_row" _ _ := ⟨⟨_, He.glo_ok X G (c.fact 33), F__law_row.kp, R__law_row⟩⟩
  have R__law_shuffle := ok__law_shuffle (P := P) (w := w) (base := base) F__law_shuffle (by assumption) (by assumption)
  have E__law_shuffle : Fn P w K mg base "_law_shuffle" _ _ := ⟨⟨_, He.glo_ok X G (c.fact 28), F__law_shuffle.kp, R__law_shuffle⟩⟩
  have R__law_orders := ok__law_orders (P := P) (w := w) (base := base) F__law_orders (by assumption) (by assumption)
  have E__law_orders : Fn P w K mg base "_law_orders" _ _ := ⟨⟨_, He.glo_ok X G (c.fact 27), F__law_orders.kp, R__law_orders⟩⟩
  have R__law_share := ok__law_share (P := P) (w := w) (base := base) F__law_share (by assumption) (by assumption)
  have E__law_share : Fn P w K mg base "_law_share" _ _ := ⟨⟨_, He.glo_ok X G (c.fact 30), F__law_share.kp, R__law_share⟩⟩
  exact ok_law F_law (by assumption) (by assumption) (by assumption) (by assumption) (by assumption) (by assumption) (by assumption) (by assumption) (by assumption) (by assumption) (by assumption) (by assumption) (by assumption) (by assumption) (by assumption) (by assumption) (by assumption)
end Sv
open PySem PySem.W PySem.Calls PyProof.Rows
theorem PySem.Challenge.cw_sieverows_k30_whole_orders_and_exchanges_holds : PySem.Challenge.rw_sieverows_k30_whole_orders_and_exchanges.Holds := by
  w_on; o_law
  refine HandSHeadRun.head_any (r := OpenLaw.row PySem.Challenge.rw_sieverows_k30_whole_orders_and_exchanges) (q := view (OpenLaw.row PySem.Challenge.rw_sieverows_k30_whole_orders_and_exchanges).prog [51]) (H := Sv.hkL) (ob := Sv.obL) (M := 20000) (loose := [("_wall" : Str), ("SieveError" : Str), ("InvalidPattern" : Str), ("InvalidNumber" : Str), ("InvalidRound" : Str), ("NothingKept" : Str), ("LimitExceeded" : Str), ("is_integer" : Str), ("check_number" : Str), ("least_pattern" : Str), ("pattern_of" : Str), ("Sieve" : Str), ("common_divisor" : Str), ("common_multiple" : Str), ("check_limit" : Str), ("sieve_from" : Str), ("compose" : Str), ("Round" : Str), ("Every" : Str), ("Block" : Str), ("complement" : Str), ("check_rounds" : Str), ("Row" : Str), ("MOST_ROUNDS" : Str), ("may_exchange" : Str), ("all_orders" : Str), ("orders" : Str), ("density" : Str), ("_law_pool" : Str), ("_law_take" : Str), ("_law_pattern" : Str), ("_law_least" : Str), ("_law_kept" : Str), ("_law_text" : Str), ("_law_sieved" : Str), ("_law_spec" : Str), ("_law_signs" : Str), ("_law_round" : Str), ("_law_orders" : Str), ("_law_row" : Str), ("_law_shuffle" : Str), ("_law_share" : Str)]) (d := HandSHeadRun.topDef (OpenLaw.row PySem.Challenge.rw_sieverows_k30_whole_orders_and_exchanges).prog 51) (kwd := []) Sv.obL_eq
    (by kernel_rfl) (fun s => by kernel_rfl) Sv.runL (by kernel_rfl) (by kernel_rfl) (by kernel_rfl) (by rfl) (by first | assumption | decide +kernel) (by decide +kernel) ⟨rfl, rfl, rfl, rfl, rfl, by decide +kernel⟩ ?hw ?hc
  case hw => w_witness2
  case hc =>
    refine Sv.walk_ofW (L := PySem.Challenge.rw_sieverows_k30_whole_orders_and_exchanges) (m := 63) (j := 23) (par := "_law_script") rfl (by decide) (by kernel_rfl) ⟨rfl, by decide, by decide⟩ ?F
    intro w mg fa h Y G hmg0
    obtain ⟨K, KX, c⟩ := Y
    have hmg : mg ("law" : PySem.Str) = some (.ref fa) := by
      have e : (HandSHeadRun.topDef (OpenLaw.row PySem.Challenge.rw_sieverows_k30_whole_orders_and_exchanges).prog 51).name = ("law" : PySem.Str) := by kernel_rfl
      rw [← e]
      exact hmg0
    obtain ⟨fd, hb, hF⟩ := Sv.factsL (P := (PySem.Challenge.rw_sieverows_k30_whole_orders_and_exchanges).prog) (w := w) KX G hmg c rfl (by kernel_rfl)
    exact ⟨K, fd, Sv.spLaw K, KX, hb, fun H a ns hl _ hS => ⟨a, ns, rfl, hS, hl, fun _ => rfl⟩, hF⟩
