import PyProof.Rows.All
import HandS.ForMost
import HandS.ForExc
import HandS.IsInst
import HandS.Property
import HandS.ClsMeth
import HandS.Star
import HandS.Wide
import HandS.Strs
import HandS.Style
import HandS.StrMore
import HandS.Evl
import KE.GoesNew
import KE.GoesMore
import HandS.SetKeys
import PyProof.InstNe
import HandS.Defaults
import HandS.Head0
import HandS.Head1
import HandS.Head2
import HandS.HeadEnd
import HandS.HeadHook1
import HandS.HeadHook2
import HandS.ExcInit
import HandS.TryMany
import PyProof.Rows.RegReprOcc
import PyProof.StrOps2
import PyProof.Rows.FactsT1
import PyProof.Rows.FactsT2
import PyProof.Rows.FactsN_isinstance
import PyProof.Rows.FactsN_divmod
import PyProof.Rows.RuleB_bool
import HandS.GenList
import HandS.GenYield
import HandS.GenOver
import PyProof.Rows.StrFirst
import HandS.Conv
import HandS.RaiseMore
import HandS.Dict
import HandS.ExcField
import HandS.ExcIs
import PyProof.ReprRoads
import KE.KExcIs
import PyProof.EnumMake
import KE.KExcInit
import PyProof.ExcBaseAll.OverflowError
import PyProof.ExcBaseAll.RuntimeError
import HandS.TupAny
import KE.KBoundM
import HandS.DeepEq
import PyProof.StrLawsRepr
import HandS.Nested
import KE.KSuper
import KE.KRevSl
import HandS.NamedTupGet
import PyProof.LongRange
import PyProof.Gen
import PyProof.GenQ
import PyProof.GenRules
import Open.Gens
import HandS.Zip
import PyProof.ListNew
import PySem.Challenge.RW_sieverows_k02_kept_numbers_and_ranks
set_option Elab.async false
set_option linter.all false
set_option maxRecDepth 100000
set_option maxHeartbeats 4000000
/-! Judgements by syntax over the hand layer: what a piece of syntax asks, as a statement of its own; each rule goes from the syntax to its parts. -/
namespace Sv
open PySem PySem.Spec PyProof.Rows L2

/-- an expression, a test, arguments, a statement, a block, a target -/
structure WE (X : Cx) (e : Expr) (σ : L2.St) (H : Hp) (Q : VK) : Prop where
  run : ∀ (pins : List (Addr × Obj)) (s : Shared), Inv X pins σ H s → wpAny (model X.prog X.w) X.A (eval e X.env) (EP X pins σ Q) X.xe s
structure WT (X : Cx) (e : Expr) (σ : L2.St) (H : Hp) (Q : Bool → Hp → Prop) : Prop where
  run : ∀ (pins : List (Addr × Obj)) (s : Shared), Inv X pins σ H s → wpAny (model X.prog X.w) X.A (isTrue e X.env (eval e X.env)) (TP X pins σ Q) X.xe s
structure WW (X : Cx) (e : Expr) (σ : L2.St) (H : Hp) (Q : Bool → Hp → Prop) : Prop where
  run : ∀ (whole : Sem Value) (pins : List (Addr × Obj)) (s : Shared), Inv X pins σ H s → wpAny (model X.prog X.w) X.A (isTrue e X.env whole) (TP X pins σ Q) X.xe s
structure WA (X : Cx) (es : List Expr) (σ : L2.St) (H : Hp) (Q : List V → Hp → Prop) : Prop where
  run : ∀ (pos : Pos) (pins : List (Addr × Obj)) (s : Shared), Inv X pins σ H s → wpAny (model X.prog X.w) X.A (spliced (backTo pos (starEach es X.env))) (AP X pins σ Q) X.xe s
structure WS (X : Cx) (st : Stmt) (D : Ends) (σ : L2.St) (H : Hp) : Prop where
  run : ∀ (pins : List (Addr × Obj)) (s : Shared), Inv X pins σ H s → wpAny (model X.prog X.w) X.A (exec st X.env) (SP X pins D) X.xe s
structure WL (X : Cx) (sts : List Stmt) (D : Ends) (σ : L2.St) (H : Hp) : Prop where
  run : ∀ (pins : List (Addr × Obj)) (s : Shared), Inv X pins σ H s → wpAny (model X.prog X.w) X.A (execs sts X.env) (SP X pins D) X.xe s
structure WG (X : Cx) (tg : Expr) (v : V) (σ : L2.St) (H : Hp) (Q : L2.St → Hp → Prop) : Prop where
  run : ∀ (pins : List (Addr × Obj)) (s : Shared) (u : Value), Inv X pins σ H s → RelV v u → wpAny (model X.prog X.w) X.A (assign tg X.env u) (fun _ s' => ∃ σ' H', Inv X pins σ' H' s' ∧ Q σ' H') X.xe s
structure WGs (X : Cx) (ts : List Expr) (vs : List V) (σ : L2.St) (H : Hp) (Q : L2.St → Hp → Prop) : Prop where
  run : ∀ (pins : List (Addr × Obj)) (s : Shared) (us : List Value), Inv X pins σ H s → Vals vs us → wpAny (model X.prog X.w) X.A (assignInOrder ((assignEach ts X.env).map (·.2)) us) (fun _ s' => ∃ σ' H', Inv X pins σ' H' s' ∧ Q σ' H') X.xe s
structure WO (X : Cx) (oe : Option Expr) (σ : L2.St) (H : Hp) (Q : Option Int → Hp → Prop) : Prop where
  run : ∀ t : TO, PO X oe t → t σ H Q → True
section
variable {X : Cx} {e : Expr} {es : List Expr} {st : Stmt} {sts : List Stmt} {σ : L2.St} {H : Hp}
theorem pe_w : PE X e (WE X e) := ⟨fun pins s _ _ _ I h => h.run pins s I⟩
theorem pt_w : PT X e (WT X e) := ⟨fun pins s _ _ _ I h => h.run pins s I⟩
theorem pw_w : PW X e (WW X e) := ⟨fun wh pins s _ _ _ I h => h.run wh pins s I⟩
theorem pa_w : PA X es (WA X es) := ⟨fun pos pins s _ _ _ I h => h.run pos pins s I⟩
theorem ps_w : PS X st (WS X st) := ⟨fun pins s _ _ _ I h => h.run pins s I⟩
theorem pss_w : PSs X sts (WL X sts) := ⟨fun pins s _ _ _ I h => h.run pins s I⟩
theorem pg_w : PG X e (WG X e) := ⟨fun pins s _ _ _ u _ I r h => h.run pins s u I r⟩
theorem pgs_w : PGs X es (WGs X es) := ⟨fun pins s _ _ _ us _ I r h => h.run pins s us I r⟩
theorem _root_.L2.PE.w {t : TE} {Q : VK} (h : PE X e t) (q : t σ H Q) : WE X e σ H Q := ⟨fun pins s I => h.run pins s σ H Q I q⟩
theorem _root_.L2.PT.w {t : TT} {Q : Bool → Hp → Prop} (h : PT X e t) (q : t σ H Q) : WT X e σ H Q := ⟨fun pins s I => h.run pins s σ H Q I q⟩
theorem _root_.L2.PW.w {t : TT} {Q : Bool → Hp → Prop} (h : PW X e t) (q : t σ H Q) : WW X e σ H Q := ⟨fun wh pins s I => h.run wh pins s σ H Q I q⟩
theorem _root_.L2.PA.w {t : TA} {Q : List V → Hp → Prop} (h : PA X es t) (q : t σ H Q) : WA X es σ H Q := ⟨fun pos pins s I => h.run pos pins s σ H Q I q⟩
theorem _root_.L2.PS.w {t : TS} {D : Ends} (h : PS X st t) (q : t D σ H) : WS X st D σ H := ⟨fun pins s I => h.run pins s σ H D I q⟩
theorem _root_.L2.PSs.w {t : TS} {D : Ends} (h : PSs X sts t) (q : t D σ H) : WL X sts D σ H := ⟨fun pins s I => h.run pins s σ H D I q⟩
theorem _root_.L2.PG.w {t : TG} {v : V} {Q : L2.St → Hp → Prop} (h : PG X e t) (q : t v σ H Q) : WG X e v σ H Q := ⟨fun pins s u I r => h.run pins s σ H v u Q I r q⟩
theorem _root_.L2.PGs.w {t : TGs} {vs : List V} {Q : L2.St → Hp → Prop} (h : PGs X es t) (q : t vs σ H Q) : WGs X es vs σ H Q := ⟨fun pins s us I r => h.run pins s σ H vs us Q I r q⟩
/-- weaken -/
theorem WE.imp {Q Q' : VK} (h : WE X e σ H Q) (q : ∀ v H', Q v H' → Q' v H') : WE X e σ H Q' :=
  ⟨fun pins s I => thn (h.run pins s I) fun _ _ ⟨v, H', I', r, z⟩ => ⟨v, H', I', r, q v H' z⟩⟩
end

theorem WA.imp {X : Cx} {es : List Expr} {σ : L2.St} {H : Hp} {Q Q' : List V → Hp → Prop} (h : WA X es σ H Q) (q : ∀ v H', Q v H' → Q' v H') : WA X es σ H Q' :=
  ⟨fun pos pins s I => thn (h.run pos pins s I) fun _ _ ⟨v, H', I', r, z⟩ => ⟨v, H', I', r, q v H' z⟩⟩
theorem WT.imp {X : Cx} {e : Expr} {σ : L2.St} {H : Hp} {Q Q' : Bool → Hp → Prop} (h : WT X e σ H Q) (q : ∀ v H', Q v H' → Q' v H') : WT X e σ H Q' :=
  ⟨fun pins s I => thn (h.run pins s I) fun _ _ ⟨H', I', z⟩ => ⟨H', I', q _ H' z⟩⟩

/-! ### slots by name -/
/-- the name x holds v -/
inductive At : List Str → L2.St → Str → V → Prop where
  | here {x : Str} {N : List Str} {v : V} {σ : L2.St} : At (x :: N) (some v :: σ) x v
  | there {x y : Str} {N : List Str} {v : V} {o : Option V} {σ : L2.St} : At N σ x v → At (y :: N) (o :: σ) x v
/-- x stored -/
inductive Put : List Str → L2.St → Str → V → L2.St → Prop where
  | here {x : Str} {N : List Str} {v : V} {o : Option V} {σ : L2.St} : Put (x :: N) (o :: σ) x v (some v :: σ)
  | there {x y : Str} {N : List Str} {v : V} {o : Option V} {σ σ' : L2.St} : Put N σ x v σ' → Put (y :: N) (o :: σ) x v (o :: σ')
theorem At.ix {N : List Str} {σ : L2.St} {x : Str} {v : V} (h : At N σ x v) : ∃ i : Nat, N[i]? = some x ∧ σ[i]? = some (some v) := by
  induction h with
  | here => exact ⟨0, rfl, rfl⟩
  | there _ ih => obtain ⟨i, a, b⟩ := ih; exact ⟨i + 1, by simpa using a, by simpa using b⟩
theorem Put.ix {N : List Str} {σ σ' : L2.St} {x : Str} {v : V} (h : Put N σ x v σ') : ∃ i : Nat, N[i]? = some x ∧ σ' = σ.set i (some v) := by
  induction h with
  | here => exact ⟨0, rfl, rfl⟩
  | there _ ih => obtain ⟨i, a, b⟩ := ih; exact ⟨i + 1, by simpa using a, by rw [b, List.set_cons_succ]⟩
/-- what is known of the names: N all slots; L the visible ones; S those that may be stored; G the global ones -/
structure Nm (X : Cx) (N L S G B : List Str) : Prop where
  names : X.N = N
  nd : N.Nodup
  vis : ∀ x ∈ L, Vis X.env.scope x ∧ (x == ("__debug__" : Str)) = false ∧ (x == ("__classdict__" : Str)) = false
  sto : ∀ x ∈ S, Loc X.env.scope x ∧ (X.fn x = true ∨ X.env.scope.names.lookup x = some .local)
  glo : ∀ x ∈ G, Gl X x ∧ (x == ("__debug__" : Str)) = false ∧ x ≠ "__name__"
  blt : ∀ x ∈ B, X.mg x = none
  bgl : ∀ x ∈ B, Gl X x ∧ (x == ("__debug__" : Str)) = false ∧ x ≠ "__name__"
  calm : X.calm = true
/-- membership by its own shape -/
inductive Mb (x : Str) : List Str → Prop where
  | here {l : List Str} : Mb x (x :: l)
  | there {y : Str} {l : List Str} : Mb x l → Mb x (y :: l)
theorem Mb.mem {x : Str} {l : List Str} (h : Mb x l) : x ∈ l := by
  induction h with
  | here => exact List.mem_cons_self
  | there _ ih => exact List.mem_cons_of_mem _ ih

section
variable {X : Cx} {N L S G B : List Str} {σ : L2.St} {H : Hp} {Q : VK} {x : Str} {v : V} {pos : Pos}
theorem w_name (c : Nm X N L S G B) (h : At N σ x v) (m : Mb x L) (q : Q v H) : WE X (.Name x pos) σ H Q := by
  obtain ⟨i, h1, h2⟩ := h.ix
  obtain ⟨a, b, d⟩ := c.vis x m.mem
  exact (pe_var (i := i) (by rw [c.names]; exact h1) a b d).w ⟨v, h2, q⟩
theorem w_gname {v : V} {u : Value} (c : Nm X N L S G B) (m : Mb x G) (hm : X.mg x = some u) (r : RelV v u) (q : Q v H) : WE X (.Name x pos) σ H Q := by
  obtain ⟨a, b, d⟩ := c.glo x m.mem
  exact (pe_glob a hm r b).w q
theorem w_bname {v : V} {u : Value} (c : Nm X N L S G B) (m : Mb x B) (hv : bootBuiltins x = some u) (r : RelV v u) (q : Q v H) : WE X (.Name x pos) σ H Q := by
  obtain ⟨a, b, d⟩ := c.bgl x m.mem
  exact (pe_bltn a (c.blt x m.mem) hv r d b).w q
theorem w_int {i : Int} {j} (q : Q (.int i) H) : WE X (.Constant (.int i) j pos) σ H Q := (pe_int).w q
theorem w_bl {b : Bool} {j} (q : Q (.bl b) H) : WE X (.Constant (.bool b) j pos) σ H Q := (pe_bl).w q
theorem w_non {j} (q : Q .non H) : WE X (.Constant .none j pos) σ H Q := (pe_non).w q
theorem w_str {z : Str} {j} (q : Q (.str z) H) : WE X (.Constant (.str z) j pos) σ H Q := (pe_str).w q
/-- a target that is a name -/
theorem wg_name {Q : L2.St → Hp → Prop} {σ' : L2.St} (c : Nm X N L S G B) (h : Put N σ x v σ') (m : Mb x S) (q : Q σ' H) : WG X (.Name x pos) v σ H Q := by
  obtain ⟨i, h1, rfl⟩ := h.ix
  obtain ⟨a, b⟩ := c.sto x m.mem
  exact (pg_name (i := i) (by rw [c.names]; exact c.nd) (by rw [c.names]; exact h1) a b).w q
end

/-! ### operators: by values -/
structure WB (X : Cx) (f : Value → Value → Sem Value) (x y : V) (σ : L2.St) (H : Hp) (Q : VK) : Prop where
  run : ∀ (pins : List (Addr × Obj)) (s : Shared) (v u : Value), Inv X pins σ H s → RelV x v → RelV y u → wpAny (model X.prog X.w) X.A (f v u) (EP X pins σ Q) X.xe s
structure WU (X : Cx) (f : Value → Sem Value) (x : V) (σ : L2.St) (H : Hp) (Q : VK) : Prop where
  run : ∀ (pins : List (Addr × Obj)) (s : Shared) (v : Value), Inv X pins σ H s → RelV x v → wpAny (model X.prog X.w) X.A (f v) (EP X pins σ Q) X.xe s
theorem _root_.L2.OpR.w {X : Cx} {f : Value → Value → Sem Value} {r : R2} {x y : V} {σ : L2.St} {H : Hp} {Q : VK} (h : OpR X f r) (q : r x y H Q) : WB X f x y σ H Q := ⟨fun pins s v u I rx ry => h pins s σ H x y v u Q I rx ry q⟩
theorem _root_.L2.UnR.w {X : Cx} {f : Value → Sem Value} {r : V → Hp → VK → Prop} {x : V} {σ : L2.St} {H : Hp} {Q : VK} (h : UnR X f r) (q : r x H Q) : WU X f x σ H Q := ⟨fun pins s v I rx => h pins s σ H x v Q I rx q⟩
section
variable {X : Cx} {a b c : Expr} {σ : L2.St} {H : Hp} {Q : VK} {pos : Pos}
theorem w_bin {op : Operator} (h : WE X a σ H fun x H1 => WE X b σ H1 fun y H2 => WB X (binaryOp op) x y σ H2 Q) : WE X (.BinOp a op b pos) σ H Q :=
  ⟨fun pins s I => wpAny_BinOp (thn (h.run pins s I) fun v s1 ⟨x, H1, I1, r1, q1⟩ => thn (q1.run pins s1 I1) fun u s2 ⟨y, H2, I2, r2, q2⟩ => q2.run pins s2 v u I2 r1 r2)⟩
theorem w_un {op : UnaryOp} (h : WE X a σ H fun x H1 => WU X (unaryOp op) x σ H1 Q) : WE X (.UnaryOp op a pos) σ H Q :=
  ⟨fun pins s I => UnaryOp_ (thn (h.run pins s I) fun v s1 ⟨x, H1, I1, r1, q1⟩ => q1.run pins s1 v I1 r1)⟩
/-- one comparison as a value; hm by nomark (rfl for in, not in) -/
theorem w_cmp {op : CmpOp} (h : WE X a σ H fun x H1 => WE X b σ H1 fun y H2 => WB X (compareOp op) x y σ H2 Q) (hm : behindInMarks op b = false) : WE X (.Compare a [op] [b] pos) σ H Q :=
  ⟨fun pins s I => wpAny_Compare1 (thn (h.run pins s I) fun v s1 ⟨x, H1, I1, r1, q1⟩ => thn (q1.run pins s1 I1) fun u s2 ⟨y, H2, I2, r2, q2⟩ => q2.run pins s2 v u I2 r1 r2) hm⟩
theorem wt_cmp {op : CmpOp} {Q : Bool → Hp → Prop} (h : WE X a σ H fun x H1 => WE X b σ H1 fun y H2 => WB X (compareOp op) x y σ H2 fun z H3 => ∃ k, z = .bl k ∧ Q k H3) (hm : behindInMarks op b = false) : WT X (.Compare a [op] [b] pos) σ H Q :=
  ⟨fun pins s I => wpAny_isTrue_Compare1 (thn (h.run pins s I) fun v s1 ⟨x, H1, I1, r1, q1⟩ => thn (q1.run pins s1 I1) fun u s2 ⟨y, H2, I2, r2, q2⟩ => thn (q2.run pins s2 v u I2 r1 r2) fun d s3 ⟨z, H3, I3, r3, k, e, q3⟩ => by
    subst e
    cases r3
    exact wpAny_truthy_bool ⟨H3, I3, q3⟩) hm⟩
/-- a < b < c -/
theorem w_chain {op op' : CmpOp} (h : WE X a σ H fun x H1 => WE X b σ H1 fun y H2 => WB X (compareOp op) x y σ H2 fun z H3 => ∃ k, z = .bl k ∧ if k = true then WE X c σ H3 fun w' H4 => WB X (compareOp op') y w' σ H4 Q else Q (.bl false) H3)
    (hm : lastMarks [op, op'] [b, c] = false := by with_unfolding_all rfl) : WE X (.Compare a [op, op'] [b, c] pos) σ H Q :=
  ⟨fun pins s I => Compare_chain (thn (h.run pins s I) fun v s1 ⟨x, H1, I1, r1, q1⟩ => chain_link (thn (q1.run pins s1 I1) fun u s2 ⟨y, H2, I2, r2, q2⟩ => thn (q2.run pins s2 v u I2 r1 r2) fun d s3 ⟨z, H3, I3, r3, k, e, q3⟩ => by
    subst e
    cases r3
    refine wpAny_truthy_bool ?_
    cases k with
    | false => exact ite_ff ⟨.bl false, H3, I3, rfl, q3⟩
    | true => exact ite_tt (chain_last (thn (q3.run pins s3 I3) fun w' s4 ⟨z', H4, I4, r4, q4⟩ => q4.run pins s4 u w' I4 r2 r4)))) hm⟩
theorem wt_chain {op op' : CmpOp} {Q : Bool → Hp → Prop} (h : WE X a σ H fun x H1 => WE X b σ H1 fun y H2 => WB X (compareOp op) x y σ H2 fun z H3 => ∃ k, z = .bl k ∧ if k = true then WE X c σ H3 fun w' H4 => WB X (compareOp op') y w' σ H4 fun z' H5 => ∃ k', z' = .bl k' ∧ Q k' H5 else Q false H3)
    (hm : lastMarks [op, op'] [b, c] = false := by with_unfolding_all rfl) : WT X (.Compare a [op, op'] [b, c] pos) σ H Q :=
  ⟨fun pins s I => isTrue_chain (thn (h.run pins s I) fun v s1 ⟨x, H1, I1, r1, q1⟩ => test_link (thn (q1.run pins s1 I1) fun u s2 ⟨y, H2, I2, r2, q2⟩ => thn (q2.run pins s2 v u I2 r1 r2) fun d s3 ⟨z, H3, I3, r3, k, e, q3⟩ => by
    subst e
    cases r3
    refine wpAny_truthy_bool ?_
    cases k with
    | false => exact ite_ff ⟨H3, I3, q3⟩
    | true =>
      refine ite_tt (test_last (thn (q3.run pins s3 I3) fun w' s4 ⟨z', H4, I4, r4, q4⟩ => thn (q4.run pins s4 u w' I4 r2 r4) fun d' s5 ⟨z2, H5, I5, r5, k2, e2, q5⟩ => ?_))
      subst e2
      cases r5
      exact wpAny_truthy_bool ⟨H5, I5, q5⟩)) hm⟩
/-! ### tests -/
variable {T : Bool → Hp → Prop} {rest : List Expr}
theorem wt_of_ww (h : WW X a σ H T) : WT X a σ H T := (pw_w.pt).w h
theorem ww_and1 (h : WT X a σ H T) : WW X (.BoolOp .And [a] pos) σ H T := (pw_and1 pt_w).w h
theorem ww_or1 (h : WT X a σ H T) : WW X (.BoolOp .Or [a] pos) σ H T := (pw_or1 pt_w).w h
theorem ww_and (h : WT X a σ H fun k H1 => if k = true then WW X (.BoolOp .And (b :: rest) pos) σ H1 T else T false H1) : WW X (.BoolOp .And (a :: b :: rest) pos) σ H T := (pw_and pt_w pw_w).w h
theorem ww_or (h : WT X a σ H fun k H1 => if k = true then T true H1 else WW X (.BoolOp .Or (b :: rest) pos) σ H1 T) : WW X (.BoolOp .Or (a :: b :: rest) pos) σ H T := (pw_or pt_w pw_w).w h
theorem wt_not (h : WT X a σ H fun k H1 => T (!k) H1) : WT X (.UnaryOp .Not a pos) σ H T := (pt_not pt_w).w h
/-- any other expression, by its value's truth -/
theorem wt_val (h : WE X a σ H fun x H1 => ∃ k, TruV X.K x H1 k ∧ T k H1) (he : ∀ whole, isTrue a X.env whole = (do let v ← whole; standAt a.pos; holding [v] (truthy v)) := by intro _; with_unfolding_all rfl) : WT X a σ H T := (pt_truth pe_w he).w h
/-- as values, all but the last True or False -/
theorem w_one {op} (h : WE X a σ H Q) : WE X (.BoolOp op [a] pos) σ H Q := (pe_one pe_w).w h
theorem w_and (h : WE X a σ H fun x H1 => ∃ k, x = .bl k ∧ if k = true then WE X (.BoolOp .And (b :: rest) pos) σ H1 Q else Q (.bl false) H1) : WE X (.BoolOp .And (a :: b :: rest) pos) σ H Q := (pe_and pe_w pe_w).w h
theorem w_or (h : WE X a σ H fun x H1 => ∃ k, x = .bl k ∧ if k = true then Q (.bl true) H1 else WE X (.BoolOp .Or (b :: rest) pos) σ H1 Q) : WE X (.BoolOp .Or (a :: b :: rest) pos) σ H Q := (pe_or pe_w pe_w).w h
theorem w_not (h : WE X a σ H fun x H1 => ∃ k, x = .bl k ∧ Q (.bl (!k)) H1) : WE X (.UnaryOp .Not a pos) σ H Q := (pe_not pe_w).w h
theorem w_if (h : WT X c σ H fun k H1 => if k = true then WE X a σ H1 Q else WE X b σ H1 Q) : WE X (.IfExp c a b pos) σ H Q := (pe_ifExp pt_w pe_w pe_w).w h
end
/-- a new object: what stood stands -/
theorem same_new {H : Hp} {p : Addr} {o : HO} (h : H p = none) : Same H (upd H p o) := fun a u e => by
  rw [upd_ne (ne_of_none e h)]
  exact e
theorem newly {H : Hp} {p : Addr} {o : HO} {Q : Hp → Prop} (h : ∀ H', Same H H' → H' p = some o → Q H') (n : H p = none) : Q (upd H p o) := h _ (same_new n) upd_same
theorem newly' {H : Hp} {o : HO} {Q : Addr → Hp → Prop} (h : ∀ p H', H p = none → Same H H' → H' p = some o → Q p H') : ∀ p, H p = none → Q p (upd H p o) := fun p n => h p _ n (same_new n) upd_same
/-- an object that H does not know changes -/
theorem same_mut {H H' : Hp} {p : Addr} {o : HO} (e : Same H H') (h : H p = none) : Same H (upd H' p o) := fun a u q => by
  rw [upd_ne (ne_of_none q h)]
  exact e a u q
theorem same_at {H H' : Hp} {p : Addr} {o : HO} (e : Same H H') (h : H p = some o) : H' p = some o := e p o h
theorem same_t {K : PySem.W.Frag} {H H' : Hp} {a : Addr} {xs : List V} (e : Same H H') (h : SqT K H a xs) : SqT K H' a xs := by
  rcases h with (h | ⟨o, h⟩) | h
  · exact .inl (.inl (e _ _ h))
  · exact .inl (.inr ⟨o, e _ _ h⟩)
  · exact .inr h
theorem ite_bl {k : Bool} {A B : Prop} (h1 : k = true → A) (h2 : k = false → B) : if k = true then A else B := by
  cases k with
  | true => rw [if_pos rfl]; exact h1 rfl
  | false => rw [if_neg (by decide)]; exact h2 rfl
end Sv

namespace Sv
open PySem PySem.Spec PyProof.Rows L2

/-! ### operators on values -/
section
variable {X : Cx} {σ : L2.St} {H : Hp} {Q : VK}
theorem b_add {i j : Int} (q : Q (.int (i + j)) H) : WB X (binaryOp .Add) (.int i) (.int j) σ H Q := op_add.w ⟨_, _, rfl, rfl, q⟩
theorem b_sub {i j : Int} (q : Q (.int (i - j)) H) : WB X (binaryOp .Sub) (.int i) (.int j) σ H Q := op_sub.w ⟨_, _, rfl, rfl, q⟩
theorem b_mul {i j : Int} (h : IntMulOk i j) (q : Q (.int (i * j)) H) : WB X (binaryOp .Mult) (.int i) (.int j) σ H Q :=
  ⟨fun pins s v u I rx ry => by
    obtain ⟨t, rfl⟩ := rx
    obtain ⟨t', rfl⟩ := ry
    exact mul_int (show EP X pins σ Q _ _ from ⟨V.int (i * j), H, I.tok _, ⟨_, rfl⟩, q⟩) h⟩
theorem b_mod {i j : Int} (h : 0 < j) (q : Q (.int (i % j)) H) : WB X (binaryOp .Mod) (.int i) (.int j) σ H Q := op_mod.w ⟨_, _, rfl, rfl, h, q⟩
theorem b_fdiv {i j : Int} (h : 0 < j) (h2 : j < 1073741824) (q : Q (.int (i / j)) H) : WB X (binaryOp .FloorDiv) (.int i) (.int j) σ H Q := op_fdiv.w ⟨_, _, rfl, rfl, ⟨h, h2⟩, q⟩
theorem b_pow {i j : Int} (h : 0 ≤ j ∧ j ≤ 1000000 ∧ i.natAbs < 2 ^ 64) (q : Q (.int (i ^ j.toNat)) H) : WB X (binaryOp .Pow) (.int i) (.int j) σ H Q := op_pow.w ⟨_, _, rfl, rfl, h, q⟩
theorem b_addS {x y : Str} (h : x.length + y.length ≤ sizeLine) (q : Q (.str (x ++ y)) H) : WB X (binaryOp .Add) (.str x) (.str y) σ H Q := op_add_str.w ⟨_, _, rfl, rfl, h, q⟩
theorem b_cat {l b : Addr} {xs zs : List V} (h1 : H l = some (.lst xs)) (h2 : H b = some (.lst zs)) (hz : xs.length + zs.length ≤ sizeLine) (q : ∀ p H', H p = none → Same H H' → H' p = some (.lst (xs ++ zs)) → Q (.ref p) H') :
    WB X (binaryOp .Add) (.ref l) (.ref b) σ H Q := op_cat.w ⟨_, _, _, _, rfl, rfl, h1, h2, hz, newly' (Q := fun p H' => Q (.ref p) H') q⟩
theorem b_rep {l : Addr} {k : Int} {xs : List V} (h1 : H l = some (.lst xs)) (h2 : -(2 ^ 63) ≤ k) (h3 : k < 2 ^ 63) (hz : xs.length * k.toNat ≤ sizeLine) (q : ∀ p H', H p = none → Same H H' → H' p = some (.lst (List.replicate k.toNat xs).flatten) → Q (.ref p) H') :
    WB X (binaryOp .Mult) (.ref l) (.int k) σ H Q := op_rep.w ⟨_, _, _, rfl, rfl, h1, h2, h3, hz, newly' (Q := fun p H' => Q (.ref p) H') q⟩
theorem b_lt {i j : Int} (q : Q (.bl (decide (i < j))) H) : WB X (compareOp .Lt) (.int i) (.int j) σ H Q := op_lt.w ⟨_, _, rfl, rfl, q⟩
theorem b_le {i j : Int} (q : Q (.bl (decide (i ≤ j))) H) : WB X (compareOp .LtE) (.int i) (.int j) σ H Q := op_le.w ⟨_, _, rfl, rfl, q⟩
theorem b_gt {i j : Int} (q : Q (.bl (decide (j < i))) H) : WB X (compareOp .Gt) (.int i) (.int j) σ H Q := op_gt.w ⟨_, _, rfl, rfl, q⟩
theorem b_ge {i j : Int} (q : Q (.bl (decide (j ≤ i))) H) : WB X (compareOp .GtE) (.int i) (.int j) σ H Q := op_ge.w ⟨_, _, rfl, rfl, q⟩
theorem b_eqI {i j : Int} (q : Q (.bl (decide (i = j))) H) : WB X (compareOp .Eq) (.int i) (.int j) σ H Q := op_eq.w ⟨rfl, by simpa using q⟩
theorem b_neI {i j : Int} (q : Q (.bl (!decide (i = j))) H) : WB X (compareOp .NotEq) (.int i) (.int j) σ H Q := op_ne.w ⟨rfl, by simpa using q⟩
theorem b_eqS {x y : Str} (q : Q (.bl (decide (x = y))) H) : WB X (compareOp .Eq) (.str x) (.str y) σ H Q := op_eq.w ⟨rfl, by simpa using q⟩
theorem b_neS {x y : Str} (q : Q (.bl (!decide (x = y))) H) : WB X (compareOp .NotEq) (.str x) (.str y) σ H Q := op_ne.w ⟨rfl, by simpa using q⟩
theorem b_eqB {x y : Bool} (q : Q (.bl (decide (x = y))) H) : WB X (compareOp .Eq) (.bl x) (.bl y) σ H Q := op_eq.w ⟨rfl, by simpa using q⟩
theorem b_neB {x y : Bool} (q : Q (.bl (!decide (x = y))) H) : WB X (compareOp .NotEq) (.bl x) (.bl y) σ H Q := op_ne.w ⟨rfl, by simpa using q⟩
theorem b_eqV {x y : V} (h : scal x y = true) (q : Q (.bl (decide (x = y))) H) : WB X (compareOp .Eq) x y σ H Q := op_eq.w ⟨h, q⟩
theorem b_neV {x y : V} (h : scal x y = true) (q : Q (.bl (!decide (x = y))) H) : WB X (compareOp .NotEq) x y σ H Q := op_ne.w ⟨h, q⟩
theorem b_isN {x : V} (q : Q (.bl (decide (x = .non))) H) : WB X (compareOp .Is) x .non σ H Q := op_isN.w ⟨rfl, q⟩
theorem b_notN {x : V} (q : Q (.bl (!decide (x = .non))) H) : WB X (compareOp .IsNot) x .non σ H Q := op_notN.w ⟨rfl, q⟩
theorem b_isB {x y : Bool} (q : Q (.bl (decide (x = y))) H) : WB X (compareOp .Is) (.bl x) (.bl y) σ H Q := op_isBl.w ⟨_, _, rfl, rfl, q⟩
theorem b_notB {x y : Bool} (q : Q (.bl (!decide (x = y))) H) : WB X (compareOp .IsNot) (.bl x) (.bl y) σ H Q := op_notBl.w ⟨_, _, rfl, rfl, q⟩
theorem b_inS {c : Nat} {z : Str} (q : Q (.bl (decide (c ∈ z.cps.toList))) H) : WB X (compareOp .In) (.str ⟨#[c]⟩) (.str z) σ H Q := op_in_sign.w ⟨_, _, rfl, rfl, q⟩
theorem b_notinS {c : Nat} {z : Str} (q : Q (.bl (!decide (c ∈ z.cps.toList))) H) : WB X (compareOp .NotIn) (.str ⟨#[c]⟩) (.str z) σ H Q := op_notIn_sign.w ⟨_, _, rfl, rfl, q⟩
theorem b_inSet {k : Int} {a : Addr} {S : Int → Bool} {n : Nat} (h : H a = some (SetO X.w a S n)) (q : Q (.bl (S k)) H) : WB X (compareOp .In) (.int k) (.ref a) σ H Q := or_sin.w ⟨_, _, _, _, rfl, rfl, h, q⟩
theorem b_inL {x : V} {p : Addr} {xs : List V} (h : SqL X.K H p xs ∨ SqT X.K H p xs) (hx : flatV x = true) (ha : xs.all flatV = true) (q : Q (.bl (inV x xs)) H) : WB X (compareOp .In) x (.ref p) σ H Q := op_in_seq.w ⟨_, _, rfl, h, hx, ha, q⟩
theorem b_notinL {x : V} {p : Addr} {xs : List V} (h : SqL X.K H p xs ∨ SqT X.K H p xs) (hx : flatV x = true) (ha : xs.all flatV = true) (q : Q (.bl (!inV x xs)) H) : WB X (compareOp .NotIn) x (.ref p) σ H Q := op_notIn_seq.w ⟨_, _, rfl, h, hx, ha, q⟩
theorem u_neg {i : Int} (q : Q (.int (-i)) H) : WU X (unaryOp .USub) (.int i) σ H Q := un_neg.w ⟨_, rfl, q⟩
/-- == of data at any depth -/
theorem b_eqD {x y : V} {d e : PyData} (hu : X.A.units + 64 < cLine) (h1 : Dp X.K H x d) (h2 : Dp X.K H y e) (s1 : SeqAt.shaped d = true) (s2 : SeqAt.shaped e = true) (q : Q (.bl (PyData.eqv d e)) H) : WB X (compareOp .Eq) x y σ H Q :=
  (op_eqD hu).w ⟨d, e, h1, h2, s1, s2, q⟩
theorem b_neD {x y : V} {d e : PyData} (hu : X.A.units + 64 < cLine) (h1 : Dp X.K H x d) (h2 : Dp X.K H y e) (s1 : SeqAt.shaped d = true) (s2 : SeqAt.shaped e = true) (q : Q (.bl (!PyData.eqv d e)) H) : WB X (compareOp .NotEq) x y σ H Q :=
  (op_neD hu).w ⟨d, e, h1, h2, s1, s2, q⟩
end

/-! ### displays, arguments -/
section
variable {X : Cx} {e : Expr} {es : List Expr} {σ : L2.St} {H : Hp} {Q : VK} {pos : Pos} {R : List V → Hp → Prop}
theorem wa_nil (q : R [] H) : WA X [] σ H R := pa_nil.w q
theorem wa_cons (h : WE X e σ H fun x H1 => WA X es σ H1 fun xs H2 => R (x :: xs) H2) (hs : starEach (e :: es) X.env = (false, eval e X.env) :: starEach es X.env := by with_unfolding_all rfl) : WA X (e :: es) σ H R := (pa_cons pe_w pa_w hs).w h
theorem wa_star {p} (h : WE X e σ H fun x H1 => ∃ a xs, x = .ref a ∧ (SqT X.K H1 a xs ∨ SqL X.K H1 a xs) ∧ WA X es σ H1 fun ys H2 => R (xs ++ ys) H2) (hs : starEach (.Starred e p :: es) X.env = (true, eval e X.env) :: starEach es X.env := by with_unfolding_all rfl) : WA X (.Starred e p :: es) σ H R :=
  (StX.pa_star pe_w pa_w hs).w h
theorem w_lst (h : WA X es σ H fun xs H1 => xs.length ≤ sizeLine ∧ ∀ p H2, H1 p = none → Same H1 H2 → H2 p = some (.lst xs) → Q (.ref p) H2) : WE X (.List es pos) σ H Q :=
  (pe_lst pa_w).w (WA.imp h fun xs H1 ⟨a, q⟩ => ⟨a, newly' (Q := fun p H' => Q (.ref p) H') q⟩)
theorem w_tup {k} (h : WA X es σ H fun xs H1 => xs.length ≤ sizeLine ∧ ∀ p H2, H1 p = none → Same H1 H2 → H2 p = some (.tup xs) → Q (.ref p) H2) : WE X (.Tuple es k pos) σ H Q :=
  (pe_tup pa_w).w (WA.imp h fun xs H1 ⟨a, q⟩ => ⟨a, newly' (Q := fun p H' => Q (.ref p) H') q⟩)
end

/-! ### subscripts, slices -/
structure WX (X : Cx) (x y : V) (σ : L2.St) (H : Hp) (Q : VK) : Prop where
  ex : ∃ r : R2, IxR X r ∧ r x y H Q
structure WPt (X : Cx) (oe : Option Expr) (σ : L2.St) (H : Hp) (Q : Option Int → Hp → Prop) : Prop where
  run : ∀ (pins : List (Addr × Obj)) (s : Shared), Inv X pins σ H s → wpAny (model X.prog X.w) X.A (evalPart oe X.env) (fun u s' => ∃ o H', Inv X pins σ H' s' ∧ IsPart u o ∧ Q o H') X.xe s
theorem po_w {X : Cx} {oe : Option Expr} : PO X oe (WPt X oe) := ⟨fun pins s _ _ _ I h => h.run pins s I⟩
structure WSl (X : Cx) (x : V) (lo hi : Option Int) (σ : L2.St) (H : Hp) (Q : VK) : Prop where
  ex : ∃ r : V → Option Int → Option Int → Hp → VK → Prop, SlR X r ∧ r x lo hi H Q
section
variable {X : Cx} {a b e : Expr} {lo hi : Option Expr} {σ : L2.St} {H : Hp} {Q : VK} {pos p2 : Pos}
theorem ixr_w : IxR X fun x y H Q => ∀ σ, WX X x y σ H Q := by
  intro value slice pins s σ H x y v u Q I rx ry q hs
  obtain ⟨r, h, q⟩ := (q σ).ex
  exact h value slice pins s σ H x y v u Q I rx ry q hs
theorem w_ix (h : WE X a σ H fun x H1 => WE X b σ H1 fun y H2 => WX X x y σ H2 Q) (hs : PlainIx b := by with_unfolding_all exact fun _ _ => rfl) : WE X (.Subscript a b pos) σ H Q :=
  ⟨fun pins s I => Subscript_ (thn (h.run pins s I) fun v s1 ⟨x, H1, I1, r1, q1⟩ => thn (q1.run pins s1 I1) fun u s2 ⟨y, H2, I2, r2, q2⟩ => by
    obtain ⟨r, hr, q⟩ := q2.ex
    exact hr a b pins s2 σ H2 x y v u Q I2 r1 r2 q (hs _ _))⟩
theorem ix_l {p : Addr} {xs : List V} {i : Int} {v : V} (h : SqL X.K H p xs) (hv : atI xs i = some v) (q : Q v H) : WX X (.ref p) (.int i) σ H Q := ⟨_, ix_list, _, _, _, _, rfl, rfl, h, hv, q⟩
theorem ix_t {p : Addr} {xs : List V} {i : Int} {v : V} (h : SqT X.K H p xs) (hv : atI xs i = some v) (q : Q v H) : WX X (.ref p) (.int i) σ H Q := ⟨_, ix_tup, _, _, _, _, rfl, rfl, h, hv, q⟩
theorem ix_s {z : Str} {i : Int} {c : Nat} (h : z.length ≤ sizeLine) (hv : atI z.cps.toList i = some c) (q : Q (.str ⟨#[c]⟩) H) : WX X (.str z) (.int i) σ H Q := ⟨_, ix_str, _, _, _, rfl, rfl, h, hv, q⟩
theorem wp_none {Q : Option Int → Hp → Prop} (q : Q none H) : WPt X none σ H Q := ⟨fun pins s I => po_none.run pins s σ H Q I q⟩
theorem wp_some {Q : Option Int → Hp → Prop} (h : WE X e σ H fun x H1 => ∃ i, x = .int i ∧ Q (some i) H1) : WPt X (some e) σ H Q := ⟨fun pins s I => (po_some pe_w).run pins s σ H Q I h⟩
theorem w_slice (h : WE X e σ H fun x H1 => WPt X lo σ H1 fun l H2 => WPt X hi σ H2 fun u H3 => WSl X x l u σ H3 Q) : WE X (.Subscript e (.Slice lo hi none p2) pos) σ H Q := by
  have hr : SlR X fun x l u H Q => ∀ σ, WSl X x l u σ H Q := by
    intro pins s σ H x v vl vu lo hi sl Q I rx hs pl pu q
    obtain ⟨r, h, q⟩ := (q σ).ex
    exact h pins s σ H x v vl vu lo hi sl Q I rx hs pl pu q
  refine ⟨fun pins s I => ?_⟩
  refine Subscript_ (thn (h.run pins s I) fun v s1 ⟨x, H1, I1, r1, q1⟩ => ?_)
  refine wpAny_Slice (thn (q1.run pins s1 I1) fun vl s2 ⟨l, H2, I2, pl, q2⟩ => thn (q2.run pins s2 I2) fun vu s3 ⟨u, H3, I3, pu, q3⟩ => ?_)
  rw [evalPart_none]
  refine wpAny_pure ?_
  have I4 : Inv X pins σ H3 { s3 with heap := s3.heap.push { cls := .type "slice", data := .fields #[vl, vu, .none] } } := I3.kept (t' := s3.toks) fun b ob q => Heap.get?_push_of_some _ q
  obtain ⟨r, hr', q4⟩ := q3.ex
  obtain ⟨T, id, hT, ht, hg⟩ := hr' pins { s3 with heap := s3.heap.push { cls := .type "slice", data := .fields #[vl, vu, .none] } } σ H3 x v vl vu l u s3.heap.objs.size Q I4 r1 (Heap.IsSliceOf.new ..) pl pu q4
  show wpAny (model X.prog X.w) X.A (subscriptTail e (.Slice lo hi none p2) v (.ref s3.heap.objs.size)) (EP X pins σ Q) X.xe { s3 with heap := s3.heap.push { cls := .type "slice", data := .fields #[vl, vu, .none] } }
  exact tail_any (ops := [.ref s3.heap.objs.size, v]) ht hT hg (by with_unfolding_all rfl)
theorem sl_l {p : Addr} {xs : List V} {l u : Option Int} (h : SqL X.K H p xs) (q : ∀ p' H', H p' = none → Same H H' → H' p' = some (.lst (cutV xs l u)) → Q (.ref p') H') : WSl X (.ref p) l u σ H Q := ⟨_, sl_list, _, _, rfl, h, newly' (Q := fun p H' => Q (.ref p) H') q⟩
theorem sl_s {z : Str} {l u : Option Int} (h : z.length ≤ sizeLine) (q : Q (.str (cutS z l u)) H) : WSl X (.str z) l u σ H Q := ⟨_, sl_str, _, rfl, h, q⟩
end

/-! ### statements -/
section
variable {X : Cx} {N L S G B : List Str} {e c : Expr} {st : Stmt} {rest a b : List Stmt} {σ : L2.St} {H : Hp} {D : Ends} {pos : Pos} {x : Str}
theorem wl_nil (q : D.nx σ H) : WL X [] D σ H := pss_nil.w q
theorem wl_cons (h : WS X st { D with nx := fun σ' H' => WL X rest D σ' H' } σ H) : WL X (st :: rest) D σ H := (pss_cons ps_w pss_w).w h
theorem ws_pass (q : D.nx σ H) : WS X (.Pass pos) D σ H := ps_pass.w q
theorem ws_break (q : D.bk σ H) : WS X (.Break pos) D σ H := ps_break.w q
theorem ws_continue (q : D.ct σ H) : WS X (.Continue pos) D σ H := ps_continue.w q
theorem ws_doc {z j p'} (q : D.nx σ H) : WS X (.Expr (.Constant (.str z) j pos) p') D σ H := ps_doc.w q
theorem ws_expr (h : WE X e σ H fun _ H1 => D.nx σ H1) (hs : swapsWith e none pos.line X.env = pure false := by with_unfolding_all rfl) : WS X (.Expr e pos) D σ H := (ps_expr pe_w hs).w h
theorem ws_ret (h : WE X e σ H D.rt) : WS X (.Return (some e) pos) D σ H := (ps_ret pe_w).w h
theorem ws_retN (q : D.rt .non H) : WS X (.Return none pos) D σ H := ps_retN.w q
theorem ws_if (h : WT X c σ H fun k H1 => if k = true then WL X a D σ H1 else WL X b D σ H1) : WS X (.If c a b pos) D σ H := (ps_if pt_w pss_w pss_w).w h
theorem ws_set {p' : Pos} (c : Nm X N L S G B) (m : Mb x S) (h : WE X e σ H fun v H1 => ∃ σ', Put N σ x v σ' ∧ D.nx σ' H1) (hs : swapsWith e (some (.Name x p')) pos.line X.env = pure false := by with_unfolding_all rfl) : WS X (.Assign [.Name x p'] e pos) D σ H := by
  obtain ⟨a, b⟩ := c.sto x m.mem
  refine ⟨fun pins s I => ?_⟩
  refine wpAny_Assign_Name (thn (h.run pins s I) fun v s1 ⟨y, H1, I1, r1, σ', hp, q⟩ => ?_) hs
  obtain ⟨i, hi, rfl⟩ := hp.ix
  exact store_ok I1 (by rw [c.names]; exact c.nd) (by rw [c.names]; exact hi) a r1 (fun s2 I2 => ⟨_, H1, I2, q⟩) b
theorem ws_asg {tg : Expr} (h : WE X e σ H fun v H1 => WG X tg v σ H1 D.nx) (hs : swapsWithSole [tg] e pos.line X.env = pure false := by with_unfolding_all rfl) (hw : swappedStores [tg] e X.env = pure none := by with_unfolding_all rfl)
    (h1 : (assignEach [tg] X.env).map (·.2) = [assign tg X.env] := by with_unfolding_all rfl) : WS X (.Assign [tg] e pos) D σ H := (ps_asg pe_w pg_w hs hw h1).w h
/-- a, b = e, f with plain local names -/
theorem ws_par {y : Str} {ea eb : Expr} {px py pt : Pos} {kt k2 pt2} (c : Nm X N L S G B) (hx : X.env.scope.names.lookup x = some .local) (hy : X.env.scope.names.lookup y = some .local) (hxy : x ≠ y)
    (h : WE X ea σ H fun v H1 => WE X eb σ H1 fun w H2 => ∃ σ1 σ2, Put N σ x v σ1 ∧ Put N σ1 y w σ2 ∧ D.nx σ2 H2)
    (hw : swappedStores [.Tuple [.Name x px, .Name y py] kt pt] (.Tuple [ea, eb] k2 pt2) X.env = pure (some [x, y]))
    (hs : swapsWithSole [.Tuple [.Name x px, .Name y py] kt pt] (.Tuple [ea, eb] k2 pt2) pos.line X.env = pure false := by with_unfolding_all rfl)
    (h1 : starEach [ea, eb] X.env = (false, eval ea X.env) :: starEach [eb] X.env := by with_unfolding_all rfl) (h2 : starEach [eb] X.env = (false, eval eb X.env) :: starEach [] X.env := by with_unfolding_all rfl)
    (ix : ∃ i j : Nat, N[i]? = some x ∧ N[j]? = some y) :
    WS X (.Assign [.Tuple [.Name x px, .Name y py] kt pt] (.Tuple [ea, eb] k2 pt2) pos) D σ H := by
  obtain ⟨i, j, hi, hj⟩ := ix
  have nd : X.N.Nodup := by rw [c.names]; exact c.nd
  have hi' : X.N[i]? = some x := by rw [c.names]; exact hi
  have hj' : X.N[j]? = some y := by rw [c.names]; exact hj
  have hij : i ≠ j := fun z => by
    rw [z, hj'] at hi'
    exact hxy (Option.some.inj hi').symm
  refine (ps_par (i := i) (j := j) c.calm nd hi' hj' hij hx hy (pa_cons pe_w (pa_cons pe_w pa_nil h2) h1) hw hs).w ?_
  refine WE.imp h fun v H1 h1 => WE.imp h1 fun w H2 ⟨σ1, σ2, p1, p2, q⟩ => ⟨v, w, rfl, ?_⟩
  obtain ⟨i', hi2, rfl⟩ := p1.ix
  obtain ⟨j', hj2, rfl⟩ := p2.ix
  have ei : i' = i := nodup_ix nd (by rw [c.names]; exact hi2) hi'
  have ej : j' = j := nodup_ix nd (by rw [c.names]; exact hj2) hj'
  subst ei ej
  exact q
theorem ws_never (h : False) : WS X st D σ H := h.elim
/-- targets -/
theorem wgs_nil {Q : L2.St → Hp → Prop} (q : Q σ H) : WGs X [] [] σ H Q := pgs_nil.w ⟨rfl, q⟩
theorem wgs_cons {Q : L2.St → Hp → Prop} {es : List Expr} {v : V} {vs : List V} (h : WG X e v σ H fun σ' H' => WGs X es vs σ' H' Q) (hs : (assignEach (e :: es) X.env).map (·.2) = assign e X.env :: (assignEach es X.env).map (·.2) := by with_unfolding_all rfl) : WGs X (e :: es) (v :: vs) σ H Q :=
  (pgs_cons pg_w pgs_w hs).w ⟨v, vs, rfl, h⟩
theorem wg_tup {Q : L2.St → Hp → Prop} {es : List Expr} {k} {p : Addr} {xs : List V} (c : Nm X N L S G B) (h : SqT X.K H p xs) (q : WGs X es xs σ H Q) (hn : (assignEach es X.env).length = xs.length := by with_unfolding_all rfl) (hst : (assignEach es X.env).findIdx? (·.1) = none := by with_unfolding_all rfl) :
    WG X (.Tuple es k pos) (.ref p) σ H Q := (pg_tup c.calm pgs_w hn hst).w ⟨p, xs, rfl, h, rfl, q⟩
theorem wg_lst {Q : L2.St → Hp → Prop} {es : List Expr} {k} {p : Addr} {xs : List V} (c : Nm X N L S G B) (h : SqL X.K H p xs) (q : WGs X es xs σ H Q) (hn : (assignEach es X.env).length = xs.length := by with_unfolding_all rfl) (hst : (assignEach es X.env).findIdx? (·.1) = none := by with_unfolding_all rfl) :
    WG X (.Tuple es k pos) (.ref p) σ H Q := (pg_lst c.calm pgs_w hn hst).w ⟨p, xs, rfl, h, rfl, q⟩
/-- o[i] = v of a list -/
theorem wg_subL {Q : L2.St → Hp → Prop} {o i : Expr} {v : V} (h : WE X o σ H fun x H1 => WE X i σ H1 fun y H2 => ∃ l xs k j, x = .ref l ∧ y = .int k ∧ H2 l = some (.lst xs) ∧ ixN xs.length k = some j ∧ Q σ (upd H2 l (.lst (xs.set j v))))
    (ha : ∀ v, assign (.Subscript o i pos) X.env v = (do
      let ov ← holding [v] (eval o X.env)
      let iv ← holding [v, ov] (eval i X.env)
      standAt pos
      holding [v, ov, iv] (setItem ov iv v)
      release [v, ov, iv] []) := by intro _; with_unfolding_all rfl) : WG X (.Subscript o i pos) v σ H Q := (pg_sub pe_w pe_w set_list ha).w h
/-- o.f = e -/
theorem ws_fld {o e : Expr} {f : Str} {p' : Pos} (h : WE X e σ H fun y H1 => WE X o σ H1 fun x H2 => ∃ a C dx fs, x = .ref a ∧ H2 a = some (.ins C dx fs) ∧ Cls X.K C ∧ NoAttr X.K C f ∧ fs.length < 1000 ∧ D.nx σ (upd H2 a (.ins C dx (putF f y fs))))
    (hs : swapsWith e (some (.Attribute o f p')) pos.line X.env = pure false := by with_unfolding_all rfl) : WS X (.Assign [.Attribute o f p'] e pos) D σ H := (ps_fld pe_w pe_w hs).w h
/-- x op= e -/
theorem ws_aug {p' : Pos} {op : Operator} {v : V} (c : Nm X N L S G B) (m : Mb x S) (h0 : At N σ x v) (h : WE X e σ H fun w H1 => WB X (inplaceOp op) v w σ H1 fun z H2 => ∃ σ', Put N σ x z σ' ∧ D.nx σ' H2) : WS X (.AugAssign (.Name x p') op e pos) D σ H := by
  obtain ⟨a, b⟩ := c.sto x m.mem
  obtain ⟨i, h1, h2⟩ := h0.ix
  have nd : X.N.Nodup := by rw [c.names]; exact c.nd
  have h1' : X.N[i]? = some x := by rw [c.names]; exact h1
  have hip : PIp X op fun x y H Q => ∀ σ, WB X (inplaceOp op) x y σ H Q := fun pins s σ H x y v u Q I rx ry q => (q σ).run pins s v u I rx ry
  refine ⟨fun pins s I => ?_⟩
  obtain ⟨mm, hn, hl⟩ := I.loc
  have vis : Vis X.env.scope x := by rcases a with k | k; exact .inl k; exact .inr (.inl k)
  obtain ⟨u, r, l⟩ := hl i x v h1' h2 vis
  refine wpAny_AugAssign_Name ?_
  have go : wpAny (model X.prog X.w) X.A (eval e X.env) (fun w s₂ => wpAny (model X.prog X.w) X.A (inplaceOp op u w) (fun r s₃ => wpAny (model X.prog X.w) X.A (storeName X.env x r) (fun _ => SP X pins D .next) X.xe s₃) X.xe s₂) X.xe s := by
    refine thn (h.run pins s I) fun w s1 ⟨y, H1, I1, r1, q1⟩ => ?_
    refine thn (q1.run pins s1 u w I1 r r1) fun z s2 ⟨zv, H2, I2, r2, σ', hp, q2⟩ => ?_
    obtain ⟨i', hi2, rfl⟩ := hp.ix
    exact store_ok I2 nd (by rw [c.names]; exact hi2) a r2 (fun s3 I3 => ⟨_, H2, I3, q2⟩) b
  rcases l with ⟨hk, hm⟩ | ⟨hk, c', hc, hcell⟩
  · exact wpAny_loadName_local I.ok.kind hk hn hm go
  · rcases hk with hk | hk
    · exact wpAny_loadName_cell I.ok.kind hk hc hcell go
    · rcases a with k | k
      · have : X.env.scope.names.lookup x = some .free := hk
        rw [k] at this; cases this
      · have : X.env.scope.names.lookup x = some .free := hk
        rw [k] at this; cases this
theorem i_add {i j : Int} {Q : VK} (q : Q (.int (i + j)) H) : WB X (inplaceOp .Add) (.int i) (.int j) σ H Q := iop_add.w ⟨_, _, rfl, rfl, q⟩
theorem i_sub {i j : Int} {Q : VK} (q : Q (.int (i - j)) H) : WB X (inplaceOp .Sub) (.int i) (.int j) σ H Q := iop_sub.w ⟨_, _, rfl, rfl, q⟩
end
/-- a branch by its known bool, by a decided one -/
theorem if_dec {p : Prop} [Decidable p] {A B : Prop} (h1 : p → A) (h2 : ¬ p → B) : if decide p = true then A else B := by
  by_cases h : p
  · rw [decide_eq_true h, if_pos rfl]; exact h1 h
  · rw [decide_eq_false h, if_neg (by decide)]; exact h2 h
theorem if_ndec {p : Prop} [Decidable p] {A B : Prop} (h1 : ¬ p → A) (h2 : p → B) : if (!decide p) = true then A else B := by
  by_cases h : p
  · rw [decide_eq_true h]; exact h2 h
  · rw [decide_eq_false h]; exact h1 h
end Sv

namespace Sv
open PySem PySem.Spec PyProof.Rows L2

/-! ### walks that hand out new tuples -/
def Itg (n : Nat) (xs : Nat → List V) : It := ⟨fun i _ => i < n, fun i H v H' => i < n ∧ ∃ T, v = .ref T ∧ H T = none ∧ H' = upd H T (.tup (xs i)), fun i _ => n ≤ i⟩
theorem turn_goes {P : Program} {w : World} {K : PySem.W.Frag} {elts : List Expr} {kk : Nat} {tpos : Pos} {I : Addr} {fp wr : List Addr} {n : Nat} {St : Nat → Heap → Prop} {xs : Nat → List V}
    (W : ∀ A : Around, A.handled = none → ∃ Y, GoesN P w A (.Tuple elts kk tpos) I fp wr n Y St ∧ ∀ i h0 v h, i < n → Y i h0 v h → ∃ T vals, v = .ref T ∧ h0.objs.size ≤ T ∧ Vals (xs i) vals.toList ∧ h.IsTuple T vals)
    (hz : ∀ i, i < n → (xs i).length ≤ sizeLine) (mem : I ∈ fp) (obj : ∀ i h, St i h → ∀ b ∈ fp, ∃ o, h.get? b = some o ∧ ∀ v, o.data ≠ .cell v)
    (fr : ∀ i h h', St i h → (∀ b ∈ fp, ∀ o, h.get? b = some o → h'.get? b = some o) → St i h')
    (sf : ∀ (A : Around) (i : Nat) (s : Shared) (Q : Value → Shared → Prop) (E : Value → Shared → Prop), St i s.heap → Q (.ref I) s → wpAny (model P w) A (pyIter (.ref I)) Q E s) :
    Turn P w K (.Tuple elts kk tpos) (Itg n xs) fp I (fun i h => i ≤ n ∧ St i h) where
  mem := mem
  obj := fun i h st b hb => obj i h st.2 b hb
  keep := fun i h h' st k => ⟨st.1, fr i h h' st.2 k⟩
  item := by
    intro X hP hw hK hc i pins s σ H E I0 hf st hg
    subst hP hw hK
    obtain ⟨Y, G, hY⟩ := W X.A (I0.ok.hd hc)
    have hi : i < n := hg
    refine thn (G.goes i s (fun u s2 => ∃ x H', Inv X pins σ H' s2 ∧ RelV x u ∧ (Itg n xs).yld i H x H' ∧ (i + 1 ≤ n ∧ St (i + 1) s2.heap) ∧ ∀ b ∈ fp, H' b = none) E hi st.2 fun v h' tk y st' k _ => ?_) fun r s1 h => h
    obtain ⟨T, vals, rfl, hT, rv, ht⟩ := hY i s.heap v h' hi y
    have hwf : ∀ b ∈ wr, b ∈ fp := G.sub
    have new : ObjOk X.prog X.w (upd H T (.tup (xs i))) h' T (.tup (xs i)) := ⟨hz i hi, vals.toList, rv, by
      obtain ⟨o, ho, hcl, m, hd⟩ := ht
      exact ⟨o, ho, hcl, m, by simpa using hd⟩⟩
    have I1 : Inv X pins σ (upd H T (.tup (xs i))) { s with heap := h', toks := tk } :=
      I0.turnedNew (ch := fp) (fun b ob hb q => k b ob (fun z => hb (hwf b z)) q) hf hT new
    refine ⟨.ref T, _, I1, rfl, ⟨hi, T, rfl, I0.hok.fresh hT, rfl⟩, ⟨hi, st'⟩, fun b hb => ?_⟩
    obtain ⟨o, ho, _⟩ := obj i s.heap st.2 b hb
    rw [upd_ne (Nat.ne_of_lt (Nat.lt_of_lt_of_le (Heap.lt_size ho) hT))]
    exact (hf b hb).1
  done := by
    intro X hP hw hK hc i pins s σ H E I0 hf st hg
    subst hP hw hK
    obtain ⟨Y, G, hY⟩ := W X.A (I0.ok.hd hc)
    have hi : n ≤ i := hg
    have e : i = n := Nat.le_antisymm st.1 hi
    subst e
    refine thn (G.stops s (fun s1 => Inv X pins σ H s1) E st.2 fun h' tk k _ => ?_) fun r s1 h => h
    have hwf : ∀ b ∈ wr, b ∈ fp := G.sub
    refine I0.step (g' := s.gens) (d' := s.drawn) (ch := fp) (fun b hb => ⟨(hf b hb).2.2.2.1, (hf b hb).2.1, (hf b hb).2.2.2.2.1, (hf b hb).2.2.2.2.2⟩) (fun b o _ _ hc e _ => k b o (fun z => hc (hwf b z)) e) (fun b o _ _ hc e _ => ⟨o.slots, k b o (fun z => hc (hwf b z)) e⟩) (fun _ _ _ _ n => n)
      (fun b o hc e => ⟨o, k b o (fun z => hc (hwf b z)) e⟩) (fun _ _ e => e) (fun _ _ _ e => e) (fun b ps e => ⟨#[], by rw [e]; simp⟩) (fun m hm => ?_) (fun b u e => ?_) I0.bare
    · obtain ⟨o, es, ep, ho, r⟩ := hm
      exact ⟨o, es, ep, k _ o (fun z => (hf _ (hwf _ z)).2.1 rfl) ho, r⟩
    · refine (I0.hok b u e).stay (fun c v hc q => k c v (fun z => ?_) q) (fun _ q => q) fun _ _ q => q
      have hn := (hf c (hwf c z)).1
      rcases hc with rfl | hc
      · rw [hn] at e; cases e
      · rw [hn] at hc; cases hc
  self := fun A i s Q E st h => sf A i s Q E st.2 h

/-- the signs of a text, numbered -/
def signAt (x : Str) (i : Nat) : V := .str ⟨#[x.cps.getD i 0]⟩
def iEnumS (ta : TA) : TI := fun σ H R => ta σ H fun vs H1 => ∃ x, vs = [.str x] ∧ R (Itg x.cps.size fun i => [.int (i : Nat), signAt x i]) H1
theorem pi_enumS {X : Cx} {e : Expr} {ta : TA} {p pos tpos : Pos} {elts : List Expr} {kk : Nat} (hg : Gl X "enumerate") (hm : X.mg "enumerate" = none) (ha : PA X [e] ta) (hs : starEach [e] X.env = [(false, eval e X.env)] := by with_unfolding_all rfl) :
    PI X (.Tuple elts kk tpos) (.Call (.Name "enumerate" p) [e] [] pos) (iEnumS ta) := by
  refine ⟨fun pins s σ H R I h => ?_⟩
  refine Call_ (ld_blt I hg hm boot_enumerate (PyProof.Rows.callWith_type1 (thn (ha.run pos pins s σ H _ I h) fun us s1 ⟨vs, H1, I1, r1, q1⟩ => ?_) hs rfl))
  obtain ⟨x, ex, q⟩ := q1
  subst ex
  cases r1 with
  | cons r rr =>
    cases rr
    obtain ⟨t, rfl⟩ := r
    refine call_enumerate_str fun h' he hit hsz hk => wpAny_pyIter_enum he ?_
    have I2 : Inv X pins σ H1 { s1 with heap := h' } := I1.kept (t' := s1.toks) hk
    have T := turn_goes (P := X.prog) (w := X.w) (K := X.K) (elts := elts) (kk := kk) (tpos := tpos) (I := s1.heap.objs.size + 1) (fp := [s1.heap.objs.size + 1, s1.heap.objs.size]) (n := x.cps.size) (xs := fun i => [.int (i : Nat), signAt x i])
      (fun A hA => ⟨_, GoesN.enumFrom (elts := elts) (x1 := kk) (pos := tpos) 0 (Draws.text (A := A.in1) hA s1.heap.objs.size x t) (s1.heap.objs.size + 1) (Nat.succ_ne_self _) (by simp) (by simp), fun i h0 v h hi ⟨T, tk, y, ev, hn, ⟨c, u, hc, ey⟩, hT⟩ => ⟨T, _, ev, hn, .cons ⟨tk, by simp⟩ (.cons ⟨u, by rw [ey, Array.getD_eq_getD_getElem?, hc]; rfl⟩ .nil), hT⟩⟩)
      (fun i _ => by show 2 ≤ sizeLine; decide) (by simp) (fun i h st b hb => ?_) (fun i h h' st k => ?_) (fun A i s Q E st h => let ⟨⟨_, he⟩, _⟩ := st; wpAny_pyIter_enum he h)
    · refine ⟨_, _, _, _, H1, rfl, I2, T, ⟨Nat.zero_le _, ⟨.none, by simpa using he⟩, hit⟩, fun b hb => ?_, q⟩
      have e' : b = s1.heap.objs.size + 1 ∨ b = s1.heap.objs.size := by simpa using hb
      have hle : s1.heap.objs.size ≤ b := by
        rcases e' with z | z
        · rw [z]; exact Nat.le_add_right _ _
        · rw [z]; exact Nat.le_refl _
      exact I1.fpOk hle (I1.hok.fresh hle)
    · obtain ⟨⟨old, he⟩, ⟨o, ho, hc, hd⟩⟩ := st
      have e' : b = s1.heap.objs.size + 1 ∨ b = s1.heap.objs.size := by simpa using hb
      rcases e' with z | z
      · rw [z]; exact ⟨_, he, fun v q => nomatch q⟩
      · rw [z]; exact ⟨o, ho, fun v q => by rw [hd] at q; cases q⟩
    · obtain ⟨⟨old, he⟩, o, ho, hc, hd⟩ := st
      exact ⟨⟨old, k _ (by simp) _ he⟩, o, k _ (by simp) o ho, hc, hd⟩

/-! ### what is walked -/
structure WI (X : Cx) (tg iter : Expr) (σ : L2.St) (H : Hp) (R : It → Hp → Prop) : Prop where
  run : ∀ (pins : List (Addr × Obj)) (s : Shared), Inv X pins σ H s → wpAny (model X.prog X.w) X.A (eval iter X.env) (fun v s1 => wpAny (model X.prog X.w) X.A (pyIter v) (PIE X pins σ tg R) X.xe s1) X.xe s
theorem pi_w {X : Cx} {tg iter : Expr} : PI X tg iter (WI X tg iter) := ⟨fun pins s _ _ _ I h => h.run pins s I⟩
theorem _root_.L2.PI.w {X : Cx} {tg iter : Expr} {t : TI} {σ : L2.St} {H : Hp} {R : It → Hp → Prop} (h : PI X tg iter t) (q : t σ H R) : WI X tg iter σ H R := ⟨fun pins s I => h.run pins s σ H R I q⟩
/-- J walks n items, the i-th it i, while what stood in H1 stands -/
structure Wlk (J : It) (n : Nat) (it : Nat → V) (H1 : Hp) : Prop where
  go : ∀ i H, i < n → Same H1 H → J.go i H
  yld : ∀ i H v H', i < n → Same H1 H → J.yld i H v H' → v = it i ∧ H' = H
  stop : ∀ i H, n ≤ i → Same H1 H → J.stop i H
/-- the same, each item a new tuple -/
structure WlkT (J : It) (n : Nat) (it : Nat → List V) (H1 : Hp) : Prop where
  go : ∀ i H, i < n → Same H1 H → J.go i H
  yld : ∀ i H v H', i < n → Same H1 H → J.yld i H v H' → ∃ T, v = .ref T ∧ H T = none ∧ H' = upd H T (.tup (it i))
  stop : ∀ i H, n ≤ i → Same H1 H → J.stop i H
theorem wlk_list {K : PySem.W.Frag} {a : Addr} {xs : List V} {H1 : Hp} (h : SqL K H1 a xs) : Wlk (Itl K a) xs.length (fun i => xs.getD i .non) H1 where
  go := fun i H hi e => ⟨xs, xs[i], Same.seq e h, by simp [hi]⟩
  yld := fun i H v H' hi e y => ⟨by have := y.2 xs (Same.seq e h); rw [List.getD_eq_getElem?_getD, this]; rfl, y.1⟩
  stop := fun i H hi e => ⟨xs, Same.seq e h, hi⟩
theorem wlk_tup {K : PySem.W.Frag} {a : Addr} {xs : List V} {H1 : Hp} (h : SqT K H1 a xs) : Wlk (Itt K a) xs.length (fun i => xs.getD i .non) H1 where
  go := fun i H hi e => ⟨xs, xs[i], same_t e h, by simp [hi]⟩
  yld := fun i H v H' hi e y => ⟨by have := y.2 xs (same_t e h); rw [List.getD_eq_getElem?_getD, this]; rfl, y.1⟩
  stop := fun i H hi e => ⟨xs, same_t e h, hi⟩
theorem wlk_range {lo : Int} {n : Nat} {H1 : Hp} : Wlk (Itr lo n) n (fun i => .int (lo + (i : Nat))) H1 where
  go := fun i H hi e => hi
  yld := fun i H v H' hi e y => ⟨y.2, y.1⟩
  stop := fun i H hi e => hi
theorem wlk_str {x : Str} {H1 : Hp} : Wlk (Its x) x.cps.size (signAt x) H1 where
  go := fun i H hi e => hi
  yld := fun i H v H' hi e y => by
    obtain ⟨e1, c, hc, ev⟩ := y
    refine ⟨?_, e1⟩
    rw [ev]
    unfold signAt
    rw [Array.getD_eq_getD_getElem?, hc]; rfl
  stop := fun i H hi e => hi
theorem wlk_g {n : Nat} {xs : Nat → List V} {H1 : Hp} : WlkT (Itg n xs) n xs H1 where
  go := fun i H hi e => hi
  yld := fun i H v H' hi e y => y.2
  stop := fun i H hi e => hi
theorem wlk_enum {K : PySem.W.Frag} {a : Addr} {xs : List V} {H1 : Hp} (h : SqL K H1 a xs) : WlkT (Ite K a) xs.length (fun i => [.int (i : Nat), xs.getD i .non]) H1 where
  go := fun i H hi e => ⟨xs, xs[i], Same.seq e h, by simp [hi]⟩
  yld := fun i H v H' hi e y => by
    obtain ⟨T, x, ev, hT, eH, hx⟩ := y
    have := hx xs (Same.seq e h)
    exact ⟨T, ev, hT, by rw [eH, List.getD_eq_getElem?_getD, this]; rfl⟩
  stop := fun i H hi e => ⟨xs, Same.seq e h, hi⟩
theorem wlk_zip {K : PySem.W.Frag} {a b : Addr} {xs ys : List V} {H1 : Hp} (h : SqL K H1 a xs) (h' : SqL K H1 b ys) : WlkT (Itz K a b) (min xs.length ys.length) (fun i => [xs.getD i .non, ys.getD i .non]) H1 where
  go := fun i H hi e => ⟨xs, ys, xs[i]'(by omega), ys[i]'(by omega), Same.seq e h, Same.seq e h', by simp [show i < xs.length by omega], by simp [show i < ys.length by omega]⟩
  yld := fun i H v H' hi e y => by
    obtain ⟨T, x, z, ev, hT, eH, hx, hy⟩ := y
    have e1 := hx xs (Same.seq e h)
    have e2 := hy ys (Same.seq e h')
    exact ⟨T, ev, hT, by rw [eH, List.getD_eq_getElem?_getD, List.getD_eq_getElem?_getD, e1, e2]; rfl⟩
  stop := fun i H hi e => ⟨xs, ys, Same.seq e h, Same.seq e h', by omega⟩
section
variable {X : Cx} {N L S G B : List Str} {tg e a b : Expr} {σ : L2.St} {H : Hp} {R : It → Hp → Prop} {p pos : Pos}
theorem wi_list (h : WE X e σ H fun x H1 => ∃ a xs, x = .ref a ∧ SqL X.K H1 a xs ∧ R (Itl X.K a) H1) : WI X tg e σ H R := (pi_list pe_w).w (WE.imp h fun x H1 ⟨a, xs, e, h, q⟩ => ⟨a, e, ⟨xs, h⟩, q⟩)
theorem wi_tup (h : WE X e σ H fun x H1 => ∃ a xs, x = .ref a ∧ SqT X.K H1 a xs ∧ R (Itt X.K a) H1) : WI X tg e σ H R := (pi_tup pe_w).w (WE.imp h fun x H1 ⟨a, xs, e, h, q⟩ => ⟨a, e, ⟨xs, h⟩, q⟩)
theorem wi_str (h : WE X e σ H fun x H1 => ∃ z, x = .str z ∧ R (Its z) H1) : WI X tg e σ H R := (pi_str pe_w).w h
theorem wi_range1 (c : Nm X N L S G B) (m : Mb "range" B) (h : WE X a σ H fun x H1 => ∃ j : Int, x = .int j ∧ -(2 ^ 62) ≤ j ∧ j < 2 ^ 62 ∧ R (Itr 0 j.toNat) H1) (hs : starEach [a] X.env = [(false, eval a X.env)] := by with_unfolding_all rfl) : WI X tg (.Call (.Name "range" p) [a] [] pos) σ H R :=
  (pi_range1 (c.bgl _ m.mem).1 (c.blt _ m.mem) (pa_cons pe_w pa_nil hs) hs).w (WE.imp h fun x H1 ⟨j, e, h⟩ => ⟨j, by rw [e], h⟩)
theorem wi_range2 (c : Nm X N L S G B) (m : Mb "range" B) (h : WE X a σ H fun x H1 => WE X b σ H1 fun y H2 => ∃ i j : Int, x = .int i ∧ y = .int j ∧ (-(2 ^ 62) ≤ i ∧ i < 2 ^ 62 ∧ -(2 ^ 62) ≤ j ∧ j < 2 ^ 62) ∧ R (Itr i (j - i).toNat) H2) (hs : starEach [a, b] X.env = [(false, eval a X.env), (false, eval b X.env)] := by with_unfolding_all rfl) (hs2 : starEach [b] X.env = [(false, eval b X.env)] := by with_unfolding_all rfl) :
    WI X tg (.Call (.Name "range" p) [a, b] [] pos) σ H R :=
  (pi_range2 (c.bgl _ m.mem).1 (c.blt _ m.mem) (pa_cons pe_w (pa_cons pe_w pa_nil hs2) (hs.trans (by rw [hs2]))) hs hs2).w (WE.imp h fun x H1 h1 => WE.imp h1 fun y H2 ⟨i, j, e1, e2, h⟩ => ⟨i, j, by rw [e1, e2], h⟩)
theorem wi_enumS {elts : List Expr} {kk : Nat} {tpos : Pos} (c : Nm X N L S G B) (m : Mb "enumerate" B) (h : WE X a σ H fun x H1 => ∃ z, x = .str z ∧ R (Itg z.cps.size fun i => [.int (i : Nat), signAt z i]) H1) (hs : starEach [a] X.env = [(false, eval a X.env)] := by with_unfolding_all rfl) :
    WI X (.Tuple elts kk tpos) (.Call (.Name "enumerate" p) [a] [] pos) σ H R :=
  (pi_enumS (c.bgl _ m.mem).1 (c.blt _ m.mem) (pa_cons pe_w pa_nil hs) hs).w (WE.imp h fun x H1 ⟨j, e, h⟩ => ⟨j, by rw [e], h⟩)
theorem wi_enumL {elts : List Expr} {kk : Nat} {tpos : Pos} (c : Nm X N L S G B) (m : Mb "enumerate" B) (h : WE X a σ H fun x H1 => ∃ l xs, x = .ref l ∧ SqL X.K H1 l xs ∧ R (Ite X.K l) H1) (hs : starEach [a] X.env = [(false, eval a X.env)] := by with_unfolding_all rfl) :
    WI X (.Tuple elts kk tpos) (.Call (.Name "enumerate" p) [a] [] pos) σ H R :=
  (pi_enum (c.bgl _ m.mem).1 (c.blt _ m.mem) (pa_cons pe_w pa_nil hs) hs).w (WE.imp h fun x H1 ⟨l, xs, e, h, q⟩ => ⟨l, xs, by rw [e], h, q⟩)
theorem wi_zip {elts : List Expr} {kk : Nat} {tpos : Pos} (c : Nm X N L S G B) (m : Mb "zip" B) (h : WE X a σ H fun x H1 => WE X b σ H1 fun y H2 => ∃ l l' xs ys, x = .ref l ∧ y = .ref l' ∧ SqL X.K H2 l xs ∧ SqL X.K H2 l' ys ∧ R (Itz X.K l l') H2) (hs : starEach [a, b] X.env = [(false, eval a X.env), (false, eval b X.env)] := by with_unfolding_all rfl) (hs2 : starEach [b] X.env = [(false, eval b X.env)] := by with_unfolding_all rfl) :
    WI X (.Tuple elts kk tpos) (.Call (.Name "zip" p) [a, b] [] pos) σ H R :=
  (pi_zip (c.bgl _ m.mem).1 (c.blt _ m.mem) (pa_cons pe_w (pa_cons pe_w pa_nil hs2) (hs.trans (by rw [hs2]))) (hs.trans (by rw [hs2])) (by rw [hs2]; rfl)).w (WE.imp h fun x H1 h1 => WE.imp h1 fun y H2 ⟨l, l', xs, ys, e1, e2, h, h', q⟩ => ⟨l, l', xs, ys, by rw [e1, e2], h, h', q⟩)
end

/-! ### loops -/
section
variable {X : Cx} {N L S G B : List Str} {tg iter c : Expr} {body : List Stmt} {σ : L2.St} {H : Hp} {D : Ends} {pos : Pos}
/-- for: W over n items, an invariant -/
theorem ws_for (hp : PassesOwn (model X.prog X.w) X.A X.env X.xe) (hc : Nm X N L S G B)
    (h : WI X tg iter σ H fun J H1 => ∃ n it, Wlk J n it H1 ∧ ∃ Pv : Nat → L2.St → Hp → Prop, Pv 0 σ H1 ∧ (∀ i σ' H', Pv i σ' H' → Same H1 H') ∧
      (∀ i σ' H', i < n → Pv i σ' H' → WG X tg (it i) σ' H' fun σ2 H2 => WL X body { D with nx := Pv (i + 1), ct := Pv (i + 1), bk := D.nx } σ2 H2) ∧ ∀ σ' H', Pv n σ' H' → D.nx σ' H')
    (hs : ∀ x, foldedSetIterable iter X.env x = pure x := by intro _; with_unfolding_all rfl) : WS X (.For tg iter body [] pos) D σ H := by
  refine (ps_for hp hc.calm pi_w pg_w pss_w hs).w ?_
  refine ⟨fun pins s I => thn (h.run pins s I) fun v s1 h1 => thn h1 fun itv s2 ⟨it, fp, tn, J, H', e, I', T, t0, hf, n, itm, W, Pv, p0, hsm, hst, hd⟩ => ⟨it, fp, tn, J, H', e, I', T, t0, hf, ?_⟩⟩
  refine ⟨fun i m σ' H'' => m = n - i ∧ i ≤ n ∧ Pv i σ' H'', ⟨n, by simp, Nat.zero_le _, p0⟩, ?_⟩
  rintro i m σ' H'' ⟨rfl, hi, p⟩
  by_cases hlt : i < n
  · refine .inr ⟨W.go i H'' hlt (hsm _ _ _ p), Pv (i + 1), fun σ2 H2 p' => ⟨n - (i + 1), by omega, rfl, hlt, p'⟩, fun x H3 y => ?_⟩
    obtain ⟨rfl, rfl⟩ := W.yld i H'' x H3 hlt (hsm _ _ _ p) y
    exact hst i σ' _ hlt p
  · have e : i = n := by omega
    subst e
    exact .inl ⟨W.stop _ _ (Nat.le_refl _) (hsm _ _ _ p), hd _ _ p⟩
/-- .. each item a new tuple -/
theorem ws_forT (hp : PassesOwn (model X.prog X.w) X.A X.env X.xe) (hc : Nm X N L S G B)
    (h : WI X tg iter σ H fun J H1 => ∃ n it, WlkT J n it H1 ∧ ∃ Pv : Nat → L2.St → Hp → Prop, Pv 0 σ H1 ∧ (∀ i σ' H', Pv i σ' H' → Same H1 H') ∧
      (∀ i σ' H', i < n → Pv i σ' H' → ∀ T H'', H' T = none → Same H' H'' → H'' T = some (.tup (it i)) → WG X tg (.ref T) σ' H'' fun σ2 H2 => WL X body { D with nx := Pv (i + 1), ct := Pv (i + 1), bk := D.nx } σ2 H2) ∧ ∀ σ' H', Pv n σ' H' → D.nx σ' H')
    (hs : ∀ x, foldedSetIterable iter X.env x = pure x := by intro _; with_unfolding_all rfl) : WS X (.For tg iter body [] pos) D σ H := by
  refine (ps_for hp hc.calm pi_w pg_w pss_w hs).w ?_
  refine ⟨fun pins s I => thn (h.run pins s I) fun v s1 h1 => thn h1 fun itv s2 ⟨it, fp, tn, J, H', e, I', T, t0, hf, n, itm, W, Pv, p0, hsm, hst, hd⟩ => ⟨it, fp, tn, J, H', e, I', T, t0, hf, ?_⟩⟩
  refine ⟨fun i m σ' H'' => m = n - i ∧ i ≤ n ∧ Pv i σ' H'', ⟨n, by simp, Nat.zero_le _, p0⟩, ?_⟩
  rintro i m σ' H'' ⟨rfl, hi, p⟩
  by_cases hlt : i < n
  · refine .inr ⟨W.go i H'' hlt (hsm _ _ _ p), Pv (i + 1), fun σ2 H2 p' => ⟨n - (i + 1), by omega, rfl, hlt, p'⟩, fun x H3 y => ?_⟩
    obtain ⟨T, rfl, hT, rfl⟩ := W.yld i H'' x H3 hlt (hsm _ _ _ p) y
    exact hst i σ' _ hlt p T _ hT (same_new hT) upd_same
  · have e : i = n := by omega
    subst e
    exact .inl ⟨W.stop _ _ (Nat.le_refl _) (hsm _ _ _ p), hd _ _ p⟩
theorem ws_while (hp : PassesOwn (model X.prog X.w) X.A X.env X.xe) (Pv : Nat → L2.St → Hp → Prop) (m : Nat) (h0 : Pv m σ H)
    (hs : ∀ m σ' H', Pv m σ' H' → WT X c σ' H' fun k H1 => if k = true then WL X body { D with nx := fun σ2 H2 => ∃ m', m' < m ∧ Pv m' σ2 H2, ct := fun σ2 H2 => ∃ m', m' < m ∧ Pv m' σ2 H2, bk := D.nx } σ' H1 else D.nx σ' H1) : WS X (.While c body [] pos) D σ H :=
  (ps_while hp pt_w pss_w).w ⟨Pv, ⟨m, h0⟩, fun m σ' H' p => WT.imp (hs m σ' H' p) fun k H1 q => by
    cases k with
    | true => exact ⟨_, fun _ _ z => z, q⟩
    | false => exact q⟩
end
end Sv

namespace Sv
open PySem PySem.Spec PyProof.Rows L2

/-! ### comprehensions -/
/-- X' is the context of a block (of that scope) of X -/
def Blk (X : Cx) (scope : Scope) (X' : Cx) : Prop := ∃ (s : Shared) (H : Hp) (C : Addr) (cl : List (Str × Addr)) (fp : List Addr), X' = X.blk s H scope (compEnvC scope cl C X.env) fp
structure WTs (X : Cx) (ifs : List Expr) (σ : L2.St) (H : Hp) (Q : Bool → Hp → Prop) : Prop where
  run : ∀ (pins : List (Addr × Obj)) (s : Shared), Inv X pins σ H s →
    wpAny (model X.prog X.w) X.A (forIn ifs true fun c r => if r = true then do let ok ← isTrue c X.env (eval c X.env); pure (ForInStep.yield ok) else pure (ForInStep.yield r)) (TP X pins σ Q) X.xe s
theorem pts_w {X : Cx} {ifs : List Expr} : PTs X ifs (WTs X ifs) := ⟨fun pins s _ _ _ I h => h.run pins s I⟩
theorem wts_nil {X : Cx} {σ : L2.St} {H : Hp} {Q : Bool → Hp → Prop} (q : Q true H) : WTs X [] σ H Q := ⟨fun pins s I => pts_nil.run pins s σ H Q I q⟩
theorem wts_one {X : Cx} {c : Expr} {σ : L2.St} {H : Hp} {Q : Bool → Hp → Prop} (h : WT X c σ H Q) : WTs X [c] σ H Q := ⟨fun pins s I => (pts_one pt_w).run pins s σ H Q I h⟩
def WEb (X : Cx) (scope : Scope) (e : Expr) (σ : L2.St) (H : Hp) (Q : VK) : Prop := ∀ X', Blk X scope X' → WE X' e σ H Q
def WTb (X : Cx) (scope : Scope) (ifs : List Expr) (σ : L2.St) (H : Hp) (Q : Bool → Hp → Prop) : Prop := ∀ X', Blk X scope X' → WTs X' ifs σ H Q
def WGb (X : Cx) (scope : Scope) (tg : Expr) (v : V) (σ : L2.St) (H : Hp) (Q : L2.St → Hp → Prop) : Prop := ∀ X', Blk X scope X' → WG X' tg v σ H Q

/-- a list comprehension over W's items, by an invariant of the list so far; new objects may be made, nothing that stood changes -/
theorem lc_of {X : Cx} {N L S G B : List Str} {tg elt iter : Expr} {ifs : List Expr} {scope : Scope} {own : List (Str × Nat)} {σ : L2.St} {H : Hp} {Q : VK} (c : Nm X N L S G B) (P : Nat → List V → Prop)
    (h : WI X tg iter σ H fun J H1 => ∃ n it, Wlk J n it H1 ∧ n < sizeLine ∧ P 0 [] ∧
      (∀ i acc H', i < n → acc.length ≤ i → P i acc → Same H1 H' → WGb X scope tg (it i) (wipe σ (own.map (·.2))) H' fun σ2 H2 => H2 = H' ∧ wipe σ2 (own.map (·.2)) = wipe σ (own.map (·.2)) ∧ WTb X scope ifs σ2 H2 fun k H3 => Same H2 H3 ∧
        if k = true then WEb X scope elt σ2 H3 fun y H4 => Same H3 H4 ∧ P (i + 1) (acc ++ [y]) else P (i + 1) acc) ∧
      ∀ acc D H', acc.length ≤ n → P n acc → H1 D = none → Same H1 H' → H' D = some (.lst acc) → Q (.ref D) H') :
    tLc (WI X tg iter) (WGb X scope tg) (WTb X scope ifs) (WEb X scope elt) (own.map (·.2)) σ H Q := by
  refine ⟨fun pins s I => thn (h.run pins s I) fun v s1 h1 => thn h1 fun itv s2 ⟨it, fp, tn, J, H1, e, I', T, t0, hf, n, itm, W, hz, p0, hst, hd⟩ => ⟨it, fp, tn, J, H1, e, I', T, t0, hf, fun D hD => ?_⟩⟩
  refine ⟨fun i m H' => m = n - i ∧ i ≤ n ∧ ∃ acc, acc.length ≤ i ∧ P i acc ∧ Same H1 H' ∧ H' D = some (.lst acc), ⟨n, by simp, Nat.zero_le _, [], Nat.le_refl _, p0, same_new hD, upd_same⟩, ?_⟩
  rintro i m H' ⟨rfl, hi, acc, hl, hp, hsm, hDa⟩
  by_cases hlt : i < n
  · refine .inr ⟨W.go i H' hlt hsm, fun H2 => i + 1 ≤ n ∧ ∃ acc, acc.length ≤ i + 1 ∧ P (i + 1) acc ∧ Same H1 H2 ∧ H2 D = some (.lst acc), fun H2 q => ⟨n - (i + 1), by omega, rfl, q⟩, fun x H3 y => ?_⟩
    obtain ⟨rfl, rfl⟩ := W.yld i H' x H3 hlt hsm y
    intro X' bX
    refine ⟨fun pins' s' u I' r => thn ((hst i acc H3 hlt hl hp hsm X' bX).run pins' s' u I' r) fun _ s2 ⟨σ2, H2, I2, e2, ew, q2⟩ => ⟨σ2, H2, I2, ew, fun X2 b2 => ?_⟩⟩
    subst e2
    refine ⟨fun pins3 s3 I3 => thn ((q2 X2 b2).run pins3 s3 I3) fun k s4 ⟨H4, I4, e4, q4⟩ => ⟨H4, I4, ?_⟩⟩
    cases k with
    | false =>
      rw [if_neg (by decide)] at q4 ⊢
      exact ⟨hlt, acc, Nat.le_succ_of_le hl, q4, hsm.trans e4, e4 _ _ hDa⟩
    | true =>
      rw [if_pos rfl] at q4 ⊢
      intro X5 b5
      refine WE.imp (q4 X5 b5) fun y H5 ⟨e5, q5⟩ => ⟨acc, e5 _ _ (e4 _ _ hDa), by omega, hlt, acc ++ [y], by rw [List.length_append]; show acc.length + 1 ≤ i + 1; omega, q5, same_mut (hsm.trans (e4.trans e5)) hD, upd_same⟩
  · have e : i = n := by omega
    subst e
    exact .inl ⟨W.stop _ _ (Nat.le_refl _) hsm, hd acc D H' hl hp hD hsm hDa⟩
theorem w_lc {X : Cx} {N L S G B : List Str} {tg elt iter : Expr} {ifs : List Expr} {scope : Scope} {own : List (Str × Nat)} {σ : L2.St} {H : Hp} {Q : VK} {pos : Pos} (c : Nm X N L S G B) (ok : blkC N X.env.scope scope own = true) (P : Nat → List V → Prop)
    (h : WI X tg iter σ H fun J H1 => ∃ n it, Wlk J n it H1 ∧ n < sizeLine ∧ P 0 [] ∧
      (∀ i acc H', i < n → acc.length ≤ i → P i acc → Same H1 H' → WGb X scope tg (it i) (wipe σ (own.map (·.2))) H' fun σ2 H2 => H2 = H' ∧ wipe σ2 (own.map (·.2)) = wipe σ (own.map (·.2)) ∧ WTb X scope ifs σ2 H2 fun k H3 => Same H2 H3 ∧
        if k = true then WEb X scope elt σ2 H3 fun y H4 => Same H3 H4 ∧ P (i + 1) (acc ++ [y]) else P (i + 1) acc) ∧
      ∀ acc D H', acc.length ≤ n → P n acc → H1 D = none → Same H1 H' → H' D = some (.lst acc) → Q (.ref D) H')
    (hs : ∀ x, foldedSetIterable iter X.env x = pure x := by intro _; with_unfolding_all rfl) : WE X (.ListComp elt [⟨tg, iter, ifs, 0⟩] scope pos) σ H Q := by
  have hN : X.N.Nodup := by rw [c.names]; exact c.nd
  have ok' : BlkOk X.N X.env.scope scope own := by rw [c.names]; exact blkOk_by ok
  have p := pe_lc (X := X) (pos := pos) (g := WGb X scope tg) (tt := WTb X scope ifs) (te := WEb X scope elt) c.calm hN (pi_w (X := X) (tg := tg) (iter := iter)) ok'
    (fun s H C cl fp => ⟨fun pins s1 σ1 H1 v u R I r q => (q _ ⟨s, H, C, cl, fp, rfl⟩).run pins s1 u I r⟩)
    (fun s H C cl fp => ⟨fun pins s1 σ1 H1 R I q => (q _ ⟨s, H, C, cl, fp, rfl⟩).run pins s1 I⟩)
    (fun s H C cl fp => ⟨fun pins s1 σ1 H1 R I q => (q _ ⟨s, H, C, cl, fp, rfl⟩).run pins s1 I⟩) hs
  exact p.w (lc_of c P h)
theorem ws_setLc {y : Str} {py spos : Pos} {D0 : Ends} {X : Cx} {N L S G B : List Str} {tg elt iter : Expr} {ifs : List Expr} {scope : Scope} {own : List (Str × Nat)} {σ : L2.St} {H : Hp} {pos : Pos} (c : Nm X N L S G B) (ok : blkC N X.env.scope scope own = true) (P : Nat → List V → Prop)
    (h : WI X tg iter σ H fun J H1 => ∃ n it, Wlk J n it H1 ∧ n < sizeLine ∧ P 0 [] ∧
      (∀ i acc H', i < n → acc.length ≤ i → P i acc → Same H1 H' → WGb X scope tg (it i) (wipe σ (own.map (·.2))) H' fun σ2 H2 => H2 = H' ∧ wipe σ2 (own.map (·.2)) = wipe σ (own.map (·.2)) ∧ WTb X scope ifs σ2 H2 fun k H3 => Same H2 H3 ∧
        if k = true then WEb X scope elt σ2 H3 fun y H4 => Same H3 H4 ∧ P (i + 1) (acc ++ [y]) else P (i + 1) acc) ∧
      ∀ acc D H', acc.length ≤ n → P n acc → H1 D = none → Same H1 H' → H' D = some (.lst acc) → ∃ σ', Put N σ y (.ref D) σ' ∧ D0.nx σ' H')
    (hyl : X.env.scope.names.lookup y = some .local) (hsw : swapsWith (.ListComp elt [⟨tg, iter, ifs, 0⟩] scope pos) (some (.Name y py)) spos.line X.env = pure true)
    (hs : ∀ x, foldedSetIterable iter X.env x = pure x := by intro _; with_unfolding_all rfl) (iy : ∃ i : Nat, N[i]? = some y) : WS X (.Assign [.Name y py] (.ListComp elt [⟨tg, iter, ifs, 0⟩] scope pos) spos) D0 σ H := by
  have hN : X.N.Nodup := by rw [c.names]; exact c.nd
  have ok' : BlkOk X.N X.env.scope scope own := by rw [c.names]; exact blkOk_by ok
  obtain ⟨i, hi⟩ := iy
  have hi' : X.N[i]? = some y := by rw [c.names]; exact hi
  have p := ps_setLc (X := X) (pos := pos) (spos := spos) (py := py) (g := WGb X scope tg) (tt := WTb X scope ifs) (te := WEb X scope elt) c.calm hN hi' hyl hsw (pi_w (X := X) (tg := tg) (iter := iter)) ok'
    (fun s H C cl fp => ⟨fun pins s1 σ1 H1 v u R I r q => (q _ ⟨s, H, C, cl, fp, rfl⟩).run pins s1 u I r⟩)
    (fun s H C cl fp => ⟨fun pins s1 σ1 H1 R I q => (q _ ⟨s, H, C, cl, fp, rfl⟩).run pins s1 I⟩)
    (fun s H C cl fp => ⟨fun pins s1 σ1 H1 R I q => (q _ ⟨s, H, C, cl, fp, rfl⟩).run pins s1 I⟩) hs
  refine p.w ?_
  refine lc_of (Q := fun v H1 => D0.nx (σ.set i (some v)) H1) c P ⟨fun pins s I => thn (h.run pins s I) fun v s1 h1 => thn h1 fun itv s2 ⟨it, fp, tn, J, H1, e, I', T, t0, hf, n, itm, W, hz, p0, hst, hd⟩ => ⟨it, fp, tn, J, H1, e, I', T, t0, hf, n, itm, W, hz, p0, hst, fun acc D H' h1 h2 h3 h4 h5 => ?_⟩⟩
  obtain ⟨σ', hp, q⟩ := hd acc D H' h1 h2 h3 h4 h5
  obtain ⟨i', hi2, rfl⟩ := hp.ix
  have ei : i' = i := nodup_ix hN (by rw [c.names]; exact hi2) hi'
  rw [← ei]
  exact q
/-- .. where each item is a new tuple -/
theorem lc_ofT {X : Cx} {N L S G B : List Str} {tg elt iter : Expr} {ifs : List Expr} {scope : Scope} {own : List (Str × Nat)} {σ : L2.St} {H : Hp} {Q : VK} (c : Nm X N L S G B) (P : Nat → List V → Prop)
    (h : WI X tg iter σ H fun J H1 => ∃ n it, WlkT J n it H1 ∧ n < sizeLine ∧ P 0 [] ∧
      (∀ i acc H0 H' T, i < n → acc.length ≤ i → P i acc → Same H1 H0 → Same H0 H' → H' T = some (.tup (it i)) → WGb X scope tg (.ref T) (wipe σ (own.map (·.2))) H' fun σ2 H2 => H2 = H' ∧ wipe σ2 (own.map (·.2)) = wipe σ (own.map (·.2)) ∧ WTb X scope ifs σ2 H2 fun k H3 => Same H2 H3 ∧
        if k = true then WEb X scope elt σ2 H3 fun y H4 => Same H3 H4 ∧ P (i + 1) (acc ++ [y]) else P (i + 1) acc) ∧
      ∀ acc D H', acc.length ≤ n → P n acc → H1 D = none → Same H1 H' → H' D = some (.lst acc) → Q (.ref D) H') :
    tLc (WI X tg iter) (WGb X scope tg) (WTb X scope ifs) (WEb X scope elt) (own.map (·.2)) σ H Q := by
  refine ⟨fun pins s I => thn (h.run pins s I) fun v s1 h1 => thn h1 fun itv s2 ⟨it, fp, tn, J, H1, e, I', T, t0, hf, n, itm, W, hz, p0, hst, hd⟩ => ⟨it, fp, tn, J, H1, e, I', T, t0, hf, fun D hD => ?_⟩⟩
  refine ⟨fun i m H' => m = n - i ∧ i ≤ n ∧ ∃ acc, acc.length ≤ i ∧ P i acc ∧ Same H1 H' ∧ H' D = some (.lst acc), ⟨n, by simp, Nat.zero_le _, [], Nat.le_refl _, p0, same_new hD, upd_same⟩, ?_⟩
  rintro i m H' ⟨rfl, hi, acc, hl, hp, hsm, hDa⟩
  by_cases hlt : i < n
  · refine .inr ⟨W.go i H' hlt hsm, fun H2 => i + 1 ≤ n ∧ ∃ acc, acc.length ≤ i + 1 ∧ P (i + 1) acc ∧ Same H1 H2 ∧ H2 D = some (.lst acc), fun H2 q => ⟨n - (i + 1), by omega, rfl, q⟩, fun x H3 y => ?_⟩
    obtain ⟨T, rfl, hT, rfl⟩ := W.yld i H' x H3 hlt hsm y
    have eT := same_new (o := .tup (itm i)) hT
    intro X' bX
    refine ⟨fun pins' s' u I' r => thn ((hst i acc H' _ T hlt hl hp hsm eT upd_same X' bX).run pins' s' u I' r) fun _ s2 ⟨σ2, H2, I2, e2, ew, q2⟩ => ⟨σ2, H2, I2, ew, fun X2 b2 => ?_⟩⟩
    subst e2
    refine ⟨fun pins3 s3 I3 => thn ((q2 X2 b2).run pins3 s3 I3) fun k s4 ⟨H4, I4, e4, q4⟩ => ⟨H4, I4, ?_⟩⟩
    cases k with
    | false =>
      rw [if_neg (by decide)] at q4 ⊢
      exact ⟨hlt, acc, Nat.le_succ_of_le hl, q4, hsm.trans (eT.trans e4), e4 _ _ (eT _ _ hDa)⟩
    | true =>
      rw [if_pos rfl] at q4 ⊢
      intro X5 b5
      refine WE.imp (q4 X5 b5) fun y H5 ⟨e5, q5⟩ => ⟨acc, e5 _ _ (e4 _ _ (eT _ _ hDa)), by omega, hlt, acc ++ [y], by rw [List.length_append]; show acc.length + 1 ≤ i + 1; omega, q5, same_mut (hsm.trans (eT.trans (e4.trans e5))) hD, upd_same⟩
  · have e : i = n := by omega
    subst e
    exact .inl ⟨W.stop _ _ (Nat.le_refl _) hsm, hd acc D H' hl hp hD hsm hDa⟩
theorem w_lcT {X : Cx} {N L S G B : List Str} {tg elt iter : Expr} {ifs : List Expr} {scope : Scope} {own : List (Str × Nat)} {σ : L2.St} {H : Hp} {Q : VK} {pos : Pos} (c : Nm X N L S G B) (ok : blkC N X.env.scope scope own = true) (P : Nat → List V → Prop)
    (h : WI X tg iter σ H fun J H1 => ∃ n it, WlkT J n it H1 ∧ n < sizeLine ∧ P 0 [] ∧
      (∀ i acc H0 H' T, i < n → acc.length ≤ i → P i acc → Same H1 H0 → Same H0 H' → H' T = some (.tup (it i)) → WGb X scope tg (.ref T) (wipe σ (own.map (·.2))) H' fun σ2 H2 => H2 = H' ∧ wipe σ2 (own.map (·.2)) = wipe σ (own.map (·.2)) ∧ WTb X scope ifs σ2 H2 fun k H3 => Same H2 H3 ∧
        if k = true then WEb X scope elt σ2 H3 fun y H4 => Same H3 H4 ∧ P (i + 1) (acc ++ [y]) else P (i + 1) acc) ∧
      ∀ acc D H', acc.length ≤ n → P n acc → H1 D = none → Same H1 H' → H' D = some (.lst acc) → Q (.ref D) H')
    (hs : ∀ x, foldedSetIterable iter X.env x = pure x := by intro _; with_unfolding_all rfl) : WE X (.ListComp elt [⟨tg, iter, ifs, 0⟩] scope pos) σ H Q := by
  have hN : X.N.Nodup := by rw [c.names]; exact c.nd
  have ok' : BlkOk X.N X.env.scope scope own := by rw [c.names]; exact blkOk_by ok
  have p := pe_lc (X := X) (pos := pos) (g := WGb X scope tg) (tt := WTb X scope ifs) (te := WEb X scope elt) c.calm hN (pi_w (X := X) (tg := tg) (iter := iter)) ok'
    (fun s H C cl fp => ⟨fun pins s1 σ1 H1 v u R I r q => (q _ ⟨s, H, C, cl, fp, rfl⟩).run pins s1 u I r⟩)
    (fun s H C cl fp => ⟨fun pins s1 σ1 H1 R I q => (q _ ⟨s, H, C, cl, fp, rfl⟩).run pins s1 I⟩)
    (fun s H C cl fp => ⟨fun pins s1 σ1 H1 R I q => (q _ ⟨s, H, C, cl, fp, rfl⟩).run pins s1 I⟩) hs
  exact p.w (lc_ofT c P h)
theorem ws_setLcT {y : Str} {py spos : Pos} {D0 : Ends} {X : Cx} {N L S G B : List Str} {tg elt iter : Expr} {ifs : List Expr} {scope : Scope} {own : List (Str × Nat)} {σ : L2.St} {H : Hp} {pos : Pos} (c : Nm X N L S G B) (ok : blkC N X.env.scope scope own = true) (P : Nat → List V → Prop)
    (h : WI X tg iter σ H fun J H1 => ∃ n it, WlkT J n it H1 ∧ n < sizeLine ∧ P 0 [] ∧
      (∀ i acc H0 H' T, i < n → acc.length ≤ i → P i acc → Same H1 H0 → Same H0 H' → H' T = some (.tup (it i)) → WGb X scope tg (.ref T) (wipe σ (own.map (·.2))) H' fun σ2 H2 => H2 = H' ∧ wipe σ2 (own.map (·.2)) = wipe σ (own.map (·.2)) ∧ WTb X scope ifs σ2 H2 fun k H3 => Same H2 H3 ∧
        if k = true then WEb X scope elt σ2 H3 fun y H4 => Same H3 H4 ∧ P (i + 1) (acc ++ [y]) else P (i + 1) acc) ∧
      ∀ acc D H', acc.length ≤ n → P n acc → H1 D = none → Same H1 H' → H' D = some (.lst acc) → ∃ σ', Put N σ y (.ref D) σ' ∧ D0.nx σ' H')
    (hyl : X.env.scope.names.lookup y = some .local) (hsw : swapsWith (.ListComp elt [⟨tg, iter, ifs, 0⟩] scope pos) (some (.Name y py)) spos.line X.env = pure true)
    (hs : ∀ x, foldedSetIterable iter X.env x = pure x := by intro _; with_unfolding_all rfl) (iy : ∃ i : Nat, N[i]? = some y) : WS X (.Assign [.Name y py] (.ListComp elt [⟨tg, iter, ifs, 0⟩] scope pos) spos) D0 σ H := by
  have hN : X.N.Nodup := by rw [c.names]; exact c.nd
  have ok' : BlkOk X.N X.env.scope scope own := by rw [c.names]; exact blkOk_by ok
  obtain ⟨i, hi⟩ := iy
  have hi' : X.N[i]? = some y := by rw [c.names]; exact hi
  have p := ps_setLc (X := X) (pos := pos) (spos := spos) (py := py) (g := WGb X scope tg) (tt := WTb X scope ifs) (te := WEb X scope elt) c.calm hN hi' hyl hsw (pi_w (X := X) (tg := tg) (iter := iter)) ok'
    (fun s H C cl fp => ⟨fun pins s1 σ1 H1 v u R I r q => (q _ ⟨s, H, C, cl, fp, rfl⟩).run pins s1 u I r⟩)
    (fun s H C cl fp => ⟨fun pins s1 σ1 H1 R I q => (q _ ⟨s, H, C, cl, fp, rfl⟩).run pins s1 I⟩)
    (fun s H C cl fp => ⟨fun pins s1 σ1 H1 R I q => (q _ ⟨s, H, C, cl, fp, rfl⟩).run pins s1 I⟩) hs
  refine p.w ?_
  refine lc_ofT (Q := fun v H1 => D0.nx (σ.set i (some v)) H1) c P ⟨fun pins s I => thn (h.run pins s I) fun v s1 h1 => thn h1 fun itv s2 ⟨it, fp, tn, J, H1, e, I', T, t0, hf, n, itm, W, hz, p0, hst, hd⟩ => ⟨it, fp, tn, J, H1, e, I', T, t0, hf, n, itm, W, hz, p0, hst, fun acc D H' h1 h2 h3 h4 h5 => ?_⟩⟩
  obtain ⟨σ', hp, q⟩ := hd acc D H' h1 h2 h3 h4 h5
  obtain ⟨i', hi2, rfl⟩ := hp.ix
  have ei : i' = i := nodup_ix hN (by rw [c.names]; exact hi2) hi'
  rw [← ei]
  exact q

/-! ### calls -/
structure WC (X : Cx) (f : Value) (xs : List V) (σ : L2.St) (H : Hp) (Q : VK) : Prop where
  run : ∀ (pins : List (Addr × Obj)) (s : Shared) (us : List Value), Inv X pins σ H s → Vals xs us → wpAny (model X.prog X.w) X.A (call f us) (EP X pins σ Q) X.xe s
theorem cr_w {X : Cx} {f : Value} : CallR X f fun xs H Q => ∀ σ, WC X f xs σ H Q := fun pins s σ H xs us Q I r q => (q σ).run pins s us I r
theorem _root_.L2.CallR.w {X : Cx} {f : Value} {r : List V → Hp → VK → Prop} {xs : List V} {σ : L2.St} {H : Hp} {Q : VK} (h : CallR X f r) (q : r xs H Q) : WC X f xs σ H Q := ⟨fun pins s us I rv => h pins s σ H xs us Q I rv q⟩
section
variable {X : Cx} {N L S G B : List Str} {e o : Expr} {es : List Expr} {σ : L2.St} {H : Hp} {Q : VK} {x m : Str} {p pos apos : Pos} {id T : String}
/-- f(e, ..), f a built-in function; T(e, ..) a built-in type -/
theorem w_callB (c : Nm X N L S G B) (m : Mb x B) (hv : bootBuiltins x = some (.builtin id)) (h : WA X (e :: es) σ H fun vs H1 => WC X (.builtin id) vs σ H1 Q)
    (he : starEach (e :: es) X.env = (false, eval e X.env) :: starEach es X.env := by with_unfolding_all rfl) (hpl : (backTo pos (starEach es X.env)).any (·.1) = false := by with_unfolding_all rfl) : WE X (.Call (.Name x p) (e :: es) [] pos) σ H Q := by
  obtain ⟨a, b, d⟩ := c.bgl x m.mem
  refine ⟨fun pins s I => wpAny_Call_Name_kw (ld_blt I a (c.blt x m.mem) hv ?_ d b)⟩
  exact PyProof.Rows.callWith_builtin1 (thn (h.run pos pins s I) fun us s1 ⟨vs, H1, I1, r1, q1⟩ => q1.run pins s1 us I1 r1) he hpl
theorem w_callTy (c : Nm X N L S G B) (m : Mb x B) (hv : bootBuiltins x = some (.type T)) (h : WA X (e :: es) σ H fun vs H1 => WC X (.type T) vs σ H1 Q)
    (he : starEach (e :: es) X.env = (false, eval e X.env) :: starEach es X.env := by with_unfolding_all rfl) (hpl : (backTo pos (starEach es X.env)).any (·.1) = false := by with_unfolding_all rfl) : WE X (.Call (.Name x p) (e :: es) [] pos) σ H Q := by
  obtain ⟨a, b, d⟩ := c.bgl x m.mem
  refine ⟨fun pins s I => wpAny_Call_Name_kw (ld_blt I a (c.blt x m.mem) hv ?_ d b)⟩
  exact PyProof.Rows.callWith_type1 (thn (h.run pos pins s I) fun us s1 ⟨vs, H1, I1, r1, q1⟩ => q1.run pins s1 us I1 r1) he hpl
theorem c_len {x : V} {n : Nat} (h : LenV X.K x H n) (q : Q (.int n) H) : WC X (.builtin "len") [x] σ H Q := call_len.w ⟨x, n, rfl, h, q⟩
theorem c_abs {i : Int} (q : Q (.int (if i < 0 then -i else i)) H) : WC X (.builtin "abs") [.int i] σ H Q := call_abs.w ⟨i, rfl, q⟩
theorem c_max {i j : Int} (hc : X.calm = true) (q : Q (.int (if j > i then j else i)) H) : WC X (.builtin "max") [.int i, .int j] σ H Q := (call_max2 hc).w ⟨i, j, rfl, q⟩
theorem c_min {i j : Int} (hc : X.calm = true) (q : Q (.int (if j < i then j else i)) H) : WC X (.builtin "min") [.int i, .int j] σ H Q := (call_min2 hc).w ⟨i, j, rfl, q⟩
theorem c_intB {k : Bool} (q : Q (.int (if k then 1 else 0)) H) : WC X (.type "int") [.bl k] σ H Q := call_int1.w (.inr ⟨k, rfl, q⟩)
theorem c_divmod {i j : Int} (h : 0 < j ∧ j < 1073741824) (q : ∀ p H', H p = none → Same H H' → H' p = some (.tup [.int (i / j), .int (i % j)]) → Q (.ref p) H') : WC X (.builtin "divmod") [.int i, .int j] σ H Q :=
  call_divmod.w ⟨i, j, rfl, h, newly' (Q := fun p H' => Q (.ref p) H') q⟩
theorem c_all {a : Addr} {bs : List Bool} (hc : X.calm = true) (h : SqL X.K H a (bs.map V.bl)) (q : Q (.bl (bs.all fun k => k)) H) : WC X (.builtin "all") [.ref a] σ H Q := (cr_all hc).w ⟨a, bs, rfl, h, q⟩
theorem c_sum {a : Addr} {ns : List Int} (hc : X.calm = true) (h : SqL X.K H a (ns.map V.int)) (q : Q (.int ns.sum) H) : WC X (.builtin "sum") [.ref a] σ H Q := (cr_sum hc).w ⟨a, ns, rfl, h, q⟩
theorem c_list {a : Addr} {xs : List V} (h : SqL X.K H a xs ∨ SqT X.K H a xs) (q : ∀ p H', H p = none → Same H H' → H' p = some (.lst xs) → Q (.ref p) H') : WC X (.type "list") [.ref a] σ H Q :=
  call_list_of.w ⟨a, xs, rfl, h, newly' (Q := fun p H' => Q (.ref p) H') q⟩
theorem c_isi {x c : V} {t u : Value} {b : Bool} (hc : ClsV c u) (ht : TyX X.K H x t) (hk : PySem.W.kitOne X.K t u = some b) (q : Q (.bl b) H) : WC X (.builtin "isinstance") [x, c] σ H Q := call_isi.w ⟨x, c, t, u, b, rfl, hc, ht, hk, q⟩
/-- a set of ints -/
def SetI (P : Program) (w : World) (a : Addr) (S : Int → Bool) (n : Nat) : HO := .ext fun h => h.SetOf (intKind P w) a S n
theorem setI_at {P : Program} {w : World} {h h' : Heap} {a : Addr} {S : Int → Bool} {n : Nat} (R : h.SetOf (intKind P w) a S n) (k : ∀ o, h.get? a = some o → h'.get? a = some o) : h'.SetOf (intKind P w) a S n := by
  obtain ⟨o, es, ep, t, e, c⟩ := R
  exact ⟨o, es, ep, t, k _ e, c⟩
theorem c_set {a : Addr} {ns : List Int} (hc : X.calm = true) (h : SqL X.K H a (ns.map V.int)) (hz : ns.length + 1 < scanBound) (q : ∀ p H' n, H p = none → Same H H' → H' p = some (SetI X.prog X.w p (fun k => ns.any (· == k)) n) → Q (.ref p) H') : WC X (.type "set") [.ref a] σ H Q := by
  refine ⟨fun pins s us I rv => ?_⟩
  obtain ⟨its, rw', hl, hzl⟩ := I.list h
  rw [Vals.ref1 rv]
  have hi := rw'.ints
  have hlen : its.length = ns.length := by rw [← rw'.length, List.length_map]
  refine call_set_list (I.ok.hd hc) hl.isList (by simpa using hi) (by simpa [hlen] using hz) fun h' tk hS hk => ?_
  have hS' : h'.SetOf (intKind X.prog X.w) s.heap.objs.size (fun k => ns.any (· == k)) (firstMet (fun i => ns.getD i 0) its.toArray.size).length := by
    refine SetOf_congr hS (fun k => ?_) rfl
    rw [firstMet_any]
    have e : (List.range its.toArray.size).map (fun i => ns.getD i 0) = ns := by
      apply List.ext_getElem
      · simp [hlen]
      · intro i h1 h2
        simp [h2]
    rw [e]
  have hn : H s.heap.objs.size = none := I.fresh
  have new : ObjOk X.prog X.w (upd H s.heap.objs.size (SetI X.prog X.w s.heap.objs.size (fun k => ns.any (· == k)) (firstMet (fun i => ns.getD i 0) its.toArray.size).length)) h' s.heap.objs.size (SetI X.prog X.w s.heap.objs.size (fun k => ns.any (· == k)) (firstMet (fun i => ns.getD i 0) its.toArray.size).length) := by
    have hS2 := hS'
    obtain ⟨o, es, ep, t, e, c⟩ := hS2
    exact ⟨hS', ⟨o, e⟩, fun h1 h2 p k => setI_at p k⟩
  exact ⟨.ref s.heap.objs.size, _, I.laid (t' := tk) (fun b o e => hk b o (Heap.lt_size e) e) (Nat.le_refl _) new, rfl, q _ _ _ hn (same_new hn) upd_same⟩
theorem b_inSetI {k : Int} {a : Addr} {S : Int → Bool} {n : Nat} (h : H a = some (SetI X.prog X.w a S n)) (q : Q (.bl (S k)) H) : WB X (compareOp .In) (.int k) (.ref a) σ H Q :=
  ⟨fun pins s v u I rx ry => by
    obtain ⟨tk, rfl⟩ := rx
    cases ry
    exact wpAny_inSet_of (intKind_is _ _ _ _) rfl (I.hok a _ h).1 (show EP X pins σ Q _ _ from ⟨.bl (S k), H, I.tok _, rfl, q⟩)⟩
/-! ### the calls of the text's own -/
/-- the module's name x is a def with the positional promise sp -/
structure Fn (P : Program) (w : World) (K : PySem.W.Frag) (mg : Str → Option Value) (base : Heap) (x : Str) (k : Nat) (sp : Sp) : Prop where
  ex : ∃ f, mg x = some (.ref f) ∧ PySem.W.keepIn K (.ref f) = true ∧ FnR P w K mg base (L2.CX P w) k f sp
theorem w_call {k j : Nat} {sp : Sp} {E : XK} (c : Nm X N L S G B) (mm : Mb x G) (F : Fn X.prog X.w X.K X.mg X.base x k sp) (hr : Room j X.A) (hj : k ≤ j) (hx : Passes (L2.CX X.prog X.w) X E) (h : WA X (e :: es) σ H fun vs H1 => sp vs H1 Q E)
    (he : starEach (e :: es) X.env = (false, eval e X.env) :: starEach es X.env := by with_unfolding_all rfl) (hpl : (backTo pos (starEach es X.env)).any (·.1) = false := by with_unfolding_all rfl) : WE X (.Call (.Name x p) (e :: es) [] pos) σ H Q := by
  obtain ⟨f, hm, hk, F⟩ := F.ex
  obtain ⟨a, b, d⟩ := c.glo x mm.mem
  refine ⟨fun pins s I => wpAny_Call_Name_kw (ld_glob I a hm ?_ b)⟩
  refine PySem.W.callWith_K (h₀ := X.base) I.ok.mod.kin hk (thn (h.run pos pins s I) fun us s1 ⟨vs, H1, I1, r, q⟩ => ⟨I1.kIn, ?_⟩) he hpl
  exact wpAny_call (run_fnR F (hr.mono hj) hx I1 r q)
theorem w_call0 {k j : Nat} {sp : Sp} {E : XK} (c : Nm X N L S G B) (mm : Mb x G) (F : Fn X.prog X.w X.K X.mg X.base x k sp) (hr : Room j X.A) (hj : k ≤ j) (hx : Passes (L2.CX X.prog X.w) X E) (h : sp [] H Q E) : WE X (.Call (.Name x p) [] [] pos) σ H Q := by
  obtain ⟨f, hm, hk, F⟩ := F.ex
  obtain ⟨a, b, d⟩ := c.glo x mm.mem
  refine ⟨fun pins s I => wpAny_Call_Name_kw (ld_glob I a hm ?_ b)⟩
  exact PySem.W.callWith_K0 I.kIn hk (wpAny_call (run_fnR F (hr.mono hj) hx I .nil h))
/-- C(e, ..) -/
structure Mkr (P : Program) (w : World) (K : PySem.W.Frag) (mg : Str → Option Value) (base : Heap) (C : Addr) (k : Nat) (sp : Sp) : Prop where
  ex : ∃ f, Mk K C f ∧ FnR P w K mg base (L2.CX P w) k f sp
/-- what a new instance owes -/
def Made (C : Addr) (sp : Sp) (vs : List V) (H1 : Hp) (Q : VK) (E : XK) : Prop :=
  ∀ x dx H2, H1 x = none → H1 dx = none → dx ≠ x → Same H1 H2 → H2 dx = some (.own x) → H2 x = some (.ins C dx []) → sp (.ref x :: vs) H2 (fun v H3 => v = .non ∧ Q (.ref x) H3) E
theorem run_mkr {k j : Nat} {C : Addr} {sp : Sp} {E : XK} {pins : List (Addr × Obj)} {s : Shared} {us : List Value} {vs : List V} (F : Mkr X.prog X.w X.K X.mg X.base C k sp) (hr : Room j X.A) (hj : k + 1 ≤ j) (hx : Passes (L2.CX X.prog X.w) X E) (I : Inv X pins σ H s) (r : Vals vs us) (q : Made C sp vs H Q E) :
    wpAny (model X.prog X.w) X.A (call (.ref C) us) (EP X pins σ Q) X.xe s := by
  obtain ⟨f, M, F⟩ := F.ex
  exact StX.run_makeR M F (hr.mono hj) hx I r fun x dx nx nd ne => q x dx _ nx nd ne ((same_new nd).trans (same_new (by rw [upd_ne (Ne.symm ne)]; exact nx))) (by rw [upd_ne ne]; exact upd_same) upd_same
theorem w_make {k j : Nat} {C : Addr} {sp : Sp} {E : XK} (c : Nm X N L S G B) (mm : Mb x G) (hm : X.mg x = some (.ref C)) (F : Mkr X.prog X.w X.K X.mg X.base C k sp) (hr : Room j X.A) (hj : k + 1 ≤ j) (hx : Passes (L2.CX X.prog X.w) X E)
    (h : WA X (e :: es) σ H fun vs H1 => Made C sp vs H1 Q E)
    (he : starEach (e :: es) X.env = (false, eval e X.env) :: starEach es X.env := by with_unfolding_all rfl) (hpl : (backTo pos (starEach es X.env)).any (·.1) = false := by with_unfolding_all rfl) : WE X (.Call (.Name x p) (e :: es) [] pos) σ H Q := by
  have kp := F.ex
  obtain ⟨f, M, _⟩ := kp
  obtain ⟨a, b, d⟩ := c.glo x mm.mem
  refine ⟨fun pins s I => wpAny_Call_Name_kw (ld_glob I a hm ?_ b)⟩
  refine PySem.W.callWith_K (h₀ := X.base) I.ok.mod.kin M.kp (thn (h.run pos pins s I) fun us s1 ⟨vs, H1, I1, r, q⟩ => ⟨I1.kIn, ?_⟩) he hpl
  exact run_mkr F hr hj hx I1 r q
/-- x(e, ..) where the local x holds the class at C -/
theorem w_makeL {k j : Nat} {C : Addr} {sp : Sp} {E : XK} (c : Nm X N L S G B) (ha : At N σ x (.ref C)) (mm : Mb x L) (F : Mkr X.prog X.w X.K X.mg X.base C k sp) (hr : Room j X.A) (hj : k + 1 ≤ j) (hx : Passes (L2.CX X.prog X.w) X E)
    (h : WA X (e :: es) σ H fun vs H1 => Made C sp vs H1 Q E)
    (he : starEach (e :: es) X.env = (false, eval e X.env) :: starEach es X.env := by with_unfolding_all rfl) (hpl : (backTo pos (starEach es X.env)).any (·.1) = false := by with_unfolding_all rfl) : WE X (.Call (.Name x p) (e :: es) [] pos) σ H Q := by
  have kp := F.ex
  obtain ⟨f, M, _⟩ := kp
  refine ⟨fun pins s I => wpAny_Call_Name_kw ?_⟩
  refine thn ((w_name (Q := fun v H' => v = .ref C ∧ H' = H) c ha mm ⟨rfl, rfl⟩).run pins s I) fun u s1 ⟨v, H', I', rv, ev, eH⟩ => ?_
  subst ev eH
  obtain rfl : u = Value.ref C := rv
  refine PySem.W.callWith_K (h₀ := X.base) I'.ok.mod.kin M.kp (thn (h.run pos pins s1 I') fun us s1 ⟨vs, H1, I1, r, q⟩ => ⟨I1.kIn, ?_⟩) he hpl
  exact run_mkr F hr hj hx I1 r q
/-! ### attributes -/
structure WAt (X : Cx) (x : V) (f : Str) (σ : L2.St) (H : Hp) (Q : VK) : Prop where
  run : ∀ (pins : List (Addr × Obj)) (s : Shared) (v : Value), Inv X pins σ H s → RelV x v → wpAny (model X.prog X.w) X.A (getAttr v f true) (EP X pins σ Q) X.xe s
theorem w_attr {f : Str} (h : WE X e σ H fun x H1 => WAt X x f σ H1 Q) (hb : attributeBase e f X.env (eval e X.env) = eval e X.env := by with_unfolding_all rfl) : WE X (.Attribute e f pos) σ H Q :=
  ⟨fun pins s I => attr_of hb (thn (h.run pins s I) fun u s1 ⟨x, H1, I1, rx, q⟩ => q.run pins s1 u I1 rx)⟩
theorem a_fld {a C dx : Addr} {fs : List (Str × V)} {f : Str} {v : V} (hc : Cls X.K C) (hn : NoAttr X.K C f) (h : H a = some (.ins C dx fs)) (hl : fs.lookup f = some v) (q : Q v H) : WAt X (.ref a) f σ H Q :=
  ⟨fun pins s u I rx => by
    obtain rfl : u = Value.ref a := rx
    exact getattr_ok I h hc hn hl fun u' s2 I2 ru => ⟨v, H, I2, ru, q⟩⟩
theorem a_cval {C : Addr} {mc u : Value} {f : Str} {v : V} (r : ClX.CRead X.K C mc) (k : ClX.CVal X.K C mc f v u) (q : Q v H) : WAt X (.ref C) f σ H Q :=
  ⟨fun pins s u I rx => by
    obtain rfl : u = Value.ref C := rx
    exact ClX.getcval_ok I r k fun s2 I2 => ⟨v, H, I2, k.rel, q⟩⟩
/-- a property, by its getter's positional promise -/
theorem a_prop {C p' g a dx : Addr} {fs : List (Str × V)} {f : Str} {k : Nat} {sp : Sp} {E : XK} (c : Cls X.K C) (hp : PropOf X.K C f p' g) (F : FnR X.prog X.w X.K X.mg X.base (L2.CX X.prog X.w) k g sp) (hr : Room (k + 1) X.A) (ea : H a = some (.ins C dx fs))
    (h : sp [.ref a] H Q E0) : WAt X (.ref a) f σ H Q := by
  refine ⟨fun pins s u I rx => ?_⟩
  obtain rfl : u = Value.ref a := rx
  obtain ⟨mA, O, _, _, _, _⟩ := ins_get I.hok ea
  obtain ⟨od, J, _⟩ := O.look
  obtain ⟨rest, hrec⟩ := hp.rec_
  have I1 := I.tok (s.toks + 1)
  have hc : (PySem.W.clsIn X.K C).isSome = true := by
    obtain ⟨cd, hc, _⟩ := PySem.W.any_some c.hd
    rw [hc]
    rfl
  refine PySem.W.get_bind I.kIn J (PySem.W.plainGet_of (c.get f)).1 (PySem.W.findObj_data hc hp.at_ hp.get hp.tak) (PySem.W.plainGet_of (c.get f)).2 (wpAny_call (PySem.W.prop_get (s := { s with toks := s.toks + 1 }) I.kIn hrec ?_))
  refine codeAny_mono (F X.A.in1 X.stack { s with toks := s.toks + 1 } H [.ref a] [.ref a] Q E0 hr.in1 I1.env0.in1 (.cons rfl .nil) h) fun r s' hq => ?_
  cases r with
  | error er => exact False.elim (passL (X := X.nox) pins σ H { s with toks := s.toks + 1 } er s' (I1.wish _) hq)
  | ok fl =>
    cases fl with
    | ret u =>
      obtain ⟨v, H', I3, rv, q3⟩ := I1.after hq
      show wpAny _ _ (handedOut u) _ _ _
      rw [PySem.W.handedOut_of (handed_of rv)]
      exact wpAny_pure ⟨v, H', I3, rv, q3⟩
    | next => exact False.elim hq
    | brk => exact False.elim hq
    | cont => exact False.elim hq
/-! ### methods -/
/-- o.m(e, ..) of an instance of the class at C, by a positional promise -/
structure Mth (P : Program) (w : World) (K : PySem.W.Frag) (mg : Str → Option Value) (base : Heap) (C : Addr) (m : Str) (k : Nat) (sp : Sp) : Prop where
  ex : ∃ f, Cls K C ∧ Meth K C m f ∧ FnR P w K mg base (L2.CX P w) k f sp
theorem w_meth {C : Addr} {k j : Nat} {sp : Sp} {E : XK} {pl : Sem Bool} (F : Mth X.prog X.w X.K X.mg X.base C m k sp) (hr : Room j X.A) (hj : k ≤ j) (hx : Passes (L2.CX X.prog X.w) X E)
    (h : WE X o σ H fun x H1 => ∃ a dx fs, x = .ref a ∧ H1 a = some (.ins C dx fs) ∧ fs.lookup m = none ∧ WA X (e :: es) σ H1 fun vs H2 => sp (.ref a :: vs) H2 Q E)
    (hst : starEach (e :: es) X.env = (false, eval e X.env) :: starEach es X.env := by with_unfolding_all rfl) (hpl : (backTo pos (starEach es X.env)).any (·.1) = false := by with_unfolding_all rfl)
    (ht : eval (.Call (.Attribute o m apos) (e :: es) [] pos) X.env = (do
      let ov ← eval o X.env
      standAt apos.atName
      let (f, first) ← holding [ov] (getMethod ov m pl)
      callWith pos f first (backTo pos (starEach (e :: es) X.env)) (backToKw pos (keywordEach [] X.env))) := by with_unfolding_all rfl) : WE X (.Call (.Attribute o m apos) (e :: es) [] pos) σ H Q := by
  obtain ⟨f, c, hm, F⟩ := F.ex
  refine (pe_methR pe_w c hm F (hr.mono hj) hx pa_w hst hpl ht).w ?_
  exact WE.imp h fun x H1 ⟨a, dx, fs, e1, e2, e3, q⟩ => ⟨a, dx, fs, e1, e2, e3, by rw [e1]; exact q⟩
theorem w_meth0 {C : Addr} {k j : Nat} {sp : Sp} {E : XK} {pl : Sem Bool} (F : Mth X.prog X.w X.K X.mg X.base C m k sp) (hr : Room j X.A) (hj : k ≤ j) (hx : Passes (L2.CX X.prog X.w) X E)
    (h : WE X o σ H fun x H1 => ∃ a dx fs, x = .ref a ∧ H1 a = some (.ins C dx fs) ∧ fs.lookup m = none ∧ sp [.ref a] H1 Q E)
    (ht : eval (.Call (.Attribute o m apos) [] [] pos) X.env = (do
      let ov ← eval o X.env
      standAt apos.atName
      let (f, first) ← holding [ov] (getMethod ov m pl)
      callWith pos f first (backTo pos (starEach [] X.env)) (backToKw pos (keywordEach [] X.env))) := by with_unfolding_all rfl) : WE X (.Call (.Attribute o m apos) [] [] pos) σ H Q := by
  obtain ⟨f, c, hm, F⟩ := F.ex
  refine ⟨fun pins s I => ?_⟩
  refine PySem.W.methodCall_KW (pl := pl) (thn (h.run pins s I) fun u s1 ⟨x, H1, I1, rx, a, dx, fs, ex, ea, l, q⟩ => ?_) ht
  subst ex
  obtain rfl : u = Value.ref a := rx
  refine getmeth_ok I1 ea c hm l ?_
  exact PySem.W.callWith_K0 (first := [.ref a]) I1.kIn hm.kp (wpAny_call (run_fnR (us := [.ref a]) (vs := [.ref a]) F (hr.mono hj) hx I1 (.cons rfl .nil) q))
/-- C.m(e, ..), a static method -/
structure SMt (P : Program) (w : World) (K : PySem.W.Frag) (mg : Str → Option Value) (base : Heap) (C : Addr) (m : Str) (k : Nat) (sp : Sp) : Prop where
  ex : ∃ (p g : Addr) (rest : List Value), ClX.CRead K C (.type "type") ∧ PySem.W.findCls K (.ref C) (.type "type") m = some (.get (.builtin "staticmethod.__get__") (.ref p) .none (.ref C)) ∧ PySem.W.recIn K p "staticmethod" = some (.ref g :: rest) ∧
    PySem.W.keepIn K (.ref g) = true ∧ FnR P w K mg base (L2.CX P w) k g sp
theorem w_smeth {C : Addr} {k j : Nat} {sp : Sp} {E : XK} {pl : Sem Bool} (F : SMt X.prog X.w X.K X.mg X.base C m k sp) (hr : Room j X.A) (hj : k ≤ j) (hx : Passes (L2.CX X.prog X.w) X E)
    (h : WE X o σ H fun x H1 => x = .ref C ∧ WA X (e :: es) σ H1 fun vs H2 => sp vs H2 Q E)
    (hst : starEach (e :: es) X.env = (false, eval e X.env) :: starEach es X.env := by with_unfolding_all rfl) (hpl : (backTo pos (starEach es X.env)).any (·.1) = false := by with_unfolding_all rfl)
    (ht : eval (.Call (.Attribute o m apos) (e :: es) [] pos) X.env = (do
      let ov ← eval o X.env
      standAt apos.atName
      let (f, first) ← holding [ov] (getMethod ov m pl)
      callWith pos f first (backTo pos (starEach (e :: es) X.env)) (backToKw pos (keywordEach [] X.env))) := by with_unfolding_all rfl) : WE X (.Call (.Attribute o m apos) (e :: es) [] pos) σ H Q := by
  obtain ⟨p', g, rest, r, fc, rc, kp, F⟩ := F.ex
  refine ⟨fun pins s I => ?_⟩
  refine PySem.W.methodCall_KW (pl := pl) (thn (h.run pins s I) fun u s1 ⟨x, H1, I1, rx, ex, q⟩ => ?_) ht
  subst ex
  obtain rfl : u = Value.ref C := rx
  refine PySem.W.method_cls I1.kIn r.ga (PySem.W.cls_bind I1.kIn r.rd fc ?_)
  refine wpAny_call (PySem.W.sm_get (s := { s1 with toks := s1.toks + 1 }) I1.kIn rc (PySem.W.handed_on rfl ?_))
  have I2 := I1.tok (s1.toks + 1)
  refine PySem.W.callWith_K (first := []) (h₀ := X.base) I.ok.mod.kin kp (thn (q.run pos pins _ I2) fun us s2 ⟨vs, H2, I3, rv, q2⟩ => ⟨I3.kIn, ?_⟩) hst hpl
  exact wpAny_call (run_fnR (us := us) (vs := vs) F (hr.mono hj) hx I3 rv q2)
/-- C.m(), C.m(e, ..), a classmethod: its promise is of the class ahead of the arguments -/
structure CMt (P : Program) (w : World) (K : PySem.W.Frag) (mg : Str → Option Value) (base : Heap) (C : Addr) (m : Str) (k : Nat) (sp : Sp) : Prop where
  ex : ∃ (p g : Addr), ClX.CRead K C (.type "type") ∧ ClX.CMet K C (.type "type") m p g ∧ FnR P w K mg base (L2.CX P w) k g sp
theorem w_cmeth {C : Addr} {k j : Nat} {sp : Sp} {E : XK} {pl : Sem Bool} (F : CMt X.prog X.w X.K X.mg X.base C m k sp) (hr : Room j X.A) (hj : k ≤ j) (hx : Passes (L2.CX X.prog X.w) X E)
    (h : WE X o σ H fun x H1 => x = .ref C ∧ WA X (e :: es) σ H1 fun vs H2 => sp (.ref C :: vs) H2 Q E)
    (hst : starEach (e :: es) X.env = (false, eval e X.env) :: starEach es X.env := by with_unfolding_all rfl) (hpl : (backTo pos (starEach es X.env)).any (·.1) = false := by with_unfolding_all rfl)
    (ht : eval (.Call (.Attribute o m apos) (e :: es) [] pos) X.env = (do
      let ov ← eval o X.env
      standAt apos.atName
      let (f, first) ← holding [ov] (getMethod ov m pl)
      callWith pos f first (backTo pos (starEach (e :: es) X.env)) (backToKw pos (keywordEach [] X.env))) := by with_unfolding_all rfl) : WE X (.Call (.Attribute o m apos) (e :: es) [] pos) σ H Q := by
  obtain ⟨p', g, r, c, F⟩ := F.ex
  exact (ClX.pe_cmeth pe_w r c F (hr.mono hj) hx pa_w hst hpl ht).w h
theorem w_cmeth0 {C : Addr} {k j : Nat} {sp : Sp} {E : XK} {pl : Sem Bool} (F : CMt X.prog X.w X.K X.mg X.base C m k sp) (hr : Room j X.A) (hj : k ≤ j) (hx : Passes (L2.CX X.prog X.w) X E)
    (h : WE X o σ H fun x H1 => x = .ref C ∧ sp [.ref C] H1 Q E)
    (ht : eval (.Call (.Attribute o m apos) [] [] pos) X.env = (do
      let ov ← eval o X.env
      standAt apos.atName
      let (f, first) ← holding [ov] (getMethod ov m pl)
      callWith pos f first (backTo pos (starEach [] X.env)) (backToKw pos (keywordEach [] X.env))) := by with_unfolding_all rfl) : WE X (.Call (.Attribute o m apos) [] [] pos) σ H Q := by
  obtain ⟨p', g, r, c, F⟩ := F.ex
  refine ⟨fun pins s I => ?_⟩
  refine PySem.W.methodCall_KW (pl := pl) (thn (h.run pins s I) fun u s1 ⟨x, H1, I1, rx, ex, q⟩ => ?_) ht
  subst ex
  obtain rfl : u = Value.ref C := rx
  refine ClX.getmethcm_ok I1 r c fun s2 I2 => ?_
  have hq := ClX.pin_at I2
  refine PySem.W.callWith_M0 (first := []) ⟨hq, I2.kIn⟩ c.fi ?_
  exact ClX.run_cm (us := []) (vs := []) F (hr.mono hj) hx I2 .nil q
end
end Sv

namespace Sv
open PySem PySem.Spec PyProof.Rows L2

/-! ### == and != by an own __eq__ -/
/-- the class at C has __eq__ at f and no __ne__ -/
structure EqC (K : PySem.W.Frag) (C f : Addr) : Prop where
  eq : PySem.W.findIn K (.ref C) "__eq__" = some (some (.ref f))
  fn : PySem.W.isFn K (.ref f) = true
  ne : ∃ (nm q : Str) (N : Addr) (bs : List Value) (hdct : Bool) (sn : List Str) (sub : List Value) (ab : Bool) (col : Option Bool) (dd : Option Addr) (k0 k1 k2 k3 k5 : Option Value) (newId : String) (oN : Obj) (es : Array DictEntry) (ep : Nat) (of : Obj),
    K.lookup C = some (excClassObj nm q C N bs [.type "object"] hdct sn sub ab col dd k0 k1 k2 k3 k5 newId) ∧ K.lookup N = some oN ∧ oN.data = .dict es ep ∧ StrKeys es ∧ nsFind es "__eq__" = some (.ref f) ∧ nsFind es "__ne__" = none ∧
    K.lookup f = some of ∧ of.cls = .type "function"
/-- the promise of that __eq__, of two instances -/
structure EqM (P : Program) (w : World) (K : PySem.W.Frag) (mg : Str → Option Value) (base : Heap) (C : Addr) (k : Nat) (sp : Sp) : Prop where
  ex : ∃ f, EqC K C f ∧ FnR P w K mg base (L2.CX P w) k f sp
theorem bl_of {v : V} {u : Value} (r : RelV v u) {b : Bool} (e : v = .bl b) : u = .bool b := by
  subst e
  exact r
section
variable {X : Cx} {σ : L2.St} {H : Hp} {Q : VK} {a b C dx dy : Addr} {fs gs : List (Str × V)} {k j : Nat} {sp : Sp}
theorem b_eqO (F : EqM X.prog X.w X.K X.mg X.base C k sp) (hr : Room j X.A) (hj : k + 1 ≤ j) (ha : H a = some (.ins C dx fs)) (hb : H b = some (.ins C dy gs)) (q : sp [.ref a, .ref b] H (fun v H' => ∃ r, v = .bl r ∧ Q (.bl r) H') E0) :
    WB X (compareOp .Eq) (.ref a) (.ref b) σ H Q := by
  obtain ⟨f, c, F⟩ := F.ex
  refine ⟨fun pins s v u I rx ry => ?_⟩
  cases rx
  cases ry
  obtain ⟨mA, O, _⟩ := ins_get I.hok ha
  obtain ⟨mB, O', _⟩ := ins_get I.hok hb
  obtain ⟨od, J, _⟩ := O.look
  obtain ⟨od', J', _⟩ := O'.look
  obtain ⟨m, hF⟩ := I.fr
  refine PySem.W.cmp_K (op := .Eq) (tb := .ref C) hr.units0 hF I.ok.mod.kin J J'.type (by simp [PySem.W.notFirst]) c.eq c.fn ?_
  refine wpAny_mono (wpAny_call (run_fnR (us := [.ref a, .ref b]) (vs := [.ref a, .ref b]) F (hr.mono (by omega)) passL I (.cons rfl (.cons rfl .nil)) q)) (fun w s' z => ?_) fun _ _ x => x
  obtain ⟨z', H', I', rz, r, ez, qz⟩ := z
  subst ez
  cases rz
  exact ⟨.bl r, H', I', rfl, qz⟩
theorem b_neO (F : EqM X.prog X.w X.K X.mg X.base C k sp) (hr : Room j X.A) (hj : k + 1 ≤ j) (ha : H a = some (.ins C dx fs)) (hb : H b = some (.ins C dy gs)) (q : sp [.ref a, .ref b] H (fun v H' => ∃ r, v = .bl r ∧ Q (.bl (!r)) H') E0) :
    WB X (compareOp .NotEq) (.ref a) (.ref b) σ H Q := by
  obtain ⟨f, c, F⟩ := F.ex
  refine ⟨fun pins s v u I rx ry => ?_⟩
  cases rx
  cases ry
  obtain ⟨mA, O, _⟩ := ins_get I.hok ha
  obtain ⟨mB, O', _⟩ := ins_get I.hok hb
  obtain ⟨nm, qn, N, bs, hdct, sn, sub, ab, col, dd, k0, k1, k2, k3, k5, newId, oN, es, ep, of, lC, lN, dN, hk, he, hne, lf, cf⟩ := c.ne
  have X1 := I.kIn
  have own : s.heap.OwnEqNoNe a C f "object" [.type "object"] := ⟨_, of, nm, qn, N, bs, hdct, sn, sub, ab, col, dd, k0, k1, k2, k3, k5, newId, fun z => nsFind es z, some (.builtin "object.__eq__"), O.obj, rfl, X1 _ _ lC, ⟨oN, es, ep, X1 _ _ lN, dN, hk, fun _ => rfl⟩, he, X1 _ _ lf, cf, PySem.F.cmp_object.mro, PySem.F.cmp_object.eq.lookup, hne⟩
  have hr1 : Room k X.A.in1 := (hr.mono hj).in1
  have hu : X.A.units + 1 < cLine := by have := hr.un; omega
  refine compareOp_ne_ownEq PySem.F.cmp_object own O'.obj rfl hu ?_
  refine wpAny_mono (wpAny_call (codeAny_mono (F X.A.in1 X.stack s H [.ref a, .ref b] [.ref a, .ref b] _ E0 hr1 I.env0.in1 (.cons rfl (.cons rfl .nil)) q) fun r s' hq => ?_)) (fun v s' z => z) fun _ _ x => x
  cases r with
  | error er => exact False.elim (passL (X := X.nox) pins σ H s er s' (I.wish _) hq)
  | ok fl =>
    cases fl with
    | ret u =>
      obtain ⟨v, H', I3, rv, r, ev, q3⟩ := I.after hq
      subst ev
      cases rv
      exact ⟨r, rfl, .bl (!r), H', I3, rfl, q3⟩
    | next => exact False.elim hq
    | brk => exact False.elim hq
    | cont => exact False.elim hq
end

/-! ### methods of built-in values -/
section
variable {X : Cx} {o e : Expr} {es : List Expr} {σ : L2.St} {H : Hp} {Q : VK} {apos pos : Pos}
/-- xs.append(e) -/
theorem w_append (h : WE X o σ H fun x H1 => ∃ l, x = .ref l ∧ (∃ xs, SqL X.K H1 l xs) ∧ WE X e σ H1 fun y H2 => ∃ xs, H2 l = some (.lst xs) ∧ xs.length < sizeLine ∧ Q .non (upd H2 l (.lst (xs ++ [y]))))
    (hbase : attributeBase o "append" X.env (eval o X.env) = eval o X.env := by with_unfolding_all rfl)
    (hfew : ((backTo pos (starEach [e] X.env)).all (fun x => !x.1) && (backToKw pos (keywordEach [] X.env)).all (fun x => x.1.isSome)
      && decide ([e].length + ([] : List Keyword).length + (if ([] : List Keyword).isEmpty then 0 else 1) < 30)) = true := by with_unfolding_all rfl)
    (hline : (apos.endLine == pos.line) = true := by with_unfolding_all rfl) (hs : starEach [e] X.env = (false, eval e X.env) :: starEach [] X.env := by with_unfolding_all rfl) : WE X (.Call (.Attribute o "append" apos) [e] [] pos) σ H Q := by
  refine (pe_bm PySem.F.plainAttrs_list PySem.F.slot_list_append PySem.F.type_list_append mt_append pe_w (pa_cons pe_w pa_nil hs) hbase hfew hline hs rfl).w ?_
  exact WE.imp h fun x H1 ⟨l, e1, ⟨xs, hx⟩, q⟩ => ⟨by rw [e1]; exact Or.inl ⟨rfl, xs, hx⟩, WE.imp q fun y H2 ⟨xs, h2, hz, q⟩ => ⟨l, xs, y, e1, rfl, h2, hz, q⟩⟩
/-- sep.join(xs) of a list of texts -/
theorem w_join (h : WE X o σ H fun x H1 => ∃ a, x = .str a ∧ WE X e σ H1 fun y H2 => ∃ p, ∃ ys : List Str, y = .ref p ∧ (SqL X.K H2 p (ys.map V.str) ∨ SqT X.K H2 p (ys.map V.str)) ∧ (ys.map fun x => x.length).sum + ys.length * a.length ≤ 16777216 ∧ Q (.str (Txt.join a ys)) H2)
    (hs : starEach [e] X.env = [(false, eval e X.env)] := by with_unfolding_all rfl) (hbase : attributeBase o "join" X.env (eval o X.env) = eval o X.env := by with_unfolding_all rfl) (hline : (apos.endLine == pos.line) = true := by with_unfolding_all rfl) : WE X (.Call (.Attribute o "join" apos) [e] [] pos) σ H Q :=
  (pe_join pe_w pe_w hs hbase hline).w (WE.imp h fun x H1 ⟨a, e1, q⟩ => ⟨⟨a, e1⟩, WE.imp q fun y H2 ⟨p, ys, e2, h2, hz, q⟩ => ⟨a, p, ys, e1, by rw [e2], h2, hz, q⟩⟩)
/-- s.count(t) -/
theorem w_count (h : WE X o σ H fun x H1 => ∃ a, x = .str a ∧ WE X e σ H1 fun y H2 => ∃ b, y = .str b ∧ Q (.int (Txt.count a b)) H2)
    (hs : starEach [e] X.env = [(false, eval e X.env)] := by with_unfolding_all rfl) (hbase : attributeBase o "count" X.env (eval o X.env) = eval o X.env := by with_unfolding_all rfl) (hline : (apos.endLine == pos.line) = true := by with_unfolding_all rfl) : WE X (.Call (.Attribute o "count" apos) [e] [] pos) σ H Q :=
  (pe_m1 PySem.F.slot_str_count PySem.F.type_str_count mt_count pe_w pe_w hs hbase hline).w (WE.imp h fun x H1 ⟨a, e1, q⟩ => ⟨⟨a, e1⟩, WE.imp q fun y H2 ⟨b, e2, q⟩ => ⟨a, b, e1, by rw [e2], q⟩⟩)
end

/-! ### a def's names -/
def visB (sc : Scope) (x : Str) : Bool := match sc.names.lookup x with
  | some .local | some .cell | some .free => true
  | _ => false
def locB (sc : Scope) (x : Str) : Bool := match sc.names.lookup x with
  | some .local | some .cell => true
  | _ => false
def gloB (sc : Scope) (x : Str) : Bool := match sc.names.lookup x with
  | some .globalImplicit => true
  | _ => false
theorem visB_ok {sc : Scope} {x : Str} (h : visB sc x = true) : Vis sc x := by
  unfold visB at h
  split at h
  · exact .inl (by assumption)
  · exact .inr (.inl (by assumption))
  · exact .inr (.inr (by assumption))
  · cases h
theorem locB_ok {sc : Scope} {x : Str} (h : locB sc x = true) : Loc sc x := by
  unfold locB at h
  split at h
  · exact .inl (by assumption)
  · exact .inr (by assumption)
  · cases h
theorem gloB_ok {sc : Scope} {x : Str} (h : gloB sc x = true) : sc.names.lookup x = some .globalImplicit := by
  unfold gloB at h
  split at h
  · assumption
  · cases h
/-- names: N all slots (the parameters ps first), L the def's own, G the module's, B the built-in ones -/
def scB (N ps L G B : List Str) (sc : Scope) : Bool :=
  (match sc.kind with | .function => true | _ => false) && !sc.isCoroutine && !sc.isGenerator && decide N.Nodup && decide (N.take ps.length = ps) && ps.all (locB sc) && (sc.names.all fun y => match y.2 with | .free => false | _ => true) &&
  (L.all fun x => locB sc x && !(x == ("__debug__" : Str)) && !(x == ("__classdict__" : Str))) && (G.all fun x => gloB sc x && !(x == ("__debug__" : Str)) && decide (x ≠ "__name__")) && (B.all fun x => gloB sc x && !(x == ("__debug__" : Str)) && decide (x ≠ "__name__"))
theorem scB_ok {N ps L G B : List Str} {sc : Scope} (h : scB N ps L G B sc = true) : FnScope N ps sc ∧ (∀ x ∈ L, Loc sc x ∧ (x == ("__debug__" : Str)) = false ∧ (x == ("__classdict__" : Str)) = false) ∧
    (∀ x ∈ G, sc.names.lookup x = some .globalImplicit ∧ (x == ("__debug__" : Str)) = false ∧ x ≠ "__name__") ∧ (∀ x ∈ B, sc.names.lookup x = some .globalImplicit ∧ (x == ("__debug__" : Str)) = false ∧ x ≠ "__name__") := by
  unfold scB at h
  simp only [Bool.and_eq_true, List.all_eq_true, decide_eq_true_eq, Bool.not_eq_true'] at h
  obtain ⟨⟨⟨⟨⟨⟨⟨⟨⟨h1, h2⟩, h3⟩, h4⟩, h5⟩, h6⟩, h7⟩, h8⟩, h9⟩, h10⟩ := h
  refine ⟨⟨?_, h2, h3, h4, h5, fun x hx => locB_ok (h6 x hx), fun y hy e => ?_⟩, fun x hx => ⟨locB_ok (h8 x hx).1.1, (h8 x hx).1.2, (h8 x hx).2⟩, fun x hx => ⟨gloB_ok (h9 x hx).1.1, (h9 x hx).1.2, (h9 x hx).2⟩, fun x hx => ⟨gloB_ok (h10 x hx).1.1, (h10 x hx).1.2, (h10 x hx).2⟩⟩
  · split at h1
    · assumption
    · cases h1
  · have := h7 y hy
    rw [e] at this
    cases this
theorem nm_of {CX : CXT} {P : Program} {w : World} {K : PySem.W.Frag} {mg : Str → Option Value} {base : Heap} {N ps L G B : List Str} {qual : Str} {sc : Scope} {f : Addr} {cd : Value} {A : Around} {outer : List Env} {s : Shared} {H : Hp} {E : XK} (h : scB N ps L G B sc = true) (hb : ∀ x ∈ B, mg x = none) :
    Nm (cxOf CX P w K mg base N qual sc f cd A outer s H E) N L L G B := by
  obtain ⟨F, hL, hG, hB⟩ := scB_ok h
  exact ⟨rfl, F.nd, fun x hx => ⟨by rcases (hL x hx).1 with z | z; exact .inl z; exact .inr (.inl z), (hL x hx).2⟩, fun x hx => ⟨(hL x hx).1, .inl rfl⟩, hG, hb, hB, rfl⟩
theorem nm_nox {X : Cx} {N L S G B : List Str} (c : Nm X N L S G B) : Nm X.nox N L S G B := ⟨c.names, c.nd, c.vis, c.sto, c.glo, c.blt, c.bgl, c.calm⟩
/-- .. of a block: L the visible ones, S its own -/
def bkB (sc scope : Scope) (L S G B : List Str) : Bool :=
  (L.all fun x => visB (relS scope sc) x && !(x == ("__debug__" : Str)) && !(x == ("__classdict__" : Str))) && (S.all fun x => locB (relS scope sc) x && (match (relS scope sc).names.lookup x, scope.names.lookup x with | some .local, _ => true | _, some .cell => true | _, _ => false)) &&
  (G.all fun x => gloB (relS scope sc) x && !(x == ("__debug__" : Str)) && decide (x ≠ "__name__")) && (B.all fun x => gloB (relS scope sc) x && !(x == ("__debug__" : Str)) && decide (x ≠ "__name__"))
theorem nm_blk {X X' : Cx} {N L S G B L' S' G' B' : List Str} {scope : Scope} (b : Blk X scope X') (c : Nm X N L S G B) (h : bkB X.env.scope scope L' S' G' B' = true) (hb : ∀ x ∈ B', X.mg x = none) : Nm X' N L' S' G' B' := by
  obtain ⟨s, H, C, cl, fp, rfl⟩ := b
  unfold bkB at h
  simp only [Bool.and_eq_true, List.all_eq_true, decide_eq_true_eq, Bool.not_eq_true'] at h
  obtain ⟨⟨⟨h8, h6⟩, h9⟩, h10⟩ := h
  refine ⟨c.names, c.nd, fun x hx => ⟨visB_ok (h8 x hx).1.1, (h8 x hx).1.2, (h8 x hx).2⟩, fun x hx => ⟨locB_ok (h6 x hx).1, ?_⟩, fun x hx => ⟨gloB_ok (h9 x hx).1.1, (h9 x hx).1.2, (h9 x hx).2⟩, hb, fun x hx => ⟨gloB_ok (h10 x hx).1.1, (h10 x hx).1.2, (h10 x hx).2⟩, c.calm⟩
  have z := (h6 x hx).2
  split at z
  · exact .inr (by assumption)
  · refine .inl ?_
    show (scope.names.lookup x == some .cell) = true
    simp [*]
  · cases z

/-! ### what the top has written: defs by where they stand, facts as Bools -/
open He in
structure DefY where
  at_ : PySem.W.Frag → Addr
  name : Str
  qual : Str
  params : Arguments
  body : List Stmt
  scope : Scope
  dfl : List Dv := []
  cells : List Str := []
open He in
def fnY (K : PySem.W.Frag) (a : Addr) : FnW := match K.lookup a with
  | some ⟨_, _, .func fd, _⟩ => some (fd.name, fd.qualname, fd.params, fd.body, fd.scope, fd.globals, fd.closure.map fun p => (p.1, 0), fd.builtins)
  | _ => none
open He in
def DefY.val (d : DefY) : FnW := some (d.name, d.qual, d.params, .stmts d.body, d.scope, mainGlobals, d.cells.map fun x => (x, 0), builtinsNs)
open He in
def DefY.ok (K : PySem.W.Frag) (d : DefY) : Bool := PySem.W.keepIn K (.ref (d.at_ K)) && (match K.lookup (d.at_ K) with
  | some ⟨_, _, .func fd, _⟩ => PySem.W.codeIn K fd.code d.qual && dflB K fd.defaults (d.dfl.map (Dv.v K))
  | _ => false)
open He in
theorem DefY.funD {K : PySem.W.Frag} {d : DefY} (hcl : d.cells = []) (e : fnY K (d.at_ K) = d.val) (c : d.ok K = true) : ∃ fd, FunD K d.name d.qual d.params d.body d.scope (d.dfl.map (Dv.v K)) [] (d.at_ K) fd := by
  obtain ⟨kp, c2⟩ := ba c
  unfold fnY at e
  cases q : K.lookup (d.at_ K) with
  | none =>
    rw [q] at c2
    cases c2
  | some o =>
    obtain ⟨oc, od, dt, osl⟩ := o
    rw [q] at c2 e
    cases dt with
    | func fd =>
      obtain ⟨n1, n2, n3, n4, n5, n6, n7, n8, n9, n10, n11, n12, n13, n14, n15⟩ := fd
      have e2 : (some (n1, n2, n3, n4, n5, n6, n7.map (fun p => (p.1, 0)), n15) : FnW) = some (d.name, d.qual, d.params, .stmts d.body, d.scope, mainGlobals, d.cells.map (fun x => (x, 0)), builtinsNs) := e
      rw [hcl] at e2
      simp only [Option.some.injEq, Prod.mk.injEq, List.map_nil, List.map_eq_nil_iff] at e2
      obtain ⟨h1, h2, h3, h4, h5, h6, h7, h8⟩ := e2
      subst h1 h2 h3 h4 h5 h6 h7 h8
      have c3 : (PySem.W.codeIn K n13 d.qual && dflB K n8 (d.dfl.map (Dv.v K))) = true := c2
      obtain ⟨k1, k2⟩ := ba c3
      exact ⟨_, ⟨oc, od, n8, n9, n10, n11, n12, n13, n14, osl, rfl, q, k1, dflB_ok k2, .inl rfl⟩, kp⟩
    | _ => cases c2
open He in
abbrev AlY : Type := Bool × List FnW
open He in
def obsY (fs : List (PySem.W.Frag → Bool)) (fn : List DefY) (K : PySem.W.Frag) : AlY := ((fs.all fun f => f K) && fn.all fun d => d.ok K, fn.map fun d => fnY K (d.at_ K))
open He in
def valY (fn : List DefY) : AlY := (true, fn.map DefY.val)
def SaysY (fs : List (PySem.W.Frag → Bool)) (fn : List DefY) (K : PySem.W.Frag) : Prop := obsY fs fn K = valY fn
open He in
def obsYG (n : Nat) (fs : List (PySem.W.Frag → Bool)) (fn : List DefY) (g : Addr → Option Obj) : AlY := obsY fs fn (frG g (PySem.sysModules :: PySem.cStatics :: asD g n))
open He in
def hookY (n : Nat) (fs : List (PySem.W.Frag → Bool)) (fn : List DefY) : PySem.W.Hook where
  α := AlY
  obs := fun s => obsYG n fs fn s.heap.get?
  val := fun _ => valY fn
  says := fun _ h => ∃ K : PySem.W.Frag, K.In h ∧ SaysY fs fn K
  of := fun _ _ e => ⟨_, frG_in, e⟩
  keeps := fun _ _ _ ⟨K, hK, c⟩ k => ⟨K, PySem.W.Frag.In.keeps hK k, c⟩
theorem obsYG_eq {n : Nat} {fs : List (PySem.W.Frag → Bool)} {fn : List DefY} {g : Addr → Option Obj} {s : Shared} (h : ∀ a, g a = s.heap.get? a) : obsYG n fs fn g = (hookY n fs fn).obs s := by
  have e : g = s.heap.get? := funext h
  rw [e] <;> rfl
section
variable {fs : List (PySem.W.Frag → Bool)} {fn : List DefY} {K : PySem.W.Frag}
open He in
theorem SaysY.fact (c : SaysY fs fn K) (i : Nat) {f : PySem.W.Frag → Bool} (h : fs[i]? = some f := by with_unfolding_all rfl) : f K = true := by
  have c1 := (ba (show ((fs.all fun f => f K) && fn.all fun d => d.ok K) = true from congrArg (fun z : AlY => z.1) c)).1
  exact List.all_eq_true.mp c1 f (List.mem_of_getElem? h)
open He in
theorem SaysY.mem (c : SaysY fs fn K) {f : PySem.W.Frag → Bool} (h : f ∈ fs) : f K = true := by
  have c1 := (ba (show ((fs.all fun f => f K) && fn.all fun d => d.ok K) = true from congrArg (fun z : AlY => z.1) c)).1
  exact List.all_eq_true.mp c1 f h
open He in
theorem SaysY.def_ (c : SaysY fs fn K) (i : Nat) {d : DefY} (h : fn[i]? = some d := by with_unfolding_all rfl) (hcl : d.cells = [] := by rfl) : ∃ fd, FunD K d.name d.qual d.params d.body d.scope (d.dfl.map (Dv.v K)) [] (d.at_ K) fd := by
  have c2 := (ba (show ((fs.all fun f => f K) && fn.all fun d => d.ok K) = true from congrArg (fun z : AlY => z.1) c)).2
  have e : fn.map (fun d => fnY K (d.at_ K)) = fn.map DefY.val := congrArg (fun z : AlY => z.2) c
  have e2 : (fn.map fun d => fnY K (d.at_ K))[i]? = (fn.map DefY.val)[i]? := by rw [e]
  rw [List.getElem?_map, List.getElem?_map, h] at e2
  exact DefY.funD hcl (Option.some.inj e2) (List.all_eq_true.mp c2 d (List.mem_of_getElem? h))
end

section
variable {fs : List (PySem.W.Frag → Bool)} {fn : List DefY} {K : PySem.W.Frag}
open He in
theorem SaysY.defR (c : SaysY fs fn K) (i : Nat) {d : DefY} (h : fn[i]? = some d := by with_unfolding_all rfl) : fnY K (d.at_ K) = d.val ∧ d.ok K = true := by
  have c2 := (ba (show ((fs.all fun f => f K) && fn.all fun d => d.ok K) = true from congrArg (fun z : AlY => z.1) c)).2
  have e : fn.map (fun d => fnY K (d.at_ K)) = fn.map DefY.val := congrArg (fun z : AlY => z.2) c
  have e2 : (fn.map fun d => fnY K (d.at_ K))[i]? = (fn.map DefY.val)[i]? := by rw [e]
  rw [List.getElem?_map, List.getElem?_map, h] at e2
  exact ⟨Option.some.inj e2, List.all_eq_true.mp c2 d (List.mem_of_getElem? h)⟩
end

/-! ### facts of classes -/
open He in
/-- what a record of that kind (property, staticmethod, classmethod) at a class's name holds -/
def rcA (kind : String) (C m : Str) (K : PySem.W.Frag) : Addr := match PySem.W.recIn K (ma K (ga K C) m) kind with
  | some (.ref g :: _) => g
  | _ => 0
theorem rcA_ok {kind : String} {C m : Str} {K : PySem.W.Frag} (h : (match PySem.W.recIn K (He.ma K (He.ga K C) m) kind with | some (.ref _ :: _) => true | _ => false) = true) : ∃ rest, PySem.W.recIn K (He.ma K (He.ga K C) m) kind = some (.ref (rcA kind C m K) :: rest) := by
  unfold rcA
  split at h
  · rename_i g r q
    rw [q]
    exact ⟨r, rfl⟩
  · cases h
open He in
def propB (C f : Str) (K : PySem.W.Frag) : Bool := eqO (PySem.W.findIn K (.ref (ga K C)) f) (some (some (.ref (ma K (ga K C) f)))) && eqO (PySem.W.specialIn K (.ref (ma K (ga K C) f)) "__get__") (some (some (.builtin "property.__get__"))) &&
  decide (PySem.W.takesIn K (.ref (ma K (ga K C) f)) = some true) && (match PySem.W.recIn K (ma K (ga K C) f) "property" with | some (.ref _ :: _) => true | _ => false)
open He in
theorem propB_ok {C f : Str} {K : PySem.W.Frag} (h : propB C f K = true) : PropOf K (ga K C) f (ma K (ga K C) f) (rcA "property" C f K) := by
  obtain ⟨h1, h4⟩ := ba h
  obtain ⟨h1, h3⟩ := ba h1
  obtain ⟨h1, h2⟩ := ba h1
  exact ⟨eqO_ok h1, eqO_ok h2, of_decide_eq_true h3, rcA_ok h4⟩
open He in
def creadB (C : Str) (K : PySem.W.Frag) : Bool := PySem.W.readsIn K (ga K C) (.type "type") && eqO (PySem.W.specialIn K (.ref (ga K C)) "__getattribute__") (some (some (.builtin "type.__getattribute__")))
open He in
theorem creadB_ok {C : Str} {K : PySem.W.Frag} (h : creadB C K = true) : ClX.CRead K (ga K C) (.type "type") := by
  obtain ⟨h1, h2⟩ := ba h
  exact ⟨h1, eqO_ok h2⟩
open He in
def cvalB (C f : Str) (v : Dv) (K : PySem.W.Frag) : Bool := match PySem.W.findCls K (.ref (ga K C)) (.type "type") f with
  | some (.val u) => relB (v.v K) u
  | _ => false
open He in
theorem cvalB_ok {C f : Str} {v : Dv} {K : PySem.W.Frag} (h : cvalB C f v K = true) : ∃ u, ClX.CVal K (ga K C) (.type "type") f (v.v K) u := by
  unfold cvalB at h
  split at h
  · rename_i u q
    exact ⟨u, q, relB_ok h⟩
  · cases h
open He in
def getB (C m : Str) (kind : String) (g : String) (K : PySem.W.Frag) : Bool := (match PySem.W.findCls K (.ref (ga K C)) (.type "type") m with
  | some (.get (.builtin g') (.ref p) .none (.ref c)) => decide (g' = g) && decide (p = ma K (ga K C) m) && decide (c = ga K C)
  | _ => false) && (match PySem.W.recIn K (ma K (ga K C) m) kind with | some (.ref _ :: _) => true | _ => false)
open He in
theorem getB_ok {C m : Str} {kind g : String} {K : PySem.W.Frag} (h : getB C m kind g K = true) :
    PySem.W.findCls K (.ref (ga K C)) (.type "type") m = some (.get (.builtin g) (.ref (ma K (ga K C) m)) .none (.ref (ga K C))) ∧ ∃ rest, PySem.W.recIn K (ma K (ga K C) m) kind = some (.ref (rcA kind C m K) :: rest) := by
  obtain ⟨h1, h2⟩ := ba h
  refine ⟨?_, rcA_ok h2⟩
  split at h1
  · rename_i g' p c q
    obtain ⟨h1, e3⟩ := ba h1
    obtain ⟨e1, e2⟩ := ba h1
    rw [q, of_decide_eq_true e1, of_decide_eq_true e2, of_decide_eq_true e3]
  · cases h1
open He in
def fnInB (a : PySem.W.Frag → Addr) (K : PySem.W.Frag) : Bool := PySem.W.fnIn K (a K)
open He in
def keepB (a : PySem.W.Frag → Addr) (K : PySem.W.Frag) : Bool := PySem.W.keepIn K (.ref (a K))
open He in
/-- an instance of C, asked for its class -/
def tyB (C : Str) (K : PySem.W.Frag) : Bool := eqO (PySem.W.findIn K (.ref (ga K C)) "__class__") (some (some (.builtin "object.__class__"))) && eqO (PySem.W.specialIn K (.builtin "object.__class__") "__get__") (some (some (.builtin "getset_descriptor.__get__"))) &&
  decide (PySem.W.takesIn K (.builtin "object.__class__") = some true) && decide (PySem.W.mroIn K (ga K C) (.type "object") = some true)
open He in
theorem tyB_ok {C : Str} {K : PySem.W.Frag} (h : tyB C K = true) (cl : Cls K (ga K C)) {H : Hp} {a dx : Addr} {fs : List (Str × V)} (e : H a = some (.ins (ga K C) dx fs)) : TyX K H (.ref a) (.ref (ga K C)) := by
  obtain ⟨h1, h4⟩ := ba h
  obtain ⟨h1, h3⟩ := ba h1
  obtain ⟨h1, h2⟩ := ba h1
  exact .base (.ins e cl (eqO_ok h1) (eqO_ok h2) (of_decide_eq_true h3) (of_decide_eq_true h4))
open He in
/-- isinstance of what has the type t, by the class of the text -/
def kitC (t : PySem.W.Frag → Value) (C : Str) (b : Bool) (K : PySem.W.Frag) : Bool := decide (PySem.W.kitOne K (t K) (.ref (ga K C)) = some b)
open He in
def eqcB (C : Str) (K : PySem.W.Frag) : Bool := eqO (PySem.W.findIn K (.ref (ga K C)) "__eq__") (some (some (.ref (ma K (ga K C) "__eq__")))) && PySem.W.isFn K (.ref (ma K (ga K C) "__eq__")) && (match K.lookup (ga K C) with
  | some ⟨.type t, _, .cls cd, sl⟩ => (match sl.toList with | [_, _, _, _, some (.builtin _), _] => true | _ => false) && decide (t = "type") && decide (cd.mro = [.ref (ga K C), .type "object"]) && !cd.hasDel && (match K.lookup cd.ns with
    | some ⟨_, _, .dict es _, _⟩ => (es.toList.all fun e => match e.key with | .str _ _ => true | _ => false) && decide (nsFind es "__eq__" = some (.ref (ma K (ga K C) "__eq__"))) && decide (nsFind es "__ne__" = none)
    | _ => false)
  | _ => false) && (match K.lookup (ma K (ga K C) "__eq__") with
  | some ⟨.type t, _, _, _⟩ => decide (t = "function")
  | _ => false)
open He in
theorem eqcB_ok {C : Str} {K : PySem.W.Frag} (h : eqcB C K = true) : EqC K (ga K C) (ma K (ga K C) "__eq__") := by
  obtain ⟨h, h4⟩ := ba h
  obtain ⟨h, h3⟩ := ba h
  obtain ⟨h1, h2⟩ := ba h
  refine ⟨eqO_ok h1, h2, ?_⟩
  split at h3
  · rename_i t dd cd sl q
    obtain ⟨h3, h8⟩ := ba h3
    obtain ⟨h3, h7⟩ := ba h3
    obtain ⟨h3, h6⟩ := ba h3
    obtain ⟨h12, h5⟩ := ba h3
    obtain ⟨sl⟩ := sl
    split at h12
    case h_2 => cases h12
    rename_i k0 k1 k2 k3 nid k5 es
    have es' : sl = [k0, k1, k2, k3, some (.builtin nid), k5] := es
    subst es'
    split at h8
    · rename_i oc od es ep osl qn
      obtain ⟨h8, h11⟩ := ba h8
      obtain ⟨h9, h10⟩ := ba h8
      split at h4
      · rename_i t' od' dt' sl' qf
        refine ⟨cd.name, cd.qualname, cd.ns, cd.bases, cd.hasDict, cd.slotNames, cd.subclasses, cd.abstract, cd.collection, dd, k0, k1, k2, k3, k5, nid, _, es, ep, _, ?_, qn, rfl, ?_, of_decide_eq_true h10, of_decide_eq_true h11, qf, ?_⟩
        · rw [q]
          obtain ⟨n1, n2, n3, n4, n5, n6, n7, n8, n9, n10, n11⟩ := cd
          have e1 : n3 = [.ref (ga K C), .type "object"] := of_decide_eq_true h6
          have e2 : n11 = false := by
            have z : (!n11) = true := h7
            simpa using z
          have e3 : t = "type" := of_decide_eq_true h5
          subst e1 e2 e3
          rfl
        · intro e he
          have z := List.all_eq_true.mp h9 e (Array.mem_toList_iff.mpr he)
          split at z
          · rename_i n tk qk
            exact ⟨n, tk, qk⟩
          · cases z
        · exact congrArg Value.type (of_decide_eq_true h4)
      · cases h4
    · cases h8
  · cases h3
end Sv

namespace Sv
open PySem PySem.Spec PyProof.Rows L2

/-- the context of a def's body -/
abbrev cx (P : Program) (w : World) (K : PySem.W.Frag) (mg : Str → Option Value) (base : Heap) (N : List Str) (qual : Str) (sc : Scope) (f : Addr) (cd : Value) (A : Around) (outer : List Env) (s : Shared) (H : Hp) (E : XK) : Cx := cxOf (L2.CX P w) P w K mg base N qual sc f cd A outer s H E
section
variable {P : Program} {w : World} {K : PySem.W.Frag} {mg : Str → Option Value} {base : Heap} {N ps L G B : List Str} {k : Nat} {x qual : Str} {params : Arguments} {body : List Stmt} {sc : Scope} {f : Addr} {fd : FuncData} {sp : Sp}
theorem takes_cx {cd : Value} {A : Around} {outer : List Env} {s : Shared} {H : Hp} {E : XK} : Takes (cx P w K mg base N qual sc f cd A outer s H E) (fun cls d _ H' => E cls d H') := takes_of rfl rfl rfl rfl
theorem owns_cx {cd : Value} {A : Around} {outer : List Env} {s : Shared} {H : Hp} {E : XK} : PassesOwn (model P w) (cx P w K mg base N qual sc f cd A outer s H E).A (cx P w K mg base N qual sc f cd A outer s H E).env (cx P w K mg base N qual sc f cd A outer s H E).xe := passes_of (X := cx P w K mg base N qual sc f cd A outer s H E) rfl
/-- THE RULE for a def without defaults -/
theorem fnr_of (F : FunD K x qual params body sc [] [] f fd) (S : scB N ps L G B sc = true) (len : ∀ vs H Q E, sp vs H Q E → vs.length = ps.length)
    (hbind : ∀ (kV doc pm : Value) (an : Option Addr) (cdv ct : Value) (us : List Value), us.length = ps.length → bindArgs (PySem.W.fnOf x qual params body sc .none kV doc pm an cdv ct) ⟨us, []⟩ = pure (ps.zip us))
    (hb : ∀ x ∈ B, mg x = none)
    (hbody : ∀ (cd : Value) (A : Around) (outer : List Env) (s : Shared) (H : Hp) (vs : List V) (Q : VK) (E : XK), Room k (cx P w K mg base N qual sc f cd A outer s H E).A → Nm (cx P w K mg base N qual sc f cd A outer s H E) N L L G B → sp vs H Q E →
      WL (cx P w K mg base N qual sc f cd A outer s H E) body { nx := fun _ H' => Q .non H', rt := Q } (start N vs) H) : FnR P w K mg base (L2.CX P w) (k + 1) f sp := by
  have S' := (scB_ok S).1
  have G := F.ok (P := P) (w := w) (mg := mg) (base := base) (CX := L2.CX P w) (k := k) (sp := sp) S' len fun cdv A outer s H vs Q E hr h => ⟨WL (cx P w K mg base N qual sc f cdv A outer s H E) body, pss_w, hbody cdv A outer s H vs Q E hr (nm_of S hb) h⟩
  have R := G.raw (F.bindsN hbind) (dvs := []) .nil
  exact R.imp fun vs H Q E h => by rw [List.append_nil]; exact h
/-- THE RULE for a def with defaults dvs behind n parameters: the promise is of all parameters; called with n + j of them -/
theorem fnr_ofD {dvs : List V} (F : FunD K x qual params body sc dvs [] f fd) (S : scB N ps L G B sc = true) (len : ∀ vs H Q E, sp vs H Q E → vs.length = ps.length)
    (hb : ∀ x ∈ B, mg x = none)
    (hbody : ∀ (cd : Value) (A : Around) (outer : List Env) (s : Shared) (H : Hp) (vs : List V) (Q : VK) (E : XK), Room k (cx P w K mg base N qual sc f cd A outer s H E).A → Nm (cx P w K mg base N qual sc f cd A outer s H E) N L L G B → sp vs H Q E →
      WL (cx P w K mg base N qual sc f cd A outer s H E) body { nx := fun _ H' => Q .non H', rt := Q } (start N vs) H) : FnOk P w K mg base (L2.CX P w) (k + 1) f fd ps sp :=
  F.ok (P := P) (w := w) (mg := mg) (base := base) (CX := L2.CX P w) (k := k) (sp := sp) (scB_ok S).1 len fun cdv A outer s H vs Q E hr h => ⟨WL (cx P w K mg base N qual sc f cdv A outer s H E) body, pss_w, hbody cdv A outer s H vs Q E hr (nm_of S hb) h⟩
/-- THE RULE for a def with a star parameter -/
theorem fnr_star {pv : Str} (F : FunD K x qual params body sc [] [] f fd) (S : scB N (ps ++ [pv]) L G B sc = true)
    (hbind : ∀ (kV doc pm : Value) (an : Option Addr) (cdv ct : Value) (us rest : List Value), us.length = ps.length → bindArgs (PySem.W.fnOf x qual params body sc .none kV doc pm an cdv ct) ⟨us ++ rest, []⟩ = (newTuple rest >>= fun t => pure (ps.zip us ++ [(pv, t)])))
    (hb : ∀ x ∈ B, mg x = none)
    (hbody : ∀ (cd : Value) (A : Around) (outer : List Env) (s : Shared) (H : Hp) (vs : List V) (Q : VK) (E : XK), Room k (cx P w K mg base N qual sc f cd A outer s H E).A → Nm (cx P w K mg base N qual sc f cd A outer s H E) N L L G B → sp vs H Q E →
      WL (cx P w K mg base N qual sc f cd A outer s H E) body { nx := fun _ H' => Q .non H', rt := Q } (start N vs) H) :
    FnR P w K mg base (L2.CX P w) (k + 1) f (fun vs H Q E => ∃ ws rest, vs = ws ++ rest ∧ ws.length = ps.length ∧ rest.length ≤ sizeLine ∧ ∀ p, H p = Option.none → sp (ws ++ [V.ref p]) (upd H p (.tup rest)) Q E) := by
  obtain ⟨oc, od, dV, kV, doc, pm, an, cdv, ct, osl, rfl, lk, hcd, hD, _⟩ := F.ex
  have eD : dV = .none := by
    rcases hD with ⟨_, e⟩ | ⟨e, _⟩
    · exact e
    · exact absurd rfl e
  subst eD
  exact StX.fn_star lk hcd (scB_ok S).1 StX.cxUp (hbind kV doc pm an cdv ct) fun A outer s H vs Q E hr hsp => ⟨WL (cx P w K mg base N qual sc f cdv A outer s H E) body, pss_w, hbody cdv A outer s H vs Q E hr (nm_of S hb) hsp⟩
end

/-! ### a list of two numbers that are drawn from: what stands there is not told -/
def poolP (p : Addr) (h : Heap) : Prop := ∃ (i j : Int) (t u : Tok) (n : Nat), 0 ≤ i ∧ 0 ≤ j ∧ h.get? p = some { cls := .type "list", data := .seq #[.int i t, .int j u] n }
def pool (p : Addr) : HO := .ext (poolP p)
/-- the same state, told otherwise -/
def Abs (H H' : Hp) : Prop := ∀ (X : Cx) (pins : List (Addr × Obj)) (σ : L2.St) (s : Shared), Inv X pins σ H s → Inv X pins σ H' s
def plainHO : HO → Bool
  | .lst _ => true
  | .ext _ => true
  | _ => false
theorem swap_ho {X : Cx} {pins : List (Addr × Obj)} {σ : L2.St} {H : Hp} {s : Shared} {p : Addr} {o o' : HO} (I : Inv X pins σ H s) (h : H p = some o) (ho : plainHO o = true) (new : ObjOk X.prog X.w (upd H p o') s.heap p o') : Inv X pins σ (upd H p o') s := by
  have ne : ∀ b u, H b = some u → plainHO u = false → b ≠ p := fun b u e z q => by
    rw [q, h] at e
    cases e
    rw [ho] at z
    cases z
  have nn : ∀ b, H b = none → b ≠ p := fun b e q => by
    rw [q, h] at e
    cases e
  refine ⟨I.ok, I.os, I.bare, ⟨I.base.keep, I.base.slot, fun b ob e n hx => ?_, I.base.there, fun b xs e => ?_, fun b ob u e => ?_, fun b ps e => ?_⟩, I.loc, I.cell, ?_, fun x c e => ?_, fun q hq => ?_, fun a u e => ?_, I.len⟩
  · have z := I.base.free b ob e n hx
    rw [upd_ne (nn b z)]; exact z
  · have z := I.base.tups b xs e
    rw [upd_ne (ne b _ z rfl)]; exact z
  · have z := I.base.frzs b ob u e
    rw [upd_ne (ne b _ z rfl)]; exact z
  · obtain ⟨more, z⟩ := I.base.tbls b ps e
    exact ⟨more, by rw [upd_ne (ne b _ z rfl)]; exact z⟩
  · rw [upd_ne (nn _ I.free)]; exact I.free
  · rw [upd_ne (nn _ (I.freeC x c e))]; exact I.freeC x c e
  · obtain ⟨a1, a2, a3, a4, a5⟩ := I.pin q hq
    exact ⟨a1, by rw [upd_ne (nn _ a2)]; exact a2, a3, a4, a5⟩
  · by_cases z : a = p
    · subst z
      rw [upd_same] at e
      cases e
      exact new
    · rw [upd_ne z] at e
      exact (I.hok a u e).stay (fun b ob _ q => q) (fun b q => by rw [upd_ne (ne b _ q rfl)]; exact q) fun b xs q => by rw [upd_ne (ne b _ q rfl)]; exact q
theorem vals_ii {i j : Int} {us : List Value} (r : Vals [V.int i, V.int j] us) : ∃ t u, us = [.int i t, .int j u] := r.int2
theorem pool_abs {H : Hp} {p : Addr} {i j : Int} (h : H p = some (.lst [.int i, .int j])) (hi : 0 ≤ i) (hj : 0 ≤ j) : Abs H (upd H p (pool p)) := fun X pins σ s I => by
  obtain ⟨_, its, n, rv, e⟩ := (show ObjOk X.prog X.w H s.heap p (.lst [.int i, .int j]) from I.hok p _ h)
  obtain ⟨t, u, rfl⟩ := vals_ii rv
  exact swap_ho I h rfl ⟨⟨i, j, t, u, n, hi, hj, e⟩, ⟨_, e⟩, fun h1 h2 ⟨i, j, t, u, n, a, b, e⟩ k => ⟨i, j, t, u, n, a, b, k _ e⟩⟩
theorem pool_open {X : Cx} {pins : List (Addr × Obj)} {σ : L2.St} {H : Hp} {s : Shared} {p : Addr} (I : Inv X pins σ H s) (h : H p = some (pool p)) : ∃ i j, 0 ≤ i ∧ 0 ≤ j ∧ Inv X pins σ (upd H p (.lst [.int i, .int j])) s := by
  obtain ⟨⟨i, j, t, u, n, hi, hj, e⟩, _, _⟩ := (show ObjOk X.prog X.w H s.heap p (pool p) from I.hok p _ h)
  exact ⟨i, j, hi, hj, swap_ho I h rfl ⟨by show 2 ≤ sizeLine; decide, [.int i t, .int j u], n, .cons ⟨_, rfl⟩ (.cons ⟨_, rfl⟩ .nil), e⟩⟩
section
variable {X : Cx} {sts : List Stmt} {e : Expr} {σ : L2.St} {H : Hp} {D : Ends} {Q : VK} {p : Addr}
theorem wl_pool (h : H p = some (pool p)) (q : ∀ i j, 0 ≤ i → 0 ≤ j → WL X sts D σ (upd H p (.lst [.int i, .int j]))) : WL X sts D σ H := ⟨fun pins s I => by
  obtain ⟨i, j, hi, hj, I'⟩ := pool_open I h
  exact (q i j hi hj).run pins s I'⟩
theorem we_abs (h : WE X e σ H fun v H1 => ∃ H2, Abs H1 H2 ∧ Q v H2) : WE X e σ H Q := ⟨fun pins s I => thn (h.run pins s I) fun u s' ⟨v, H1, I1, r, H2, a, q⟩ => ⟨v, H2, a X pins σ s' I1, r, q⟩⟩
theorem wl_abs {H' : Hp} (a : Abs H H') (h : WL X sts D σ H') : WL X sts D σ H := ⟨fun pins s I => h.run pins s (a X pins σ s I)⟩
end
/-- back to what stood: p told as a pool again -/
theorem pool_back {H : Hp} {p : Addr} {o : HO} (h : H p = some (pool p)) : upd (upd H p o) p (pool p) = H := by
  rw [upd_upd]
  funext b
  by_cases z : b = p
  · subst z; rw [upd_same, h]
  · rw [upd_ne z]
end Sv

namespace Sv
open PySem PySem.Spec PyProof.Rows L2

/-! ### patterns as lists of marks -/
def sgn (b : Bool) : Nat := if b then 43 else 45
def sOf (l : List Bool) : Str := ⟨(l.map sgn).toArray⟩
def kp (l : List Bool) (n : Nat) : Bool := l.getD (n % l.length) false
/-- how many below n -/
def ct (f : Nat → Bool) : Nat → Nat
  | 0 => 0
  | n + 1 => ct f n + if f n then 1 else 0
def marks (l : List Bool) : List Nat := (List.range l.length).filter fun i => l.getD i false
def Prim (l : List Bool) : Prop := ∀ d, 0 < d → d < l.length → d ∣ l.length → ¬ ∀ i, kp l (i + d) = kp l i
structure Pat (l : List Bool) : Prop where
  one : 0 < l.length
  most : l.length ≤ 10000
  plus : true ∈ l
structure Good (l : List Bool) : Prop extends Pat l where
  prim : Prim l
theorem sgn_inj {a b : Bool} (h : sgn a = sgn b) : a = b := by
  cases a <;> cases b <;> first | rfl | (exact absurd h (by decide))
theorem sOf_len (l : List Bool) : (sOf l).length = l.length := by
  show ((l.map sgn).toArray).size = l.length
  simp
theorem sOf_list (l : List Bool) : (sOf l).cps.toList = l.map sgn := by
  show ((l.map sgn).toArray).toList = _
  simp
theorem sOf_inj {l m : List Bool} (h : sOf l = sOf m) : l = m := by
  have e : l.map sgn = m.map sgn := by rw [← sOf_list, ← sOf_list, h]
  exact List.map_inj_right (fun _ _ => sgn_inj) |>.mp e
theorem sOf_eq {l m : List Bool} : sOf l = sOf m ↔ l = m := ⟨sOf_inj, fun h => by rw [h]⟩
theorem sOf_app (l m : List Bool) : sOf l ++ sOf m = sOf (l ++ m) := by
  show (⟨(l.map sgn).toArray ++ (m.map sgn).toArray⟩ : Str) = ⟨((l ++ m).map sgn).toArray⟩
  simp
theorem str_ext {x y : Str} (h : x.cps.toList = y.cps.toList) : x = y := by
  obtain ⟨a⟩ := x
  obtain ⟨b⟩ := y
  exact congrArg Str.mk (Array.toList_inj.mp h)
theorem mem_plus {l : List Bool} : (43 ∈ l.map sgn) ↔ true ∈ l := by
  constructor
  · intro h
    obtain ⟨b, hb, e⟩ := List.mem_map.mp h
    cases b with
    | true => exact hb
    | false => exact absurd e (by decide)
  · intro h
    exact List.mem_map.mpr ⟨true, h, rfl⟩
theorem sgn_dec (b : Bool) : decide (sgn b = 43) = b := by cases b <;> rfl

/-! ### periodic predicates -/
/-- d is a period of f -/
def Per (f : Nat → Bool) (d : Nat) : Prop := ∀ i, f (i + d) = f i
theorem Per.mul {f : Nat → Bool} {d : Nat} (h : Per f d) : ∀ q i, f (i + q * d) = f i
  | 0, i => by simp
  | q + 1, i => by rw [Nat.succ_mul, ← Nat.add_assoc, h, h.mul q i]
theorem Per.times {f : Nat → Bool} {d : Nat} (h : Per f d) (q : Nat) : Per f (q * d) := fun i => h.mul q i
theorem Per.dvd {f : Nat → Bool} {d e : Nat} (h : Per f d) (k : d ∣ e) : Per f e := by
  obtain ⟨q, rfl⟩ := k
  rw [Nat.mul_comm]
  exact h.times q
theorem Per.mod {f : Nat → Bool} {d : Nat} (h : Per f d) (i : Nat) : f (i % d) = f i := by
  have := h.mul (i / d) (i % d)
  rw [← this, Nat.mul_comm, Nat.mod_add_div]
theorem Per.sub {f : Nat → Bool} {a b : Nat} (ha : Per f a) (hb : Per f b) (h : b ≤ a) : Per f (a - b) := fun i => by
  have e : i + (a - b) + b = i + a := by omega
  rw [← hb (i + (a - b)), e, ha]
theorem Per.gcd {f : Nat → Bool} {a b : Nat} (ha : Per f a) (hb : Per f b) : Per f (Nat.gcd a b) := by
  induction a, b using Nat.gcd.induction with
  | H0 n => rw [Nat.gcd_zero_left]; exact hb
  | H1 m n _ ih =>
    rw [Nat.gcd_rec]
    refine ih ?_ ha
    intro i
    have e : n % m + n / m * m = n := by rw [Nat.mul_comm]; exact Nat.mod_add_div n m
    rw [← ha.mul (n / m) (i + n % m), Nat.add_assoc, e, hb]
theorem kp_per (l : List Bool) : Per (kp l) l.length := fun i => by
  unfold kp
  rw [Nat.add_mod_right]
theorem kp_lt {l : List Bool} {i : Nat} (h : i < l.length) : kp l i = l[i] := by
  unfold kp
  rw [Nat.mod_eq_of_lt h, List.getD_eq_getElem?_getD, List.getElem?_eq_getElem h]
  rfl
theorem kp_ext {l m : List Bool} (hl : l.length = m.length) (h : ∀ i, i < l.length → kp l i = kp m i) : l = m := by
  apply List.ext_getElem hl
  intro i h1 h2
  rw [← kp_lt h1, ← kp_lt h2, h i h1]
/-- the list of a predicate's first n -/
def lof (f : Nat → Bool) (n : Nat) : List Bool := (List.range n).map f
theorem lof_len (f : Nat → Bool) (n : Nat) : (lof f n).length = n := by simp [lof]
theorem kp_lof {f : Nat → Bool} {n : Nat} (h : Per f n) (h0 : 0 < n) (i : Nat) : kp (lof f n) i = f i := by
  unfold kp
  rw [lof_len, List.getD_eq_getElem?_getD]
  have hi : i % n < n := Nat.mod_lt _ h0
  simp [lof, hi]
  exact h.mod i
theorem lof_kp (l : List Bool) : lof (kp l) l.length = l := by
  apply kp_ext (lof_len _ _)
  intro i h
  by_cases h0 : 0 < l.length
  · exact kp_lof (kp_per l) h0 i
  · rw [lof_len] at h; omega
theorem Good.period {l : List Bool} (g : Good l) {d : Nat} (h0 : 0 < d) (h : Per (kp l) d) : l.length ∣ d := by
  have hg := (kp_per l).gcd h
  have h1 : Nat.gcd l.length d ∣ l.length := Nat.gcd_dvd_left _ _
  have h2 : Nat.gcd l.length d ≤ l.length := Nat.le_of_dvd g.one h1
  have h3 : 0 < Nat.gcd l.length d := Nat.gcd_pos_of_pos_left _ g.one
  by_cases e : Nat.gcd l.length d = l.length
  · rw [← e]; exact Nat.gcd_dvd_right _ _
  · exact absurd hg (g.prim _ h3 (by omega) h1)
theorem Good.uniq {l m : List Bool} (g : Good l) (k : Good m) (h : ∀ n, kp l n = kp m n) : l = m := by
  have e1 : l.length ∣ m.length := g.period k.one (fun i => by rw [h, h]; exact kp_per m i)
  have e2 : m.length ∣ l.length := k.period g.one (fun i => by rw [← h, ← h]; exact kp_per l i)
  exact kp_ext (Nat.dvd_antisymm e1 e2) fun i _ => h i
theorem plus_kp {l : List Bool} (h : true ∈ l) : ∃ i, i < l.length ∧ kp l i = true := by
  obtain ⟨i, hi, e⟩ := List.getElem_of_mem h
  exact ⟨i, hi, by rw [kp_lt hi, e]⟩
theorem kp_plus {l : List Bool} (h0 : 0 < l.length) {i : Nat} (h : kp l i = true) : true ∈ l := by
  have hi : i % l.length < l.length := Nat.mod_lt _ h0
  have e : kp l (i % l.length) = true := by rw [(kp_per l).mod]; exact h
  rw [kp_lt hi] at e
  rw [← e]
  exact List.getElem_mem hi

/-! ### the least pattern -/
/-- d cuts l into equal parts -/
def Cuts (l : List Bool) (d : Nat) : Prop := d ∣ l.length ∧ Per (kp l) d
theorem take_kp {l : List Bool} {d : Nat} (h0 : 0 < d) (hd : d ≤ l.length) (h : Per (kp l) d) (i : Nat) : kp (l.take d) i = kp l i := by
  have e : (l.take d).length = d := by rw [List.length_take]; omega
  have hi : i % d < d := Nat.mod_lt _ h0
  have : kp (l.take d) i = kp l (i % d) := by
    have e1 : kp (l.take d) i = kp (l.take d) (i % d) := by
      have := ((kp_per (l.take d)).mod i)
      rw [e] at this
      exact this.symm
    rw [e1, kp_lt (by rw [e]; exact hi), kp_lt (by omega), List.getElem_take]
  rw [this, h.mod]
theorem rep_getD {xs : List Bool} {k i : Nat} (h : i < k * xs.length) : ((List.replicate k xs).flatten).getD i false = xs.getD (i % xs.length) false := by
  induction k generalizing i with
  | zero => simp at h
  | succ k ih =>
    rw [List.replicate_succ, List.flatten_cons, List.getD_eq_getElem?_getD]
    by_cases hi : i < xs.length
    · rw [List.getElem?_append_left hi, Nat.mod_eq_of_lt hi, List.getD_eq_getElem?_getD]
    · rw [List.getElem?_append_right (by omega), ← List.getD_eq_getElem?_getD, ih (by rw [Nat.succ_mul] at h; omega)]
      rw [← Nat.mod_eq_sub_mod (by omega)]
theorem rep_len (k : Nat) (xs : List Bool) : ((List.replicate k xs).flatten).length = k * xs.length := by simp
theorem cuts_iff {l : List Bool} {d : Nat} (h0 : 0 < d) (hd : d ≤ l.length) (hm : l.length % d = 0) : l = (List.replicate (l.length / d) (l.take d)).flatten ↔ Per (kp l) d := by
  have et : (l.take d).length = d := by rw [List.length_take]; omega
  have el : l.length / d * d = l.length := Nat.div_mul_cancel (Nat.dvd_of_mod_eq_zero hm)
  have elen : ((List.replicate (l.length / d) (l.take d)).flatten).length = l.length := by rw [rep_len, et, el]
  have key : ∀ i, i < l.length → kp ((List.replicate (l.length / d) (l.take d)).flatten) i = (l.take d).getD (i % d) false := fun i hi => by
    unfold kp
    rw [elen, Nat.mod_eq_of_lt hi, rep_getD (by rw [et, el]; exact hi), et]
  constructor
  · intro e i
    have z : ∀ j, kp l j = (l.take d).getD (j % d) false := fun j => by
      have hj : j % l.length < l.length := Nat.mod_lt _ (by omega)
      rw [← (kp_per l).mod j]
      have := key _ hj
      rw [← e] at this
      rw [this]
      congr 1
      exact Nat.mod_mod_of_dvd j (Nat.dvd_of_mod_eq_zero hm)
    rw [z, z, Nat.add_mod_right]
  · intro h
    apply kp_ext elen.symm
    intro i hi
    rw [key i hi]
    rw [← take_kp h0 hd h i]
    unfold kp
    rw [et]
theorem least_good {l : List Bool} {d : Nat} (p : Pat l) (h0 : 0 < d) (hd : d ≤ l.length) (hc : Cuts l d) (hn : ∀ e, 0 < e → e < d → ¬ Cuts l e) : Good (l.take d) ∧ (∀ n, kp (l.take d) n = kp l n) ∧ (l.take d).length ∣ l.length := by
  have et : (l.take d).length = d := by rw [List.length_take]; omega
  have hk := take_kp h0 hd hc.2
  refine ⟨⟨⟨by rw [et]; exact h0, by rw [et]; have := p.most; omega, ?_⟩, ?_⟩, hk, by rw [et]; exact hc.1⟩
  · obtain ⟨i, _, e⟩ := plus_kp p.plus
    exact kp_plus (by rw [et]; exact h0) (by rw [hk]; exact e)
  · intro e h1 h2 h3 h4
    rw [et] at h2 h3
    exact hn e h1 h2 ⟨Nat.dvd_trans h3 hc.1, fun i => by rw [← hk, ← hk]; exact h4 i⟩

/-! ### counting -/
theorem ct_le (f : Nat → Bool) (n : Nat) : ct f n ≤ n := by
  induction n with
  | zero => exact Nat.le_refl _
  | succ n ih => rw [ct]; split <;> omega
theorem ct_mono (f : Nat → Bool) {a b : Nat} (h : a ≤ b) : ct f a ≤ ct f b := by
  induction h with
  | refl => exact Nat.le_refl _
  | step _ ih => rw [ct]; omega
theorem ct_succ (f : Nat → Bool) (n : Nat) : ct f (n + 1) = ct f n + if f n then 1 else 0 := rfl
theorem ct_succ_t {f : Nat → Bool} {n : Nat} (h : f n = true) : ct f (n + 1) = ct f n + 1 := by rw [ct, h]; rfl
theorem ct_succ_f {f : Nat → Bool} {n : Nat} (h : f n = false) : ct f (n + 1) = ct f n := by rw [ct, h]; rfl
theorem ct_add {f : Nat → Bool} {p : Nat} (h : Per f p) (r : Nat) : ct f (p + r) = ct f p + ct f r := by
  induction r with
  | zero => rfl
  | succ r ih => rw [← Nat.add_assoc, ct, ct, ih, Nat.add_comm p r, h]; omega
theorem ct_mul {f : Nat → Bool} {p : Nat} (h : Per f p) (q r : Nat) : ct f (q * p + r) = q * ct f p + ct f r := by
  induction q with
  | zero => simp
  | succ q ih =>
    have e : (q + 1) * p + r = p + (q * p + r) := by rw [Nat.succ_mul]; omega
    rw [e, ct_add h, ih, Nat.succ_mul]; omega
theorem ct_mod {f : Nat → Bool} {p : Nat} (h : Per f p) (n : Nat) : ct f n = n / p * ct f p + ct f (n % p) := by
  rw [← ct_mul h, Nat.mul_comm, Nat.div_add_mod]
theorem ct_congr {f g : Nat → Bool} {n : Nat} (h : ∀ i, i < n → f i = g i) : ct f n = ct g n := by
  induction n with
  | zero => rfl
  | succ n ih => rw [ct, ct, ih (fun i hi => h i (by omega)), h n (by omega)]
/-- strictly: two kept numbers with one count are one -/
theorem ct_inj {f : Nat → Bool} {a b : Nat} (ha : f a = true) (hb : f b = true) (h : ct f a = ct f b) : a = b := by
  rcases Nat.lt_trichotomy a b with l | l | l
  · have := ct_mono f (show a + 1 ≤ b from l)
    rw [ct_succ_t ha] at this; omega
  · exact l
  · have := ct_mono f (show b + 1 ≤ a from l)
    rw [ct_succ_t hb] at this; omega
theorem ct_lt {f : Nat → Bool} {a b : Nat} (ha : f a = true) (h : a < b) : ct f a < ct f b := by
  have := ct_mono f (show a + 1 ≤ b from h)
  rw [ct_succ_t ha] at this; omega
theorem ct_lof (f : Nat → Bool) (n : Nat) : ((List.range n).filter f).length = ct f n := by
  induction n with
  | zero => rfl
  | succ n ih =>
    rw [List.range_succ, List.filter_append, List.length_append, ih, ct]
    cases h : f n <;> simp [h]
/-- the k-th below n -/
theorem filter_range {f : Nat → Bool} {n k : Nat} (h : k < ct f n) : ∃ m, ((List.range n).filter f)[k]? = some m ∧ m < n ∧ f m = true ∧ ct f m = k := by
  induction n with
  | zero => simp [ct] at h
  | succ n ih =>
    rw [List.range_succ, List.filter_append]
    by_cases hk : k < ct f n
    · obtain ⟨m, e, h1, h2, h3⟩ := ih hk
      exact ⟨m, by rw [List.getElem?_append_left (by rw [ct_lof]; exact hk)]; exact e, by omega, h2, h3⟩
    · cases hf : f n with
      | false => rw [ct_succ_f hf] at h; exact absurd h hk
      | true =>
        rw [ct_succ_t hf] at h
        have ek : k = ct f n := by omega
        refine ⟨n, ?_, by omega, hf, ek.symm⟩
        rw [List.getElem?_append_right (by rw [ct_lof]; omega), ct_lof, ek]
        simp [hf]
/-- sieves with something have an element of each index -/
theorem ct_pos {f : Nat → Bool} {p : Nat} (h : ∃ i, i < p ∧ f i = true) : 0 < ct f p := by
  obtain ⟨i, hi, e⟩ := h
  have := ct_lt e hi
  omega
theorem nth_ex {f : Nat → Bool} {p : Nat} (h : Per f p) (hp : 0 < ct f p) (i : Nat) : ∃ n, f n = true ∧ ct f n = i ∧ n / p = i / ct f p ∧ ct f (n % p) = i % ct f p ∧ n % p < p := by
  have hr : i % ct f p < ct f p := Nat.mod_lt _ hp
  obtain ⟨m, _, h1, h2, h3⟩ := filter_range hr
  have p0 : 0 < p := by omega
  refine ⟨i / ct f p * p + m, by rw [Nat.add_comm, h.mul]; exact h2, by rw [ct_mul h, h3, Nat.mul_comm, Nat.div_add_mod], ?_, ?_, Nat.mod_lt _ p0⟩
  · rw [Nat.mul_comm, Nat.mul_add_div p0, Nat.div_eq_of_lt h1, Nat.add_zero]
  · rw [Nat.mul_comm, Nat.mul_add_mod, Nat.mod_eq_of_lt h1, h3]
theorem marks_eq (l : List Bool) : marks l = (List.range l.length).filter (kp l) := by
  unfold marks
  apply List.filter_congr
  intro i hi
  have := List.mem_range.mp hi
  rw [kp_lt this, List.getD_eq_getElem?_getD, List.getElem?_eq_getElem this]; rfl
theorem marks_step {m : List Bool} {i : Nat} (h : i < m.length) : (List.range (i + 1)).filter (fun i => m.getD i false) = (List.range i).filter (fun i => m.getD i false) ++ if m[i] then [i] else [] := by
  rw [List.range_succ, List.filter_append]
  congr 1
  cases e : m[i] <;> simp [List.getElem?_eq_getElem h, e]
theorem marks_len (l : List Bool) : (marks l).length = ct (kp l) l.length := by rw [marks_eq, ct_lof]
theorem Pat.size {l : List Bool} (p : Pat l) : 0 < ct (kp l) l.length := ct_pos (plus_kp p.plus)
/-! ### composition -/
/-- what the second keeps of what the first keeps -/
def cmp (f g : Nat → Bool) (n : Nat) : Bool := f n && g (ct f n)
theorem ct_cmp (f g : Nat → Bool) (n : Nat) : ct (cmp f g) n = ct g (ct f n) := by
  induction n with
  | zero => rfl
  | succ n ih =>
    cases h : f n with
    | false => rw [ct_succ_f h, ← ih, ct_succ_f (by unfold cmp; rw [h]; rfl)]
    | true =>
      rw [ct_succ_t h]
      cases h2 : g (ct f n) with
      | false => rw [ct_succ_f h2, ← ih, ct_succ_f (by unfold cmp; rw [h, h2]; rfl)]
      | true => rw [ct_succ_t h2, ← ih, ct_succ_t (by unfold cmp; rw [h, h2]; rfl)]
theorem cmp_assoc (f g h : Nat → Bool) (n : Nat) : cmp (cmp f g) h n = cmp f (cmp g h) n := by
  show (cmp f g n && h (ct (cmp f g) n)) = (f n && (g (ct f n) && h (ct g (ct f n))))
  rw [ct_cmp]
  unfold cmp
  rw [Bool.and_assoc]
/-- lengths: p1 numbers of which s1 are kept; L is a multiple of s1 and of p2 -/
theorem cmp_per {f g : Nat → Bool} {p1 p2 L : Nat} (hf : Per f p1) (hg : Per g p2) (hs : 0 < ct f p1) (h1 : ct f p1 ∣ L) (h2 : p2 ∣ L) : Per (cmp f g) (p1 * (L / ct f p1)) := by
  intro n
  have e1 : Per f (p1 * (L / ct f p1)) := hf.dvd (Nat.dvd_mul_right _ _)
  have e2 : ct f (n + p1 * (L / ct f p1)) = ct f n + L := by
    have := ct_mul hf (L / ct f p1) n
    rw [Nat.mul_comm p1, Nat.add_comm n, this, Nat.div_mul_cancel h1, Nat.add_comm]
  show (f (n + _) && g (ct f (n + _))) = (f n && g (ct f n))
  rw [e1, e2, hg.dvd h2]
theorem ct_top {f : Nat → Bool} {p1 L : Nat} (hf : Per f p1) (h1 : ct f p1 ∣ L) : ct f (p1 * (L / ct f p1)) = L := by
  have := ct_mul hf (L / ct f p1) 0
  rw [Nat.add_zero] at this
  rw [Nat.mul_comm, this]
  show L / ct f p1 * ct f p1 + 0 = L
  rw [Nat.add_zero, Nat.div_mul_cancel h1]
/-- a number with f of each count -/
theorem nth_of {f : Nat → Bool} {p : Nat} (h : Per f p) (hp : 0 < ct f p) (i : Nat) : ∃ n, f n = true ∧ ct f n = i := by
  obtain ⟨n, a, b, _⟩ := nth_ex h hp i
  exact ⟨n, a, b⟩
theorem cmp_ex {f g : Nat → Bool} {p : Nat} (h : Per f p) (hp : 0 < ct f p) (hg : ∃ i, g i = true) : ∃ n, cmp f g n = true := by
  obtain ⟨i, hi⟩ := hg
  obtain ⟨n, a, b⟩ := nth_of h hp i
  exact ⟨n, by unfold cmp; rw [a, b, hi]; rfl⟩
/-- how many the composition keeps -/
theorem cmp_size {f g : Nat → Bool} {p1 p2 L : Nat} (hf : Per f p1) (hg : Per g p2) (h1 : ct f p1 ∣ L) (h2 : p2 ∣ L) : ct (cmp f g) (p1 * (L / ct f p1)) = L / p2 * ct g p2 := by
  rw [ct_cmp, ct_top hf h1]
  obtain ⟨q, rfl⟩ := h2
  have := ct_mul hg q 0
  rw [Nat.add_zero, Nat.mul_comm q] at this
  by_cases hp : 0 < p2
  · rw [this, Nat.mul_div_cancel_left q hp]; rfl
  · have : p2 = 0 := by omega
    subst this
    simp [ct]
/-! ### densities -/
theorem per_ratio {f : Nat → Bool} {a b : Nat} (ha : Per f a) (hb : Per f b) : ct f a * b = ct f b * a := by
  have e1 := ct_mul ha b 0
  have e2 := ct_mul hb a 0
  rw [Nat.add_zero] at e1 e2
  rw [Nat.mul_comm b a] at e1
  rw [e1] at e2
  have e3 : b * ct f a = a * ct f b := by simpa [ct] using e2
  rw [Nat.mul_comm, e3, Nat.mul_comm]
/-- the density of a composition is the product -/
theorem cmp_dens {f g : Nat → Bool} {p1 p2 p3 : Nat} (hf : Per f p1) (hg : Per g p2) (h3 : Per (cmp f g) p3) (hs : 0 < ct f p1) (h2 : 0 < p2) (h0 : 0 < p1) : ct f p1 * ct g p2 * p3 = p1 * p2 * ct (cmp f g) p3 := by
  -- over p1 * p2 numbers
  have hL1 : ct f p1 ∣ ct f p1 * p2 := Nat.dvd_mul_right _ _
  have hL2 : p2 ∣ ct f p1 * p2 := Nat.dvd_mul_left _ _
  have hP := cmp_per hf hg hs hL1 hL2
  have hS := cmp_size hf hg hL1 hL2
  rw [Nat.mul_div_cancel_left p2 hs] at hP hS
  rw [Nat.mul_div_cancel _ h2] at hS
  have e := per_ratio hP h3
  rw [hS] at e
  rw [e, Nat.mul_comm]
/-- reduced fractions multiply -/
theorem red_mul {s1 p1 s2 p2 s3 p3 g1 g2 g3 : Nat} (h : s1 * s2 * p3 = p1 * p2 * s3) (d1 : g1 ∣ s1) (e1 : g1 ∣ p1) (d2 : g2 ∣ s2) (e2 : g2 ∣ p2) (d3 : g3 ∣ s3) (e3 : g3 ∣ p3) (q1 : 0 < g1) (q2 : 0 < g2) (q3 : 0 < g3) :
    (s1 / g1) * (s2 / g2) * (p3 / g3) = (p1 / g1) * (p2 / g2) * (s3 / g3) := by
  obtain ⟨a1, rfl⟩ := d1
  obtain ⟨b1, rfl⟩ := e1
  obtain ⟨a2, rfl⟩ := d2
  obtain ⟨b2, rfl⟩ := e2
  obtain ⟨a3, rfl⟩ := d3
  obtain ⟨b3, rfl⟩ := e3
  rw [Nat.mul_div_cancel_left _ q1, Nat.mul_div_cancel_left _ q1, Nat.mul_div_cancel_left _ q2, Nat.mul_div_cancel_left _ q2, Nat.mul_div_cancel_left _ q3, Nat.mul_div_cancel_left _ q3]
  have q : 0 < g1 * g2 * g3 := Nat.mul_pos (Nat.mul_pos q1 q2) q3
  apply Nat.eq_of_mul_eq_mul_left q
  have l : g1 * g2 * g3 * (a1 * a2 * b3) = g1 * a1 * (g2 * a2) * (g3 * b3) := by
    simp only [Nat.mul_assoc, Nat.mul_comm, Nat.mul_left_comm]
  have r : g1 * g2 * g3 * (b1 * b2 * a3) = g1 * b1 * (g2 * b2) * (g3 * a3) := by
    simp only [Nat.mul_assoc, Nat.mul_comm, Nat.mul_left_comm]
  rw [l, r, h]
/-- the survivors of a composition -/
theorem cmp_nth {f g : Nat → Bool} {i a b c : Nat} (h1 : cmp f g a = true) (h2 : ct (cmp f g) a = i) (h3 : g b = true) (h4 : ct g b = i) (h5 : f c = true) (h6 : ct f c = b) : a = c := by
  have k1 : cmp f g c = true := by unfold cmp; rw [h5, h6, h3]; rfl
  have k2 : ct (cmp f g) c = i := by rw [ct_cmp, h6, h4]
  exact ct_inj h1 k1 (by rw [h2, k2])
theorem comp_small {l m : List Bool} {a b : Nat} (gl : Pat l) (gm : Pat m) (ha : l.length ≤ a) (hb : m.length ≤ b) (h1 : a * b ≤ 10000) (h2 : a * b < 4090) : l.length * (Nat.lcm (ct (kp l) l.length) m.length / ct (kp l) l.length) ≤ 10000 ∧ ct (kp m) (Nat.lcm (ct (kp l) l.length) m.length) < 4090 := by
  have s1 := gl.size
  have s2 := ct_le (kp l) l.length
  have hab : l.length * m.length ≤ a * b := Nat.mul_le_mul ha hb
  have hd : Nat.lcm (ct (kp l) l.length) m.length ∣ ct (kp l) l.length * m.length := Nat.lcm_dvd_mul _ _
  have hle : Nat.lcm (ct (kp l) l.length) m.length ≤ ct (kp l) l.length * m.length := Nat.le_of_dvd (Nat.mul_pos s1 gm.one) hd
  constructor
  · have h3 : Nat.lcm (ct (kp l) l.length) m.length / ct (kp l) l.length ≤ m.length := by
      refine Nat.div_le_of_le_mul hle
    have := Nat.mul_le_mul_left l.length h3
    omega
  · have h3 := ct_le (kp m) (Nat.lcm (ct (kp l) l.length) m.length)
    have := Nat.mul_le_mul_right m.length s2
    omega
theorem ct_true (n : Nat) : ct (fun _ => true) n = n := by
  induction n with
  | zero => rfl
  | succ n ih => rw [ct_succ, ih]; rfl
theorem cmp_top (f : Nat → Bool) : cmp (fun _ => true) f = f := funext fun n => by
  unfold cmp
  rw [ct_true]; rfl
theorem cmp_all (f : Nat → Bool) : cmp f (fun _ => true) = f := funext fun n => by
  unfold cmp
  exact Bool.and_true _
theorem cmp_assoc' (f g h : Nat → Bool) : cmp (cmp f g) h = cmp f (cmp g h) := funext fun n => cmp_assoc f g h n
theorem kp_one : kp [true] = fun _ => true := funext fun k => by
  unfold kp
  rw [show k % [true].length = 0 from Nat.mod_one k]; rfl
/-- a period of a composition, by those of the parts -/
theorem cmp_small {f g : Nat → Bool} {p q a b : Nat} (hf : Per f p) (hg : Per g q) (hs : 0 < ct f p) (h0 : 0 < q) (ha : p ≤ a) (hb : q ≤ b) : ∃ r, 0 < r ∧ r ≤ a * b ∧ Per (cmp f g) r := by
  have h1 : ct f p ∣ ct f p * q := Nat.dvd_mul_right _ _
  have h2 : q ∣ ct f p * q := Nat.dvd_mul_left _ _
  have hP := cmp_per hf hg hs h1 h2
  rw [Nat.mul_div_cancel_left q hs] at hP
  have hp : 0 < p := by
    by_cases z : p = 0
    · rw [z] at hs; simp [ct] at hs
    · omega
  exact ⟨p * q, Nat.mul_pos hp h0, Nat.mul_le_mul ha hb, hP⟩
theorem Good.le {l : List Bool} (g : Good l) {r : Nat} (h0 : 0 < r) (h : Per (kp l) r) : l.length ≤ r := Nat.le_of_dvd h0 (g.period h0 h)
theorem cmp_good {l m r : List Bool} (gl : Pat l) (gm : Pat m) (gr : Good r) (h : ∀ n, kp r n = cmp (kp l) (kp m) n) {a b : Nat} (ha : l.length ≤ a) (hb : m.length ≤ b) : r.length ≤ a * b := by
  obtain ⟨q, h0, h1, h2⟩ := cmp_small (kp_per l) (kp_per m) gl.size gm.one ha hb
  have e : kp r = cmp (kp l) (kp m) := funext h
  exact Nat.le_trans (gr.le h0 (by rw [e]; exact h2)) h1
end Sv

namespace Sv
open PySem PySem.Spec PyProof.Rows L2
section
variable {X : Cx} {σ : L2.St} {H : Hp} {Q : VK}
/-- s * n -/
def repS (x : Str) (n : Nat) : Str := ⟨(List.replicate n x.cps.toList).flatten.toArray⟩
theorem fold_rep (x : Array Nat) : ∀ (n : Nat) (a : Array Nat), ((List.replicate n x).foldl (· ++ ·) a).toList = a.toList ++ (List.replicate n x.toList).flatten
  | 0, a => by simp
  | n + 1, a => by
    rw [List.replicate_succ, List.foldl_cons, fold_rep x n (a ++ x), List.replicate_succ, List.flatten_cons, Array.toList_append, List.append_assoc]
theorem fold_repS (x : Str) (n : Nat) : (⟨(List.replicate n x.cps).foldl (· ++ ·) #[]⟩ : Str) = repS x n := by
  apply str_ext
  show ((List.replicate n x.cps).foldl (· ++ ·) #[]).toList = ((List.replicate n x.cps.toList).flatten.toArray).toList
  rw [fold_rep]
  simp
theorem b_mulS {x : Str} {n : Int} (h0 : 0 ≤ n) (hn : n ≤ 16777216) (hz : x.length * n.toNat ≤ 16777216) (q : Q (.str (repS x n.toNat)) H) : WB X (binaryOp .Mult) (.str x) (.int n) σ H Q := by
  refine ⟨fun pins s v u I rx ry => ?_⟩
  obtain ⟨t, rfl⟩ := rx
  obtain ⟨t', rfl⟩ := ry
  have hsz : (repS x n.toNat).length = x.length * n.toNat := by
    show ((List.replicate n.toNat x.cps.toList).flatten.toArray).size = x.cps.size * n.toNat
    simp [Nat.mul_comm]
  refine P.mul_str ?_ (fun h1 h2 h3 => ?_) (fun h1 h2 => ?_) ?_
  · have h1 : ¬ n < -(2 ^ 63 : Int) := by omega
    have h2 : ¬ n ≥ 2 ^ 63 := by omega
    rw [decide_eq_false h1, decide_eq_false h2]; rfl
  · have n1 : 1 ≤ n := by omega
    have h5 : (x.length : Int) ≤ 16777216 := by
      have : x.length ≤ x.length * n.toNat := Nat.le_mul_of_pos_right _ (by omega)
      omega
    have h4 : (1000000000 : Int) ≤ (2 ^ 63 - 1) / n := by
      rw [Int.le_ediv_iff_mul_le (by omega)]
      omega
    omega
  · show decide (x.length * n.toNat > sizeLine) = false
    rw [sizeLine_eq]
    exact decide_eq_false (by omega)
  · by_cases hc : n < 1
    · rw [if_pos hc]
      have e : n.toNat = 0 := by omega
      have e2 : repS x n.toNat = Str.empty := by rw [e]; rfl
      rw [e2] at q
      exact ⟨by show 0 ≤ sizeLine; decide, .str Str.empty, H, I.tok _, ⟨_, rfl⟩, q⟩
    · rw [if_neg hc]
      by_cases h2 : (n == 1 || x.length == 0) = true
      · rw [if_pos h2]
        have e2 : repS x n.toNat = x := by
          apply str_ext
          show ((List.replicate n.toNat x.cps.toList).flatten.toArray).toList = _
          rw [Bool.or_eq_true] at h2
          rcases h2 with h2 | h2
          · have : n = 1 := by simpa using h2
            rw [this]; simp
          · have h3 : x.length = 0 := by simpa using h2
            have e3 : x.cps = #[] := Array.eq_empty_of_size_eq_zero h3
            rw [e3]; simp
        rw [e2] at q
        exact ⟨.str x, H, I, ⟨_, rfl⟩, q⟩
      · rw [if_neg h2, fold_repS]
        exact ⟨by rw [hsz, sizeLine_eq]; exact hz, .str _, H, I.tok _, ⟨_, rfl⟩, q⟩
theorem rep_sOf (l : List Bool) (n : Nat) : repS (sOf l) n = sOf ((List.replicate n l).flatten) := by
  apply str_ext
  rw [sOf_list]
  show ((List.replicate n (sOf l).cps.toList).flatten.toArray).toList = _
  rw [sOf_list]
  simp
theorem cut_sOf (l : List Bool) (a b : Option Int) : cutS (sOf l) a b = sOf ((l.drop (HT.sIx l.length 0 a)).take (HT.sIx l.length l.length b - HT.sIx l.length 0 a)) := by
  apply str_ext
  rw [sOf_list]
  show (((sOf l).cps.toList.drop (HT.sIx (sOf l).length 0 a)).take (HT.sIx (sOf l).length (sOf l).length b - HT.sIx (sOf l).length 0 a)).toArray.toList = _
  rw [sOf_list, sOf_len]
  simp [List.map_take, List.map_drop]
theorem cut_to (l : List Bool) {d : Nat} {i : Int} (e : i = d) (h : d ≤ l.length) : cutS (sOf l) none (some i) = sOf (l.take d) := by
  rw [cut_sOf, e, HT.sIx_nat, HT.sIx_none]
  simp
  rw [Nat.min_eq_left h]
theorem cut_from (l : List Bool) {d : Nat} {i : Int} (e : i = d) (h : d ≤ l.length) : cutS (sOf l) (some i) none = sOf (l.drop d) := by
  rw [cut_sOf, e, HT.sIx_nat, HT.sIx_none, Nat.min_eq_left h]
  congr 1
  rw [List.take_of_length_le (by simp)]
/-- the sign at a place -/
theorem signAt_sOf {l : List Bool} {i : Nat} (h : i < l.length) : signAt (sOf l) i = .str ⟨#[sgn l[i]]⟩ := by
  unfold signAt
  rw [Array.getD_eq_getD_getElem?]
  have : (sOf l).cps[i]? = some (sgn l[i]) := by
    rw [← Array.getElem?_toList, sOf_list]
    simp [h]
  rw [this]; rfl
theorem sOf_at {l : List Bool} {i : Nat} {k : Int} (e : k = i) (h : i < l.length) : atI (sOf l).cps.toList k = some (sgn l[i]) := by
  unfold atI ixN
  rw [sOf_list, List.length_map, e, if_pos (by omega), if_pos (by omega)]
  simp [h]
theorem at_of {α : Type} {xs : List α} {i : Nat} {k : Int} {v : α} (e : k = i) (h : xs[i]? = some v) : atI xs k = some v := by
  have hi : i < xs.length := (List.getElem?_eq_some_iff.mp h).1
  unfold atI ixN
  rw [e, if_pos (by omega), if_pos (by omega)]
  simpa using h
theorem plus_str : ("+" : Str) = ⟨#[43]⟩ := by decide +kernel
theorem minus_str : ("-" : Str) = ⟨#[45]⟩ := by decide +kernel
theorem pm_str : ("+-" : Str) = ⟨#[43, 45]⟩ := by decide +kernel
theorem plus_sOf : ("+" : Str) = sOf [true] := by decide +kernel
theorem minus_sOf : ("-" : Str) = sOf [false] := by decide +kernel
theorem one_eq {a b : Nat} : decide ((⟨#[a]⟩ : Str) = ⟨#[b]⟩) = decide (a = b) := by
  by_cases h : a = b
  · rw [h]; simp
  · rw [decide_eq_false h]
    refine decide_eq_false fun e => h ?_
    have : (#[a] : Array Nat) = #[b] := congrArg Str.cps e
    simpa using this
theorem join_sOf (bs : List Bool) : Txt.join ("" : Str) (bs.map fun b => sOf [b]) = sOf bs := by
  have e0 : ("" : Str) = sOf [] := by decide +kernel
  show Builtin.Str.glued ("" : Str) _ = _
  rw [StrLaws.glued_eq_join]
  induction bs with
  | nil => rfl
  | cons b r ih =>
    cases r with
    | nil => rfl
    | cons c r =>
      show sOf [b] ++ ("" : Str) ++ Str.join ("" : Str) ((c :: r).map fun b => sOf [b]) = _
      rw [ih, e0, sOf_app, sOf_app]
      simp
theorem cnt_sgn (l : List Bool) : PyProof.Rows.cnt 43 (l.map sgn) = (l.countP (fun b => b) : Nat) := by
  induction l with
  | nil => rfl
  | cons b r ih =>
    rw [List.map_cons, cnt_cons, ih, List.countP_cons]
    cases b <;> simp [sgn] <;> omega
theorem countP_ct (l : List Bool) : l.countP (fun b => b) = ct (kp l) l.length := by
  have key : ∀ n, n ≤ l.length → (l.take n).countP (fun b => b) = ct (kp l) n := by
    intro n
    induction n with
    | zero => intro _; simp [ct]
    | succ n ih =>
      intro h
      rw [List.take_succ_eq_append_getElem (by omega), List.countP_append, ih (by omega), ct, kp_lt (show n < l.length by omega)]
      simp [List.countP_cons]
  have := key l.length (Nat.le_refl _)
  rwa [List.take_length] at this
theorem count_sOf (l : List Bool) : Txt.count (sOf l) ("+" : Str) = (l.countP (fun b => b) : Nat) := by
  rw [plus_str, count_cnt, sOf_list, cnt_sgn]
theorem countP_take {l : List Bool} {n : Nat} (h : n ≤ l.length) : (l.take n).countP (fun b => b) = ct (kp l) n := by
  rw [countP_ct]
  have e : (l.take n).length = n := by rw [List.length_take]; omega
  rw [e]
  exact ct_congr fun i hi => by rw [kp_lt (by omega), kp_lt (by omega), List.getElem_take]
end
end Sv

namespace Sv
open PySem PySem.Spec PyProof.Rows L2
section
variable {X : Cx} {N L S G B : List Str} {e e2 : Expr} {σ : L2.St} {H : Hp} {Q : VK} {p p2 pos : Pos} {x : Str}
theorem bt_all : bootBuiltins "all" = some (.builtin "all") := by decide +kernel
theorem bt_abs : bootBuiltins "abs" = some (.builtin "abs") := by decide +kernel
theorem bt_sum : bootBuiltins "sum" = some (.builtin "sum") := by decide +kernel
theorem bt_max : bootBuiltins "max" = some (.builtin "max") := by decide +kernel
theorem bt_min : bootBuiltins "min" = some (.builtin "min") := by decide +kernel
theorem bt_len : bootBuiltins "len" = some (.builtin "len") := by decide +kernel
theorem bt_int : bootBuiltins "int" = some (.type "int") := by decide +kernel
theorem bt_bool : bootBuiltins "bool" = some (.type "bool") := by decide +kernel
theorem bt_str : bootBuiltins "str" = some (.type "str") := by decide +kernel
theorem bt_set : bootBuiltins "set" = some (.type "set") := by decide +kernel
theorem bt_list : bootBuiltins "list" = some (.type "list") := by decide +kernel
theorem bt_tuple : bootBuiltins "tuple" = some (.type "tuple") := by decide +kernel
theorem bt_isi : bootBuiltins "isinstance" = some (.builtin "isinstance") := by decide +kernel
theorem bt_dm : bootBuiltins "divmod" = some (.builtin "divmod") := by decide +kernel
theorem x_len (c : Nm X N L S G B) (m : Mb "len" B) (h : WE X e σ H fun x H1 => ∃ n : Nat, LenV X.K x H1 n ∧ Q (.int n) H1) (hs : starEach [e] X.env = (false, eval e X.env) :: starEach [] X.env := by with_unfolding_all rfl) (hpl : (backTo pos (starEach [] X.env)).any (·.1) = false := by with_unfolding_all rfl) : WE X (.Call (.Name "len" p) [e] [] pos) σ H Q :=
  w_callB c m bt_len (wa_cons (WE.imp h fun x H1 ⟨n, l, q⟩ => wa_nil (c_len l q)) hs) hs hpl
theorem x_abs (c : Nm X N L S G B) (m : Mb "abs" B) (h : WE X e σ H fun x H1 => ∃ i, x = .int i ∧ Q (.int (if i < 0 then -i else i)) H1) (hs : starEach [e] X.env = (false, eval e X.env) :: starEach [] X.env := by with_unfolding_all rfl) (hpl : (backTo pos (starEach [] X.env)).any (·.1) = false := by with_unfolding_all rfl) : WE X (.Call (.Name "abs" p) [e] [] pos) σ H Q :=
  w_callB c m bt_abs (wa_cons (WE.imp h fun x H1 ⟨i, ex, q⟩ => wa_nil (by rw [ex]; exact c_abs q)) hs) hs hpl
theorem x_all (c : Nm X N L S G B) (m : Mb "all" B) (h : WE X e σ H fun x H1 => ∃ a, ∃ bs : List Bool, x = .ref a ∧ SqL X.K H1 a (bs.map V.bl) ∧ Q (.bl (bs.all fun k => k)) H1) (hs : starEach [e] X.env = (false, eval e X.env) :: starEach [] X.env := by with_unfolding_all rfl) (hpl : (backTo pos (starEach [] X.env)).any (·.1) = false := by with_unfolding_all rfl) : WE X (.Call (.Name "all" p) [e] [] pos) σ H Q :=
  w_callB c m bt_all (wa_cons (WE.imp h fun x H1 ⟨a, bs, ex, l, q⟩ => wa_nil (by rw [ex]; exact c_all c.calm l q)) hs) hs hpl
theorem x_sum (c : Nm X N L S G B) (m : Mb "sum" B) (h : WE X e σ H fun x H1 => ∃ a, ∃ ns : List Int, x = .ref a ∧ SqL X.K H1 a (ns.map V.int) ∧ Q (.int ns.sum) H1) (hs : starEach [e] X.env = (false, eval e X.env) :: starEach [] X.env := by with_unfolding_all rfl) (hpl : (backTo pos (starEach [] X.env)).any (·.1) = false := by with_unfolding_all rfl) : WE X (.Call (.Name "sum" p) [e] [] pos) σ H Q :=
  w_callB c m bt_sum (wa_cons (WE.imp h fun x H1 ⟨a, ns, ex, l, q⟩ => wa_nil (by rw [ex]; exact c_sum c.calm l q)) hs) hs hpl
theorem x_int (c : Nm X N L S G B) (m : Mb "int" B) (h : WE X e σ H fun x H1 => ∃ k, x = .bl k ∧ Q (.int (if k then 1 else 0)) H1) (hs : starEach [e] X.env = (false, eval e X.env) :: starEach [] X.env := by with_unfolding_all rfl) (hpl : (backTo pos (starEach [] X.env)).any (·.1) = false := by with_unfolding_all rfl) : WE X (.Call (.Name "int" p) [e] [] pos) σ H Q :=
  w_callTy c m bt_int (wa_cons (WE.imp h fun x H1 ⟨k, ex, q⟩ => wa_nil (by rw [ex]; exact c_intB q)) hs) hs hpl
theorem x_set (c : Nm X N L S G B) (m : Mb "set" B) (h : WE X e σ H fun x H1 => ∃ a, ∃ ns : List Int, x = .ref a ∧ SqL X.K H1 a (ns.map V.int) ∧ ns.length + 1 < scanBound ∧ ∀ p H' n, H1 p = none → Same H1 H' → H' p = some (SetI X.prog X.w p (fun k => ns.any (· == k)) n) → Q (.ref p) H') (hs : starEach [e] X.env = (false, eval e X.env) :: starEach [] X.env := by with_unfolding_all rfl) (hpl : (backTo pos (starEach [] X.env)).any (·.1) = false := by with_unfolding_all rfl) : WE X (.Call (.Name "set" p) [e] [] pos) σ H Q :=
  w_callTy c m bt_set (wa_cons (WE.imp h fun x H1 ⟨a, ns, ex, l, hz, q⟩ => wa_nil (by rw [ex]; exact c_set c.calm l hz q)) hs) hs hpl
theorem x_list (c : Nm X N L S G B) (m : Mb "list" B) (h : WE X e σ H fun x H1 => ∃ a xs, x = .ref a ∧ (SqL X.K H1 a xs ∨ SqT X.K H1 a xs) ∧ ∀ p H', H1 p = none → Same H1 H' → H' p = some (.lst xs) → Q (.ref p) H') (hs : starEach [e] X.env = (false, eval e X.env) :: starEach [] X.env := by with_unfolding_all rfl) (hpl : (backTo pos (starEach [] X.env)).any (·.1) = false := by with_unfolding_all rfl) : WE X (.Call (.Name "list" p) [e] [] pos) σ H Q :=
  w_callTy c m bt_list (wa_cons (WE.imp h fun x H1 ⟨a, xs, ex, l, q⟩ => wa_nil (by rw [ex]; exact c_list l q)) hs) hs hpl
theorem x_max (c : Nm X N L S G B) (m : Mb "max" B) (h : WE X e σ H fun x H1 => WE X e2 σ H1 fun y H2 => ∃ i j, x = .int i ∧ y = .int j ∧ Q (.int (if j > i then j else i)) H2) (hs : starEach [e, e2] X.env = (false, eval e X.env) :: starEach [e2] X.env := by with_unfolding_all rfl) (hs2 : starEach [e2] X.env = (false, eval e2 X.env) :: starEach [] X.env := by with_unfolding_all rfl) (hpl : (backTo pos (starEach [e2] X.env)).any (·.1) = false := by with_unfolding_all rfl) : WE X (.Call (.Name "max" p) [e, e2] [] pos) σ H Q :=
  w_callB c m bt_max (wa_cons (WE.imp h fun x H1 h2 => wa_cons (WE.imp h2 fun y H2 ⟨i, j, e1, e3, q⟩ => wa_nil (by rw [e1, e3]; exact c_max c.calm q)) hs2) hs) hs hpl
theorem x_min (c : Nm X N L S G B) (m : Mb "min" B) (h : WE X e σ H fun x H1 => WE X e2 σ H1 fun y H2 => ∃ i j, x = .int i ∧ y = .int j ∧ Q (.int (if j < i then j else i)) H2) (hs : starEach [e, e2] X.env = (false, eval e X.env) :: starEach [e2] X.env := by with_unfolding_all rfl) (hs2 : starEach [e2] X.env = (false, eval e2 X.env) :: starEach [] X.env := by with_unfolding_all rfl) (hpl : (backTo pos (starEach [e2] X.env)).any (·.1) = false := by with_unfolding_all rfl) : WE X (.Call (.Name "min" p) [e, e2] [] pos) σ H Q :=
  w_callB c m bt_min (wa_cons (WE.imp h fun x H1 h2 => wa_cons (WE.imp h2 fun y H2 ⟨i, j, e1, e3, q⟩ => wa_nil (by rw [e1, e3]; exact c_min c.calm q)) hs2) hs) hs hpl
theorem x_dm (c : Nm X N L S G B) (m : Mb "divmod" B) (h : WE X e σ H fun x H1 => WE X e2 σ H1 fun y H2 => ∃ i j, x = .int i ∧ y = .int j ∧ (0 < j ∧ j < 1073741824) ∧ ∀ p H', H2 p = none → Same H2 H' → H' p = some (.tup [.int (i / j), .int (i % j)]) → Q (.ref p) H') (hs : starEach [e, e2] X.env = (false, eval e X.env) :: starEach [e2] X.env := by with_unfolding_all rfl) (hs2 : starEach [e2] X.env = (false, eval e2 X.env) :: starEach [] X.env := by with_unfolding_all rfl) (hpl : (backTo pos (starEach [e2] X.env)).any (·.1) = false := by with_unfolding_all rfl) : WE X (.Call (.Name "divmod" p) [e, e2] [] pos) σ H Q :=
  w_callB c m bt_dm (wa_cons (WE.imp h fun x H1 h2 => wa_cons (WE.imp h2 fun y H2 ⟨i, j, e1, e3, hj, q⟩ => wa_nil (by rw [e1, e3]; exact c_divmod hj q)) hs2) hs) hs hpl
/-- isinstance(e, T), T built in -/
theorem x_isi {T : String} (c : Nm X N L S G B) (m : Mb "isinstance" B) (m2 : Mb x B) (hT : bootBuiltins x = some (.type T)) (h : WE X e σ H fun y H1 => ∃ t b, TyX X.K H1 y t ∧ PySem.W.kitOne X.K t (.type T) = some b ∧ Q (.bl b) H1) (hs : starEach [e, .Name x p2] X.env = (false, eval e X.env) :: starEach [.Name x p2] X.env := by with_unfolding_all rfl) (hs2 : starEach [.Name x p2] X.env = (false, eval (.Name x p2) X.env) :: starEach [] X.env := by with_unfolding_all rfl) (hpl : (backTo pos (starEach [.Name x p2] X.env)).any (·.1) = false := by with_unfolding_all rfl) : WE X (.Call (.Name "isinstance" p) [e, .Name x p2] [] pos) σ H Q :=
  w_callB c m bt_isi (wa_cons (WE.imp h fun y H1 ⟨t, b, ht, hk, q⟩ => wa_cons (w_bname (v := .ty T) c m2 hT rfl (wa_nil (c_isi (.ty T) ht hk q))) hs2) hs) hs hpl
/-- isinstance(e, C), C the text's own -/
theorem x_isiC {C : Addr} (c : Nm X N L S G B) (m : Mb "isinstance" B) (m2 : Mb x G) (hC : X.mg x = some (.ref C)) (h : WE X e σ H fun y H1 => ∃ t b, TyX X.K H1 y t ∧ PySem.W.kitOne X.K t (.ref C) = some b ∧ Q (.bl b) H1) (hs : starEach [e, .Name x p2] X.env = (false, eval e X.env) :: starEach [.Name x p2] X.env := by with_unfolding_all rfl) (hs2 : starEach [.Name x p2] X.env = (false, eval (.Name x p2) X.env) :: starEach [] X.env := by with_unfolding_all rfl) (hpl : (backTo pos (starEach [.Name x p2] X.env)).any (·.1) = false := by with_unfolding_all rfl) : WE X (.Call (.Name "isinstance" p) [e, .Name x p2] [] pos) σ H Q :=
  w_callB c m bt_isi (wa_cons (WE.imp h fun y H1 ⟨t, b, ht, hk, q⟩ => wa_cons (w_gname (v := .ref C) c m2 hC rfl (wa_nil (c_isi (.own C) ht hk q))) hs2) hs) hs hpl
theorem tru_bl {K : PySem.W.Frag} {H : Hp} {b : Bool} : TruV K (.bl b) H b := rfl
theorem ite_t {A B : Prop} (h : A) : if true = true then A else B := by rw [if_pos rfl]; exact h
theorem ite_nf {A B : Prop} (h : A) : if (!false) = true then A else B := h
theorem ite_nt {A B : Prop} (h : B) : if (!true) = true then A else B := h
theorem ite_f {A B : Prop} (h : B) : if false = true then A else B := by rw [if_neg (by decide)]; exact h
/-- the kinds of simple values, asked with isinstance -/
theorem kit_self {K : PySem.W.Frag} {t : String} : PySem.W.kitOne K (.type t) (.type t) = some true := by
  unfold PySem.W.kitOne
  rw [if_pos (beq_self_eq_true _)]
theorem kit_own {K : PySem.W.Frag} {C : Addr} : PySem.W.kitOne K (.ref C) (.ref C) = some true := by
  unfold PySem.W.kitOne
  rw [if_pos (beq_self_eq_true _)]
theorem kit_int_bool {K : PySem.W.Frag} : PySem.W.kitOne K (.type "int") (.type "bool") = some false := by
  unfold PySem.W.kitOne
  rw [if_neg (by decide)]
  kernel_rfl
theorem kit_bool_int {K : PySem.W.Frag} : PySem.W.kitOne K (.type "bool") (.type "int") = some true := by
  unfold PySem.W.kitOne
  rw [if_neg (by decide)]
  kernel_rfl
theorem kit_str_int {K : PySem.W.Frag} : PySem.W.kitOne K (.type "str") (.type "int") = some false := by
  unfold PySem.W.kitOne
  rw [if_neg (by decide)]
  kernel_rfl
theorem kit_int_str {K : PySem.W.Frag} : PySem.W.kitOne K (.type "int") (.type "str") = some false := by
  unfold PySem.W.kitOne
  rw [if_neg (by decide)]
  kernel_rfl
theorem tInt {K : PySem.W.Frag} {H : Hp} {i : Int} : TyX K H (.int i) (.type "int") := .base (.int i)
theorem tBl {K : PySem.W.Frag} {H : Hp} {i : Bool} : TyX K H (.bl i) (.type "bool") := .base (.bl i)
theorem tStr {K : PySem.W.Frag} {H : Hp} {i : Str} : TyX K H (.str i) (.type "str") := .base (.str i)
end
section
variable {P : Program} {w : World} {K : PySem.W.Frag} {mg : Str → Option Value} {base : Heap} {CX : CXT} {k : Nat} {f : Addr} {sp sp' : Sp}
theorem fnr_or (F : FnR P w K mg base CX k f sp) (F' : FnR P w K mg base CX k f sp') : FnR P w K mg base CX k f fun vs H Q E => sp vs H Q E ∨ sp' vs H Q E := fun A outer s H us vs Q E hr e0 r hs => by
  rcases hs with h | h
  · exact F A outer s H us vs Q E hr e0 r h
  · exact F' A outer s H us vs Q E hr e0 r h
theorem wl_start {X : Cx} {sts : List Stmt} {D : Ends} {σ σ' : L2.St} {H : Hp} (e : σ = σ') (h : WL X sts D σ' H) : WL X sts D σ H := e ▸ h
end
end Sv
namespace Sv
open PySem PySem.Spec PyProof.Rows L2
/-! guards: what kind of goal -/
section
variable {X : Cx} {e : Expr} {st : Stmt} {sts : List Stmt} {es : List Expr} {σ : L2.St} {H : Hp} {Q : VK} {D : Ends} {T : Bool → Hp → Prop} {R : List V → Hp → Prop} {v x y : V} {G : L2.St → Hp → Prop} {F : Value → Value → Sem Value} {U : Value → Sem Value}
theorem gWE (h : WE X e σ H Q) : WE X e σ H Q := h
theorem gWT (h : WT X e σ H T) : WT X e σ H T := h
theorem gWW (h : WW X e σ H T) : WW X e σ H T := h
theorem gWA (h : WA X es σ H R) : WA X es σ H R := h
theorem gWS (h : WS X st D σ H) : WS X st D σ H := h
theorem gWL (h : WL X sts D σ H) : WL X sts D σ H := h
theorem gWG (h : WG X e v σ H G) : WG X e v σ H G := h
theorem gWGs {vs : List V} (h : WGs X es vs σ H G) : WGs X es vs σ H G := h
theorem gWB (h : WB X F x y σ H Q) : WB X F x y σ H Q := h
theorem gWU (h : WU X U x σ H Q) : WU X U x σ H Q := h
theorem gBo {o : Operator} {x y : V} (h : WB X (binaryOp o) x y σ H Q) : WB X (binaryOp o) x y σ H Q := h
theorem gCo {o : CmpOp} {x y : V} (h : WB X (compareOp o) x y σ H Q) : WB X (compareOp o) x y σ H Q := h
theorem gCall {f : Expr} {es : List Expr} {ks : List Keyword} {p : Pos} (h : WE X (.Call f es ks p) σ H Q) : WE X (.Call f es ks p) σ H Q := h
theorem gNm {x : Str} {p : Pos} (h : WE X (.Name x p) σ H Q) : WE X (.Name x p) σ H Q := h
theorem gCn {c : Const} {j : Nat} {p : Pos} (h : WE X (.Constant c j p) σ H Q) : WE X (.Constant c j p) σ H Q := h
end
section
variable {X : Cx} {σ : L2.St} {H : Hp} {Q : VK}
theorem w_gref {N L S G B : List Str} {x : Str} {pos : Pos} {C : Addr} (c : Nm X N L S G B) (m : Mb x G) (hm : X.mg x = some (.ref C)) (q : Q (.ref C) H) : WE X (.Name x pos) σ H Q := w_gname (v := .ref C) c m hm rfl q
/-- "+" in a pattern -/
theorem b_inPlus {l : List Bool} (q : Q (.bl (decide (true ∈ l))) H) : WB X (compareOp .In) (.str "+") (.str (sOf l)) σ H Q := by
  rw [plus_str]
  refine b_inS ?_
  rw [sOf_list]
  have e : decide (43 ∈ l.map sgn) = decide (true ∈ l) := by
    by_cases h : true ∈ l
    · rw [decide_eq_true h, decide_eq_true (mem_plus.mpr h)]
    · rw [decide_eq_false h, decide_eq_false (fun z => h (mem_plus.mp z))]
  rw [e]
  exact q
theorem b_inPM {b : Bool} (q : Q (.bl true) H) : WB X (compareOp .In) (.str ⟨#[sgn b]⟩) (.str "+-") σ H Q := by
  rw [pm_str]
  refine b_inS ?_
  cases b <;> exact q
/-- a sign == "+" -/
theorem b_eqPlus {b : Bool} (q : Q (.bl b) H) : WB X (compareOp .Eq) (.str ⟨#[sgn b]⟩) (.str "+") σ H Q := by
  refine b_eqS ?_
  rw [plus_str, one_eq, sgn_dec]
  exact q
theorem dec_plus {b : Bool} : decide ((⟨#[sgn b]⟩ : Str) = "+") = b := by rw [plus_str, one_eq, sgn_dec]
end
/-! ### loops that change what stands: only the walked is asked to stand -/
/-- a heap that tells p alone -/
def one (H : Hp) (p : Addr) : Hp := fun b => if b = p then H p else none
theorem one_same {H H' : Hp} {p : Addr} (h : ∀ o, H p = some o → H' p = some o) : Same (one H p) H' := fun b o e => by
  unfold one at e
  by_cases z : b = p
  · rw [if_pos z] at e
    rw [z]
    exact h o e
  · rw [if_neg z] at e
    cases e
theorem one_at {H : Hp} {p : Addr} {o : HO} (h : H p = some o) : one H p p = some o := by
  unfold one
  rw [if_pos rfl, h]
theorem none_same {H' : Hp} : Same (fun _ => none) H' := fun b o e => nomatch e
section
variable {X : Cx} {N L S G B : List Str} {tg iter c : Expr} {body : List Stmt} {σ : L2.St} {H : Hp} {D : Ends} {pos : Pos}
theorem ws_forM (hp : PassesOwn (model X.prog X.w) X.A X.env X.xe) (hc : Nm X N L S G B)
    (h : WI X tg iter σ H fun J H1 => ∃ n it Hw, Wlk J n it Hw ∧ ∃ Pv : Nat → L2.St → Hp → Prop, Pv 0 σ H1 ∧ (∀ i σ' H', Pv i σ' H' → Same Hw H') ∧
      (∀ i σ' H', i < n → Pv i σ' H' → WG X tg (it i) σ' H' fun σ2 H2 => WL X body { D with nx := Pv (i + 1), ct := Pv (i + 1), bk := D.nx } σ2 H2) ∧ ∀ σ' H', Pv n σ' H' → D.nx σ' H')
    (hs : ∀ x, foldedSetIterable iter X.env x = pure x := by intro _; with_unfolding_all rfl) : WS X (.For tg iter body [] pos) D σ H := by
  refine (ps_for hp hc.calm pi_w pg_w pss_w hs).w ?_
  refine ⟨fun pins s I => thn (h.run pins s I) fun v s1 h1 => thn h1 fun itv s2 ⟨it, fp, tn, J, H', e, I', T, t0, hf, n, itm, Hw, W, Pv, p0, hsm, hst, hd⟩ => ⟨it, fp, tn, J, H', e, I', T, t0, hf, ?_⟩⟩
  refine ⟨fun i m σ' H'' => m = n - i ∧ i ≤ n ∧ Pv i σ' H'', ⟨n, by simp, Nat.zero_le _, p0⟩, ?_⟩
  rintro i m σ' H'' ⟨rfl, hi, p⟩
  by_cases hlt : i < n
  · refine .inr ⟨W.go i H'' hlt (hsm _ _ _ p), Pv (i + 1), fun σ2 H2 p' => ⟨n - (i + 1), by omega, rfl, hlt, p'⟩, fun x H3 y => ?_⟩
    obtain ⟨rfl, rfl⟩ := W.yld i H'' x H3 hlt (hsm _ _ _ p) y
    exact hst i σ' _ hlt p
  · have e : i = n := by omega
    subst e
    exact .inl ⟨W.stop _ _ (Nat.le_refl _) (hsm _ _ _ p), hd _ _ p⟩
end
section
variable {X : Cx} {N L S G B : List Str} {σ : L2.St} {H : Hp} {D : Ends} {pos : Pos}
/-- a, b, c = e, f, g with plain local names -/
theorem ws_par3 {x y z : Str} {ea eb ec : Expr} {px py pz pt : Pos} {kt k2 pt2} (c : Nm X N L S G B) (hx : X.env.scope.names.lookup x = some .local) (hy : X.env.scope.names.lookup y = some .local) (hz : X.env.scope.names.lookup z = some .local)
    (h : WE X ea σ H fun v H1 => WE X eb σ H1 fun w H2 => WE X ec σ H2 fun u H3 => ∃ σ1 σ2 σ3, Put N σ x v σ1 ∧ Put N σ1 y w σ2 ∧ Put N σ2 z u σ3 ∧ D.nx σ3 H3)
    (hw : swappedStores [.Tuple [.Name x px, .Name y py, .Name z pz] kt pt] (.Tuple [ea, eb, ec] k2 pt2) X.env = pure (some [x, y, z]))
    (hs : swapsWithSole [.Tuple [.Name x px, .Name y py, .Name z pz] kt pt] (.Tuple [ea, eb, ec] k2 pt2) pos.line X.env = pure false := by with_unfolding_all rfl)
    (h1 : starEach [ea, eb, ec] X.env = (false, eval ea X.env) :: starEach [eb, ec] X.env := by with_unfolding_all rfl) (h2 : starEach [eb, ec] X.env = (false, eval eb X.env) :: starEach [ec] X.env := by with_unfolding_all rfl) (h3 : starEach [ec] X.env = (false, eval ec X.env) :: starEach [] X.env := by with_unfolding_all rfl)
    (ix : ∃ i j l : Nat, N[i]? = some x ∧ N[j]? = some y ∧ N[l]? = some z ∧ i ≠ j ∧ i ≠ l ∧ j ≠ l) :
    WS X (.Assign [.Tuple [.Name x px, .Name y py, .Name z pz] kt pt] (.Tuple [ea, eb, ec] k2 pt2) pos) D σ H := by
  obtain ⟨i, j, l, hi, hj, hl, n1, n2, n3⟩ := ix
  have nd : X.N.Nodup := by rw [c.names]; exact c.nd
  have hi' : X.N[i]? = some x := by rw [c.names]; exact hi
  have hj' : X.N[j]? = some y := by rw [c.names]; exact hj
  have hl' : X.N[l]? = some z := by rw [c.names]; exact hl
  refine (L2.ps_par3 c.calm nd hi' hj' hl' n1 n2 n3 hx hy hz (pa_cons pe_w (pa_cons pe_w (pa_cons pe_w pa_nil h3) h2) h1) hw hs).w ?_
  refine WE.imp h fun v H1 h1 => WE.imp h1 fun w H2 h2 => WE.imp h2 fun u H3 ⟨σ1, σ2, σ3, p1, p2, p3, q⟩ => ⟨v, w, u, rfl, ?_⟩
  obtain ⟨i', hi2, rfl⟩ := p1.ix
  obtain ⟨j', hj2, rfl⟩ := p2.ix
  obtain ⟨l', hl2, rfl⟩ := p3.ix
  have ei : i' = i := nodup_ix nd (by rw [c.names]; exact hi2) hi'
  have ej : j' = j := nodup_ix nd (by rw [c.names]; exact hj2) hj'
  have el : l' = l := nodup_ix nd (by rw [c.names]; exact hl2) hl'
  subst ei ej el
  exact q
end
/-! ### comprehensions whose items are new objects -/
theorem lc_ofH {X : Cx} {N L S G B : List Str} {tg elt iter : Expr} {ifs : List Expr} {scope : Scope} {own : List (Str × Nat)} {σ : L2.St} {H : Hp} {Q : VK} (c : Nm X N L S G B) (P : Nat → List V → Hp → Prop)
    (h : WI X tg iter σ H fun J H1 => ∃ n it, Wlk J n it H1 ∧ n < sizeLine ∧ (∀ D, H1 D = none → P 0 [] (upd H1 D (.lst []))) ∧ (∀ i acc acc' H' D, i < n → H1 D = none → Same H1 H' → H' D = some (.lst acc') → P i acc' H' → P (i + 1) acc H' → P (i + 1) acc (upd H' D (.lst acc))) ∧
      (∀ i acc H', i < n → acc.length ≤ i → P i acc H' → Same H1 H' → WGb X scope tg (it i) (wipe σ (own.map (·.2))) H' fun σ2 H2 => H2 = H' ∧ wipe σ2 (own.map (·.2)) = wipe σ (own.map (·.2)) ∧ WTb X scope ifs σ2 H2 fun k H3 => Same H2 H3 ∧
        if k = true then WEb X scope elt σ2 H3 fun y H4 => Same H3 H4 ∧ P i acc H4 ∧ P (i + 1) (acc ++ [y]) H4 else P (i + 1) acc H3) ∧
      ∀ acc D H', acc.length ≤ n → P n acc H' → H1 D = none → Same H1 H' → H' D = some (.lst acc) → Q (.ref D) H') :
    tLc (WI X tg iter) (WGb X scope tg) (WTb X scope ifs) (WEb X scope elt) (own.map (·.2)) σ H Q := by
  refine ⟨fun pins s I => thn (h.run pins s I) fun v s1 h1 => thn h1 fun itv s2 ⟨it, fp, tn, J, H1, e, I', T, t0, hf, n, itm, W, hz, p0, hfr, hst, hd⟩ => ⟨it, fp, tn, J, H1, e, I', T, t0, hf, fun D hD => ?_⟩⟩
  refine ⟨fun i m H' => m = n - i ∧ i ≤ n ∧ ∃ acc, acc.length ≤ i ∧ P i acc H' ∧ Same H1 H' ∧ H' D = some (.lst acc), ⟨n, by simp, Nat.zero_le _, [], Nat.le_refl _, p0 D hD, same_new hD, upd_same⟩, ?_⟩
  rintro i m H' ⟨rfl, hi, acc, hl, hp, hsm, hDa⟩
  by_cases hlt : i < n
  · refine .inr ⟨W.go i H' hlt hsm, fun H2 => i + 1 ≤ n ∧ ∃ acc, acc.length ≤ i + 1 ∧ P (i + 1) acc H2 ∧ Same H1 H2 ∧ H2 D = some (.lst acc), fun H2 q => ⟨n - (i + 1), by omega, rfl, q⟩, fun x H3 y => ?_⟩
    obtain ⟨rfl, rfl⟩ := W.yld i H' x H3 hlt hsm y
    intro X' bX
    refine ⟨fun pins' s' u I' r => thn ((hst i acc H3 hlt hl hp hsm X' bX).run pins' s' u I' r) fun _ s2 ⟨σ2, H2, I2, e2, ew, q2⟩ => ⟨σ2, H2, I2, ew, fun X2 b2 => ?_⟩⟩
    subst e2
    refine ⟨fun pins3 s3 I3 => thn ((q2 X2 b2).run pins3 s3 I3) fun k s4 ⟨H4, I4, e4, q4⟩ => ⟨H4, I4, ?_⟩⟩
    cases k with
    | false =>
      rw [if_neg (by decide)] at q4 ⊢
      exact ⟨hlt, acc, Nat.le_succ_of_le hl, q4, hsm.trans e4, e4 _ _ hDa⟩
    | true =>
      rw [if_pos rfl] at q4 ⊢
      intro X5 b5
      refine WE.imp (q4 X5 b5) fun y H5 ⟨e5, q50, q5⟩ => ⟨acc, e5 _ _ (e4 _ _ hDa), by omega, hlt, acc ++ [y], by rw [List.length_append]; show acc.length + 1 ≤ i + 1; omega, hfr i _ _ _ _ hlt hD (hsm.trans (e4.trans e5)) (e5 _ _ (e4 _ _ hDa)) q50 q5, same_mut (hsm.trans (e4.trans e5)) hD, upd_same⟩
  · have e : i = n := by omega
    subst e
    exact .inl ⟨W.stop _ _ (Nat.le_refl _) hsm, hd acc D H' hl hp hD hsm hDa⟩
theorem w_lcH {X : Cx} {N L S G B : List Str} {tg elt iter : Expr} {ifs : List Expr} {scope : Scope} {own : List (Str × Nat)} {σ : L2.St} {H : Hp} {Q : VK} {pos : Pos} (c : Nm X N L S G B) (ok : blkC N X.env.scope scope own = true) (P : Nat → List V → Hp → Prop)
    (h : WI X tg iter σ H fun J H1 => ∃ n it, Wlk J n it H1 ∧ n < sizeLine ∧ (∀ D, H1 D = none → P 0 [] (upd H1 D (.lst []))) ∧ (∀ i acc acc' H' D, i < n → H1 D = none → Same H1 H' → H' D = some (.lst acc') → P i acc' H' → P (i + 1) acc H' → P (i + 1) acc (upd H' D (.lst acc))) ∧
      (∀ i acc H', i < n → acc.length ≤ i → P i acc H' → Same H1 H' → WGb X scope tg (it i) (wipe σ (own.map (·.2))) H' fun σ2 H2 => H2 = H' ∧ wipe σ2 (own.map (·.2)) = wipe σ (own.map (·.2)) ∧ WTb X scope ifs σ2 H2 fun k H3 => Same H2 H3 ∧
        if k = true then WEb X scope elt σ2 H3 fun y H4 => Same H3 H4 ∧ P i acc H4 ∧ P (i + 1) (acc ++ [y]) H4 else P (i + 1) acc H3) ∧
      ∀ acc D H', acc.length ≤ n → P n acc H' → H1 D = none → Same H1 H' → H' D = some (.lst acc) → Q (.ref D) H')
    (hs : ∀ x, foldedSetIterable iter X.env x = pure x := by intro _; with_unfolding_all rfl) : WE X (.ListComp elt [⟨tg, iter, ifs, 0⟩] scope pos) σ H Q := by
  have hN : X.N.Nodup := by rw [c.names]; exact c.nd
  have ok' : BlkOk X.N X.env.scope scope own := by rw [c.names]; exact blkOk_by ok
  have p := pe_lc (X := X) (pos := pos) (g := WGb X scope tg) (tt := WTb X scope ifs) (te := WEb X scope elt) c.calm hN (pi_w (X := X) (tg := tg) (iter := iter)) ok'
    (fun s H C cl fp => ⟨fun pins s1 σ1 H1 v u R I r q => (q _ ⟨s, H, C, cl, fp, rfl⟩).run pins s1 u I r⟩)
    (fun s H C cl fp => ⟨fun pins s1 σ1 H1 R I q => (q _ ⟨s, H, C, cl, fp, rfl⟩).run pins s1 I⟩)
    (fun s H C cl fp => ⟨fun pins s1 σ1 H1 R I q => (q _ ⟨s, H, C, cl, fp, rfl⟩).run pins s1 I⟩) hs
  exact p.w (lc_ofH c P h)
theorem ws_setLcH {y : Str} {py spos : Pos} {D0 : Ends} {X : Cx} {N L S G B : List Str} {tg elt iter : Expr} {ifs : List Expr} {scope : Scope} {own : List (Str × Nat)} {σ : L2.St} {H : Hp} {pos : Pos} (c : Nm X N L S G B) (ok : blkC N X.env.scope scope own = true) (P : Nat → List V → Hp → Prop)
    (h : WI X tg iter σ H fun J H1 => ∃ n it, Wlk J n it H1 ∧ n < sizeLine ∧ (∀ D, H1 D = none → P 0 [] (upd H1 D (.lst []))) ∧ (∀ i acc acc' H' D, i < n → H1 D = none → Same H1 H' → H' D = some (.lst acc') → P i acc' H' → P (i + 1) acc H' → P (i + 1) acc (upd H' D (.lst acc))) ∧
      (∀ i acc H', i < n → acc.length ≤ i → P i acc H' → Same H1 H' → WGb X scope tg (it i) (wipe σ (own.map (·.2))) H' fun σ2 H2 => H2 = H' ∧ wipe σ2 (own.map (·.2)) = wipe σ (own.map (·.2)) ∧ WTb X scope ifs σ2 H2 fun k H3 => Same H2 H3 ∧
        if k = true then WEb X scope elt σ2 H3 fun y H4 => Same H3 H4 ∧ P i acc H4 ∧ P (i + 1) (acc ++ [y]) H4 else P (i + 1) acc H3) ∧
      ∀ acc D H', acc.length ≤ n → P n acc H' → H1 D = none → Same H1 H' → H' D = some (.lst acc) → ∃ σ', Put N σ y (.ref D) σ' ∧ D0.nx σ' H')
    (hyl : X.env.scope.names.lookup y = some .local) (hsw : swapsWith (.ListComp elt [⟨tg, iter, ifs, 0⟩] scope pos) (some (.Name y py)) spos.line X.env = pure true)
    (hs : ∀ x, foldedSetIterable iter X.env x = pure x := by intro _; with_unfolding_all rfl) (iy : ∃ i : Nat, N[i]? = some y) : WS X (.Assign [.Name y py] (.ListComp elt [⟨tg, iter, ifs, 0⟩] scope pos) spos) D0 σ H := by
  have hN : X.N.Nodup := by rw [c.names]; exact c.nd
  have ok' : BlkOk X.N X.env.scope scope own := by rw [c.names]; exact blkOk_by ok
  obtain ⟨i, hi⟩ := iy
  have hi' : X.N[i]? = some y := by rw [c.names]; exact hi
  have p := ps_setLc (X := X) (pos := pos) (spos := spos) (py := py) (g := WGb X scope tg) (tt := WTb X scope ifs) (te := WEb X scope elt) c.calm hN hi' hyl hsw (pi_w (X := X) (tg := tg) (iter := iter)) ok'
    (fun s H C cl fp => ⟨fun pins s1 σ1 H1 v u R I r q => (q _ ⟨s, H, C, cl, fp, rfl⟩).run pins s1 u I r⟩)
    (fun s H C cl fp => ⟨fun pins s1 σ1 H1 R I q => (q _ ⟨s, H, C, cl, fp, rfl⟩).run pins s1 I⟩)
    (fun s H C cl fp => ⟨fun pins s1 σ1 H1 R I q => (q _ ⟨s, H, C, cl, fp, rfl⟩).run pins s1 I⟩) hs
  refine p.w ?_
  refine lc_ofH (Q := fun v H1 => D0.nx (σ.set i (some v)) H1) c P ⟨fun pins s I => thn (h.run pins s I) fun v s1 h1 => thn h1 fun itv s2 ⟨it, fp, tn, J, H1, e, I', T, t0, hf, n, itm, W, hz, p0, hfr, hst, hd⟩ => ⟨it, fp, tn, J, H1, e, I', T, t0, hf, n, itm, W, hz, p0, hfr, hst, fun acc D H' h1 h2 h3 h4 h5 => ?_⟩⟩
  obtain ⟨σ', hp, q⟩ := hd acc D H' h1 h2 h3 h4 h5
  obtain ⟨i', hi2, rfl⟩ := hp.ix
  have ei : i' = i := nodup_ix hN (by rw [c.names]; exact hi2) hi'
  rw [← ei]
  exact q
end Sv

namespace Sv
open PySem PySem.Spec PyProof.Rows L2
section
variable {X : Cx} {σ : L2.St} {H : Hp} {Q : VK}
theorem b_gtB {x y : Bool} (q : Q (.bl (x && !y)) H) : WB X (compareOp .Gt) (.bl x) (.bl y) σ H Q := by
  refine ⟨fun pins s v u I rx ry => ?_⟩
  obtain rfl : v = Value.bool x := rx
  obtain rfl : u = Value.bool y := ry
  refine gt_bool ?_
  have e : decide (b2i x > b2i y) = (x && !y) := by cases x <;> cases y <;> rfl
  rw [e]
  exact ⟨.bl (x && !y), H, I, rfl, q⟩
end
/-- the numbers below p with f -/
def sel (f : Nat → Bool) (p : Nat) : List Nat := (List.range p).filter f
theorem sel_step (f : Nat → Bool) (i : Nat) : sel f (i + 1) = sel f i ++ if f i then [i] else [] := by
  unfold sel
  rw [List.range_succ, List.filter_append]
  congr 1
  cases h : f i <;> simp [h]
theorem sel_len (f : Nat → Bool) (p : Nat) : (sel f p).length = ct f p := ct_lof f p
theorem sel_mem {f : Nat → Bool} {p n : Nat} : n ∈ sel f p ↔ n < p ∧ f n = true := by
  unfold sel
  rw [List.mem_filter, List.mem_range]
theorem sel_any (f : Nat → Bool) (p : Nat) {i : Nat} (h : i < p) : ((sel f p).map fun n => ((n : Nat) : Int)).any (· == ((i : Nat) : Int)) = f i := by
  rw [Bool.eq_iff_iff, List.any_eq_true]
  constructor
  · rintro ⟨x, hx, e⟩
    obtain ⟨n, hn, rfl⟩ := List.mem_map.mp hx
    have e3 : ((n : Nat) : Int) = ((i : Nat) : Int) := eq_of_beq e
    have : n = i := by omega
    rw [← this]
    exact (sel_mem.mp hn).2
  · intro hf
    exact ⟨_, List.mem_map.mpr ⟨i, sel_mem.mpr ⟨h, hf⟩, rfl⟩, by simp⟩
/-- a law's end, where what may fly depends on the world -/
theorem walk_ofW {L : PySem.W.OpenLaw} {m j : Nat} {q' : Program} {lo : List Str} {XQ : (Str → Option Value) → Heap → Prop} {YQ : World → Heap → Prop} {dr : DefRec} {par : Str} (h1 : L.most = some m) (h2 : m ≤ sizeLine) (h3 : dr.params.defaults = []) (h4 : Room j callerA)
    (go : ∀ (ww : World) (gm : Str → Option Value) (ad : Addr) (hp : Heap), YQ ww hp → hp.Ns mainGlobals gm → gm dr.name = some (.ref ad) → ∃ (KK : PySem.W.Frag) (fdd : FuncData) (spp : Sp), KK.In hp ∧ (∀ (z : Shared) (u : Value), BindsTo z fdd ⟨[u], []⟩ [(par, u)]) ∧
      (∀ (HH : Hp) (aa : Addr) (xs : List Int), xs.length ≤ m → Only HH → SqL KK HH aa (xs.map V.int) → spp [.ref aa] HH (fun v _ => v = .bl true) fun _ _ _ => False) ∧
      ∀ bs : Heap, KK.In bs → bs.Ns mainGlobals gm → FnOk L.prog ww KK gm bs (L2.CX L.prog ww) j ad fdd [par] spp) :
    PySem.W.WalkO q' lo XQ YQ L.row.toRowW dr [] (fun g us => PySem.call g us) := by
  refine Att.attach_call h1 h3 ?_
  intro ww t0 t1 gm bm ad ob pm' cd' dc aa us xs GG YY e1 e2 e3 e4 e5 e6 e7 e8
  obtain ⟨KK, fdd, spp, k1, k2, k3, k4⟩ := go ww gm ad _ YY GG.T.g e4
  refine law_call k1 GG.T.g GG.T.b GG.T.builtins GG.T.nolimit e8 e5 e6 (Nat.le_trans e7 h2) h4 k4 k2 (fun HH o1 o2 => k3 HH aa xs e7 o1 o2) ?_
  intro HH e s'
  rintro ⟨_, _, _, _, _, _, _, _, _, _, _, _, no⟩
  exact no
end Sv

namespace Sv
open PySem PySem.Spec PyProof.Rows L2
/-! ### for, in a generator -/
section
variable {M : Model} {A : Around} {R : GenEnd} {Y : Protocol} {n : Nat} {s₀ s : Shared} {c : Code} {fs : List Frame}
theorem seg_bw {α β : Type} {m : Sem α} {k : α → Sem β} {K : β → Sem PySem.Fin} {J : Value → Sem PySem.Fin} {gd : Bool → Bool} {lv : List Value → List Value}
    (h : wpAny M (A.over c fs) m (fun v s' => Seg M A R Y n s₀ c ((k v).wrap K J gd lv) fs s') (fun x s' => Seg M A R Y n s₀ c (J x) fs s') s) : Seg M A R Y n s₀ c ((m >>= k).wrap K J gd lv) fs s := by
  rw [Sem.bind_eq_wrap', Sem.wrap_wrap]
  exact seg_wrap (wpAny_mono h (fun _ _ x => x) fun _ _ x => x)
end
section
variable {prog : Program} {w : World} {A : Around} {R : GenEnd} {Y : Protocol} {n : Nat} {s₀ s : Shared} {fs : List Frame} {env : Env} {tg : Expr} {it : Value} {body : List Stmt}
theorem seg_forLoop (h : wpAny (model prog w) (A.over (.forLoop tg it body [] env) fs) (pyNext it) (fun r s1 => match r with
      | none => Seg (model prog w) A R Y n s₀ (.forLoop tg it body [] env) (.pure (.again (.block [] env))) fs s1
      | some v => wpAny (model prog w) (A.over (.forLoop tg it body [] env) fs) (letOwnedTupleGo tg it v) (fun _ s2 => wpAny (model prog w) (A.over (.forLoop tg it body [] env) fs) (assign tg env v) (fun _ s3 =>
          Seg (model prog w) A R Y n s₀ (.forLoop tg it body [] env) ((execs body env).wrap (fun f => match f with
            | .next | .cont => .pure (.again (.forLoop tg it body [] env))
            | .brk => .pure (.done .next)
            | .ret v => .pure (.done (.ret v))) (fun e => (do noteFrame e env; theTreesLotGoes e : Sem Unit).wrap (fun _ => .raise e) .raise id id) id id) fs s3)
          (fun x s' => Seg (model prog w) A R Y n s₀ (.forLoop tg it body [] env) ((do noteFrame x env; theTreesLotGoes x : Sem Unit).wrap (fun _ => .raise x) .raise id id) fs s') s2)
          (fun x s' => Seg (model prog w) A R Y n s₀ (.forLoop tg it body [] env) ((do noteFrame x env; theTreesLotGoes x : Sem Unit).wrap (fun _ => .raise x) .raise id id) fs s') s1)
      (fun x s' => Seg (model prog w) A R Y n s₀ (.forLoop tg it body [] env) ((do noteFrame x env; theTreesLotGoes x : Sem Unit).wrap (fun _ => .raise x) .raise id id) fs s') s) :
    Seg (model prog w) A R Y n s₀ (.forLoop tg it body [] env) ((model prog w).den (.forLoop tg it body [] env)) fs s := by
  show Seg _ A R Y n s₀ _ ((forTurn tg it body [] env).onRaise (fun x => do noteFrame x env; theTreesLotGoes x)) fs s
  rw [Sem.onRaise_eq_wrap]
  have fix : ∀ (x : Value) (s' : Shared), Seg (model prog w) A R Y n s₀ (.forLoop tg it body [] env) ((do noteFrame x env; theTreesLotGoes x : Sem Unit).wrap (fun _ => .raise x) .raise id id) fs s' →
      Seg (model prog w) A R Y n s₀ (.forLoop tg it body [] env) ((do noteFrame x env; theTreesLotGoes x : Sem Unit).bind (fun _ => .raise x)) fs s' := fun x s' hx => by
    rw [Sem.bind_eq_wrap]; exact hx
  unfold forTurn
  refine seg_bw (wpAny_standAt ?_)
  refine seg_bw (wpAny_onRaise (wpAny_mono h (fun r s1 h1 => ?_) fun x s' hx => wpAny_standAt (fix x s' hx)))
  cases r with
  | none => exact h1
  | some v =>
    refine seg_bw (wpAny_mono h1 (fun _ s2 h2 => ?_) fun x s' hx => fix x s' hx)
    refine seg_bw (wpAny_mono h2 (fun _ s3 h3 => ?_) fun x s' hx => fix x s' hx)
    rw [Sem.bind_eq_wrap', Sem.wrap_wrap]
    rw [Sem.wrap_congr (execs body env) _ _ (K' := fun f => match f with
            | .next | .cont => .pure (.again (.forLoop tg it body [] env))
            | .brk => .pure (.done .next)
            | .ret v => .pure (.done (.ret v))) (H' := (fun e => (do noteFrame e env; theTreesLotGoes e : Sem Unit).wrap (fun _ => .raise e) .raise id id))
        (fun f => by cases f <;> rfl)
        (fun e => by show (do noteFrame e env; theTreesLotGoes e : Sem Unit).bind (fun _ => .raise e) = _; rw [Sem.bind_eq_wrap])]
    exact h3
end
section
variable {X : Cx} {tg iter : Expr} {body : List Stmt} {pos : Pos}
theorem seg_For {A : Around} {R : GenEnd} {Y : Protocol} {n : Nat} {s₀ s : Shared} {c : Code} {fs : List Frame} {env : Env} {K : Flow → Sem PySem.Fin} {J : Value → Sem PySem.Fin} {gd : Bool → Bool} {lv : List Value → List Value} {P : Program} {w : World}
    (h : wpAny (model P w) (A.over c fs) (eval iter env) (fun x s1 => wpAny (model P w) (A.over c fs) (pyIter x) (fun it s2 => ∀ p, Seg (model P w) A R Y n s₀ (.forLoop tg it body [] env) ((model P w).den (.forLoop tg it body [] env))
      (.ret (fun r => ((match r with | .ok f => (.pure f : Sem Flow) | .error e => .raise e).onRaise (cameBack env)).wrap K J gd lv) none (gd false) (lv []) c p [] :: fs) s2) (fun x s' => Seg (model P w) A R Y n s₀ c (J x) fs s') s1) (fun x s' => Seg (model P w) A R Y n s₀ c (J x) fs s') s)
    (hs : ∀ x, foldedSetIterable iter env x = pure x) : Seg (model P w) A R Y n s₀ c ((exec (.For tg iter body [] pos) env).wrap K J gd lv) fs s := by
  rw [exec_For]
  refine seg_bw (wpAny_standAt ?_)
  refine seg_bw (wpAny_mono h (fun x s1 h1 => ?_) fun _ _ z => z)
  refine seg_bw (wpAny_of_eq (hs x) ?_)
  refine seg_bw (wpAny_standAt ?_)
  refine seg_bw (wpAny_holding (wpAny_mono h1 (fun it s2 h2 => ?_) fun _ _ z => z))
  exact seg_call h2
def tGFor (wi : TI) (g : TG) (tb : TGn) : TGn := fun D ys σ H => wi σ H fun J H1 => ∃ W : Nat → Nat → List V → L2.St → Hp → Prop, (∃ m, W 0 m ys σ H1) ∧ ∀ i m ys σ H, W i m ys σ H →
  (J.stop i H ∧ D.nx ys σ H) ∨ (J.go i H ∧ ∃ N : List V → L2.St → Hp → Prop, (∀ ys' σ' H', N ys' σ' H' → ∃ m', m' < m ∧ W (i + 1) m' ys' σ' H') ∧ ∀ x H', J.yld i H x H' → g x σ H' fun σ2 H2 => tb { D with nx := N, ct := N, bk := D.nx } ys σ2 H2)
theorem gs_for {wi : TI} {g : TG} {tb : TGn} (hp : PassesOwn (model X.prog X.w) X.A X.env X.xe) (hc : X.calm = true) (hi : PI X tg iter wi) (hg : PG X tg g) (hb : GSs X body tb)
    (hs : ∀ x, foldedSetIterable iter X.env x = pure x := by intro _; with_unfolding_all rfl) : GS X (.For tg iter body [] pos) (tGFor wi g tb) := by
  refine ⟨fun A S ip R n ys s₀ c fs K J gd lv s σ H D gc hn k hI ht => ?_⟩
  obtain ⟨acc0, c0, r0, I0⟩ := hI
  refine seg_For ?_ hs
  rw [gc.over]
  refine wpAny_mono (hi.run _ s σ H _ I0 ht) (fun v s1 h1 => wpAny_mono h1 (fun itv s2 h2 => ?_) fun x s' hx => k.exc n s₀ x s' hx) fun x s' hx => k.exc n s₀ x s' hx
  obtain ⟨it, fp, tn, Jt, H2, e, I2, T, st2, f2, W, ⟨m0, w0⟩, turn⟩ := h2
  subst e
  intro p
  have gl := fun (kk : Result → Sem PySem.Fin) => gc_loop (k := kk) (c' := .forLoop tg (.ref it) body [] X.env) (l := lv []) (kp := []) (p := p) gc rfl rfl
  have hfS : ∀ b ∈ fp, b ≠ S := fun b hb z => by
    obtain ⟨_, _, _, _, _, q⟩ := f2 b hb
    exact q (S, lstObj acc0 c0) (List.mem_append_right _ List.mem_cons_self) z.symm
  have stat : ∀ {H' : Hp} (acc : Array Value) (cc : Nat), (∀ b ∈ fp, H' b = none) → ∀ b ∈ fp, FpOk X ((S, lstObj acc cc) :: ip) H' b := fun {H'} acc cc hn b hb => by
    obtain ⟨_, q1, q2, q3, q4, q5⟩ := f2 b hb
    refine ⟨hn b hb, q1, q2, q3, q4, fun u hu => ?_⟩
    rcases List.mem_append.mp hu with hu | hu
    · exact q5 u (List.mem_append_left _ hu)
    · rcases List.mem_cons.mp hu with rfl | hu
      · exact fun z => hfS b hb z.symm
      · exact q5 u (List.mem_append_right _ (List.mem_cons_of_mem _ hu))
  have loop : ∀ (m i n : Nat) (ys : List V) (s₀ s : Shared) (σ : L2.St) (H : Hp), n + ys.length = sizeLine → W i m ys σ H → tn i s.heap → (∀ b ∈ fp, H b = none) → GI X S ip ys σ H s →
      Seg (model X.prog X.w) A R (GY X S) n s₀ (.forLoop tg (.ref it) body [] X.env) ((model X.prog X.w).den (.forLoop tg (.ref it) body [] X.env))
        (.ret (fun r => ((match r with | .ok f => (.pure f : Sem Flow) | .error e => .raise e).onRaise (cameBack X.env)).wrap K J gd lv) none (gd false) (lv []) c p [] :: fs) s := by
    intro m
    induction m using Nat.strongRecOn with
    | ind m ih =>
      intro i n ys s₀ s σ H hn w st fr hI
      have ee : ∀ (n : Nat) (s₀ : Shared) (x : Value) (s' : Shared), X.xe x s' → Seg (model X.prog X.w) A R (GY X S) n s₀ (.forLoop tg (.ref it) body [] X.env)
          ((do noteFrame x X.env; theTreesLotGoes x : Sem Unit).wrap (fun _ => .raise x) .raise id id)
          (.ret (fun r => ((match r with | .ok f => (.pure f : Sem Flow) | .error e => .raise e).onRaise (cameBack X.env)).wrap K J gd lv) none (gd false) (lv []) c p [] :: fs) s' := fun n s₀ x s' hx => by
        refine seg_wrap ?_
        rw [(gl _).over]
        refine wpAny_bind (wpAny_mono (hp x s' hx) (fun _ s'' hcb => wpAny_theTreesLotGoes ?_) fun y s'' hcb => ?_)
        · exact seg_leaf (.error x) (seg_cameBack gc k hcb)
        · exact seg_leaf (.error y) (seg_cameBack gc k hcb)
      refine seg_forLoop ?_
      rw [(gl _).over]
      obtain ⟨acc, cc, r, I⟩ := hI
      rcases turn i m ys σ H w with ⟨stop, qn⟩ | ⟨go, N, hN, step⟩
      · refine wpAny_mono (T.done X rfl rfl rfl hc i _ s σ H X.xe I (stat acc cc fr) st stop) (fun r' s4 h4 => ?_) fun x s' hx => ee n s₀ x s' hx
        obtain ⟨hr, I4⟩ := h4
        subst hr
        refine seg_again rfl ?_
        show Seg _ _ _ _ _ _ _ ((execs [] X.env).wrap (fun f => .pure (.done f)) .raise id id) _ _
        exact seg_execs_nil (seg_leaf (.ok .next) (k.ok n ys s₀ s4 .next hn ⟨σ, H, ⟨acc, cc, r, I4⟩, qn⟩))
      · refine wpAny_mono (T.item X rfl rfl rfl hc i _ s σ H X.xe I (stat acc cc fr) st go) (fun r' s4 h4 => ?_) fun x s' hx => ee n s₀ x s' hx
        obtain ⟨u, hr, h4⟩ := h4
        subst hr
        refine wpAny_mono h4 (fun _ s5 h5 => ?_) fun x s' hx => ee n s₀ x s' hx
        obtain ⟨x, H5, I5, r5, y5, st5, fr5⟩ := h5
        have I5' := I5.pinned (stat acc cc fr5) (T.obj _ _ st5)
        refine wpAny_mono (hg.run _ s5 σ H5 x u _ I5' r5 (step x H5 y5)) (fun _ s6 h6 => ?_) fun x s' hx => ee n s₀ x s' hx
        obtain ⟨σ6, H6, I6, q6⟩ := h6
        have gl2 : ∀ (kk : Result → Sem PySem.Fin), GC X S (ip ++ pinsAt fp s5.heap) A (.forLoop tg (.ref it) body [] X.env) (.ret kk none (gd false) (lv []) c p [] :: fs) id := fun kk => ⟨gc.pn, fun q hq => by
          rcases List.mem_append.mp hq with z | z
          · exact gc.ip q z
          · exact hfS _ (of_pinsAt z).1, gc.apart, (gl kk).over, (gl kk).split, (gl kk).guard, rfl⟩
        refine hb.run A S (ip ++ pinsAt fp s5.heap) R n ys s₀ _ _ _ _ id id s6 σ6 H6 { D with nx := N, ct := N, bk := D.nx } (gl2 _) hn ⟨fun n' ys' s₀' s3 f hn' hs3 => ?_, fun n' s₀' x s3 hx => ee n' s₀' x s3 hx⟩ ⟨acc, cc, r, I6⟩ q6
        have back : ∀ {ys7 : List V} {σ7 : L2.St} {H7 : Hp}, GI X S (ip ++ pinsAt fp s5.heap) ys7 σ7 H7 s3 → GI X S ip ys7 σ7 H7 s3 := fun {ys7 σ7 H7} ⟨a7, c7, r7, I7⟩ => ⟨a7, c7, r7, Inv.unpinned (pins := (S, lstObj a7 c7) :: ip) I7⟩
        have again : ∀ {σ7 : L2.St} {H7 : Hp}, GI X S (ip ++ pinsAt fp s5.heap) ys' σ7 H7 s3 → N ys' σ7 H7 → Seg (model X.prog X.w) A R (GY X S) n' s₀' (.forLoop tg (.ref it) body [] X.env) (.pure (.again (.forLoop tg (.ref it) body [] X.env)))
            (.ret (fun r => ((match r with | .ok f => (.pure f : Sem Flow) | .error e => .raise e).onRaise (cameBack X.env)).wrap K J gd lv) none (gd false) (lv []) c p [] :: fs) s3 := fun {σ7 H7} G7 n7 => by
          obtain ⟨m', hm, w7⟩ := hN ys' σ7 H7 n7
          obtain ⟨a7, c7, r7, I7⟩ := id G7
          have pin7 : ∀ b ∈ fp, ∀ o, s5.heap.get? b = some o → _ := fun b hb o e => I7.pin (b, o) (List.mem_append_right _ (List.mem_cons_of_mem _ (List.mem_append_right _ (mem_pinsAt hb e))))
          refine seg_again rfl (ih m' hm (i + 1) n' ys' s₀' s3 σ7 H7 hn' w7 (T.keep _ _ _ st5 fun b hb o e => (pin7 b hb o e).1) (fun b hb => ?_) (back G7))
          obtain ⟨o, e, d⟩ := T.obj _ _ st5 b hb
          exact (pin7 b hb o e).2.1
        cases f with
        | next =>
          obtain ⟨σ3, H3, G3, n3⟩ := hs3
          exact again G3 n3
        | cont =>
          obtain ⟨σ3, H3, G3, n3⟩ := hs3
          exact again G3 n3
        | brk =>
          obtain ⟨σ3, H3, G3, n3⟩ := hs3
          exact seg_leaf (.ok .next) (k.ok n' ys' s₀' s3 .next hn' ⟨σ3, H3, back G3, n3⟩)
        | ret v =>
          obtain ⟨x7, σ3, H3, G3, rv, n3⟩ := hs3
          exact seg_leaf (.ok (.ret v)) (k.ok n' ys' s₀' s3 (.ret v) hn' ⟨x7, σ3, H3, back G3, rv, n3⟩)
  exact loop m0 0 n ys s₀ s2 σ H2 hn w0 st2 (fun b hb => (f2 b hb).1) ⟨acc0, c0, r0, I2⟩
end
end Sv

namespace Sv
open PySem PySem.Spec PyProof.Rows L2
/-! ### generator bodies by syntax -/
structure GWL (X : Cx) (sts : List Stmt) (D : GEnds) (ys : List V) (σ : L2.St) (H : Hp) : Prop where
  run : ∀ (A : Around) (S : Addr) (ip : List (Addr × Obj)) (R : GenEnd) (n : Nat) (s₀ : Shared) (c : Code) (fs : List Frame) (K : Flow → Sem PySem.Fin) (J : Value → Sem PySem.Fin) (gd : Bool → Bool) (lv : List Value → List Value) (s : Shared),
    GC X S ip A c fs gd → n + ys.length = sizeLine → GK X S ip A R c fs K J D → GI X S ip ys σ H s → Seg (model X.prog X.w) A R (GY X S) n s₀ c ((execs sts X.env).wrap K J gd lv) fs s
structure GWS (X : Cx) (st : Stmt) (D : GEnds) (ys : List V) (σ : L2.St) (H : Hp) : Prop where
  run : ∀ (A : Around) (S : Addr) (ip : List (Addr × Obj)) (R : GenEnd) (n : Nat) (s₀ : Shared) (c : Code) (fs : List Frame) (K : Flow → Sem PySem.Fin) (J : Value → Sem PySem.Fin) (gd : Bool → Bool) (lv : List Value → List Value) (s : Shared),
    GC X S ip A c fs gd → n + ys.length = sizeLine → GK X S ip A R c fs K J D → GI X S ip ys σ H s → Seg (model X.prog X.w) A R (GY X S) n s₀ c ((exec st X.env).wrap K J gd lv) fs s
section
variable {X : Cx} {N L S G B : List Str} {st : Stmt} {sts : List Stmt} {e tg iter : Expr} {D : GEnds} {ys : List V} {σ : L2.St} {H : Hp} {pos yp : Pos}
theorem gss_w : GSs X sts (GWL X sts) := ⟨fun A S ip R n ys s₀ c fs K J gd lv s σ H D g hn k hI h => h.run A S ip R n s₀ c fs K J gd lv s g hn k hI⟩
theorem gs_w : GS X st (GWS X st) := ⟨fun A S ip R n ys s₀ c fs K J gd lv s σ H D g hn k hI h => h.run A S ip R n s₀ c fs K J gd lv s g hn k hI⟩
theorem gss_to {t : TGn} (a : GSs X sts t) (h : t D ys σ H) : GWL X sts D ys σ H := ⟨fun A S ip R n s₀ c fs K J gd lv s g hn k hI => a.run A S ip R n ys s₀ c fs K J gd lv s σ H D g hn k hI h⟩
theorem gs_to {t : TGn} (a : GS X st t) (h : t D ys σ H) : GWS X st D ys σ H := ⟨fun A S ip R n s₀ c fs K J gd lv s g hn k hI => a.run A S ip R n ys s₀ c fs K J gd lv s σ H D g hn k hI h⟩
theorem gwl_nil (q : D.nx ys σ H) : GWL X [] D ys σ H := gss_to gss_nil q
theorem gwl_cons (h : GWS X st { D with nx := fun ys' σ' H' => GWL X sts D ys' σ' H' } ys σ H) : GWL X (st :: sts) D ys σ H := gss_to (gss_cons gs_w gss_w) h
theorem gws_plain (h : WS X st (D.at ys) σ H) : GWS X st D ys σ H := gs_to (gs_ps ps_w) h
theorem gws_yield (hl : ys.length < sizeLine) (h : WE X e σ H fun x H1 => D.nx (ys ++ [x]) σ H1) (hco : X.env.scope.isCoroutine = false) (hi : interactive X.env = false) : GWS X (.Expr (.Yield (some e) yp) pos) D ys σ H := gs_to (gs_yield pe_w hco hi) ⟨hl, h⟩
theorem gws_for (hp : PassesOwn (model X.prog X.w) X.A X.env X.xe) (hc : Nm X N L S G B)
    (h : WI X tg iter σ H fun J H1 => ∃ n it, Wlk J n it H1 ∧ ∃ Pv : Nat → List V → L2.St → Hp → Prop, Pv 0 ys σ H1 ∧ (∀ i ys' σ' H', Pv i ys' σ' H' → Same H1 H') ∧
      (∀ i ys' σ' H', i < n → Pv i ys' σ' H' → WG X tg (it i) σ' H' fun σ2 H2 => GWL X sts { D with nx := Pv (i + 1), ct := Pv (i + 1), bk := D.nx } ys' σ2 H2) ∧ ∀ ys' σ' H', Pv n ys' σ' H' → D.nx ys' σ' H')
    (hs : ∀ x, foldedSetIterable iter X.env x = pure x := by intro _; with_unfolding_all rfl) : GWS X (.For tg iter sts [] pos) D ys σ H := by
  refine gs_to (gs_for hp hc.calm pi_w pg_w gss_w hs) ?_
  refine ⟨fun pins s I => thn (h.run pins s I) fun v s1 h1 => thn h1 fun itv s2 ⟨it, fp, tn, J, H', e, I', T, t0, hf, n, itm, W, Pv, p0, hsm, hst, hd⟩ => ⟨it, fp, tn, J, H', e, I', T, t0, hf, ?_⟩⟩
  refine ⟨fun i m ys' σ' H'' => m = n - i ∧ i ≤ n ∧ Pv i ys' σ' H'', ⟨n, by simp, Nat.zero_le _, p0⟩, ?_⟩
  rintro i m ys' σ' H'' ⟨rfl, hi, p⟩
  by_cases hlt : i < n
  · refine .inr ⟨W.go i H'' hlt (hsm _ _ _ _ p), Pv (i + 1), fun ys2 σ2 H2 p' => ⟨n - (i + 1), by omega, rfl, hlt, p'⟩, fun x H3 y => ?_⟩
    obtain ⟨rfl, rfl⟩ := W.yld i H'' x H3 hlt (hsm _ _ _ _ p) y
    exact hst i ys' σ' _ hlt p
  · have e : i = n := by omega
    subst e
    exact .inl ⟨W.stop _ _ (Nat.le_refl _) (hsm _ _ _ _ p), hd _ _ _ p⟩
end
/-! ### a generator def -/
def gscB (N ps L G B : List Str) (sc : Scope) : Bool :=
  (match sc.kind with | .function => true | _ => false) && !sc.isCoroutine && sc.isGenerator && decide N.Nodup && decide (N.take ps.length = ps) && ps.all (locB sc) && (sc.names.all fun y => match y.2 with | .free => false | _ => true) &&
  (L.all fun x => locB sc x && !(x == ("__debug__" : Str)) && !(x == ("__classdict__" : Str))) && (G.all fun x => gloB sc x && !(x == ("__debug__" : Str)) && decide (x ≠ "__name__")) && (B.all fun x => gloB sc x && !(x == ("__debug__" : Str)) && decide (x ≠ "__name__"))
theorem gscB_ok {N ps L G B : List Str} {sc : Scope} (h : gscB N ps L G B sc = true) : GScope N ps sc ∧ (∀ x ∈ L, Loc sc x ∧ (x == ("__debug__" : Str)) = false ∧ (x == ("__classdict__" : Str)) = false) ∧
    (∀ x ∈ G, sc.names.lookup x = some .globalImplicit ∧ (x == ("__debug__" : Str)) = false ∧ x ≠ "__name__") ∧ (∀ x ∈ B, sc.names.lookup x = some .globalImplicit ∧ (x == ("__debug__" : Str)) = false ∧ x ≠ "__name__") := by
  unfold gscB at h
  simp only [Bool.and_eq_true, List.all_eq_true, decide_eq_true_eq, Bool.not_eq_true'] at h
  obtain ⟨⟨⟨⟨⟨⟨⟨⟨⟨h1, h2⟩, h3⟩, h4⟩, h5⟩, h6⟩, h7⟩, h8⟩, h9⟩, h10⟩ := h
  refine ⟨⟨?_, h2, h3, h4, h5, fun x hx => locB_ok (h6 x hx), fun y hy e => ?_⟩, fun x hx => ⟨locB_ok (h8 x hx).1.1, (h8 x hx).1.2, (h8 x hx).2⟩, fun x hx => ⟨gloB_ok (h9 x hx).1.1, (h9 x hx).1.2, (h9 x hx).2⟩, fun x hx => ⟨gloB_ok (h10 x hx).1.1, (h10 x hx).1.2, (h10 x hx).2⟩⟩
  · split at h1
    · assumption
    · cases h1
  · have := h7 y hy
    rw [e] at this
    cases this
abbrev gcx (P : Program) (w : World) (K : PySem.W.Frag) (mg : Str → Option Value) (base : Heap) (N : List Str) (qual : Str) (sc : Scope) (f : Addr) (cd : Value) (A : Around) (outer : List Env) (s : Shared) (H : Hp) (E : XK) (pn : List (Addr × Obj)) : Cx := gcxOf P w K mg base N qual sc f cd A outer s H E pn
theorem gnm_of {P : Program} {w : World} {K : PySem.W.Frag} {mg : Str → Option Value} {base : Heap} {N ps L G B : List Str} {qual : Str} {sc : Scope} {f : Addr} {cd : Value} {A : Around} {outer : List Env} {s : Shared} {H : Hp} {E : XK} {pn : List (Addr × Obj)} (h : gscB N ps L G B sc = true) (hb : ∀ x ∈ B, mg x = none) :
    Nm (gcx P w K mg base N qual sc f cd A outer s H E pn) N L L G B := by
  obtain ⟨F, hL, hG, hB⟩ := gscB_ok h
  exact ⟨rfl, F.nd, fun x hx => ⟨by rcases (hL x hx).1 with z | z; exact .inl z; exact .inr (.inl z), (hL x hx).2⟩, fun x hx => ⟨(hL x hx).1, .inl rfl⟩, hG, hb, hB, rfl⟩
/-- THE RULE for a generator def without defaults -/
theorem gfn_by {P : Program} {w : World} {K : PySem.W.Frag} {mg : Str → Option Value} {base : Heap} {N ps L G B : List Str} {k : Nat} {x qual : Str} {params : Arguments} {body : List Stmt} {sc : Scope} {f : Addr} {fd : FuncData} {sp : SpG}
    (F : FunD K x qual params body sc [] [] f fd) (S : gscB N ps L G B sc = true) (len : ∀ vs H Q E, sp vs H Q E → vs.length = ps.length) (hb : ∀ x ∈ B, mg x = none)
    (hbody : ∀ (cd : Value) (A : Around) (outer : List Env) (s : Shared) (H : Hp) (vs : List V) (Q : List V → Hp → Prop) (E : XK) (pn : List (Addr × Obj)), Room k (gcx P w K mg base N qual sc f cd A outer s H E pn).A → Nm (gcx P w K mg base N qual sc f cd A outer s H E pn) N L L G B → sp vs H Q E →
      GWL (gcx P w K mg base N qual sc f cd A outer s H E pn) body { nx := fun ys _ H' => Q ys H', rt := fun ys v H' => v = .non ∧ Q ys H' } [] (start N vs) H) : GFn P w K mg base (k + 1) f fd ps sp := by
  obtain ⟨oc, od, dV, kV, doc, pm, an, cdv, ct, osl, rfl, lk, hcd, _, _⟩ := F.ex
  exact gfn_of lk hcd (gscB_ok S).1 len fun A outer s H vs Q E pn hr h => ⟨GWL (gcx P w K mg base N qual sc f cdv A outer s H E pn) body, gss_w, hbody cdv A outer s H vs Q E pn hr (gnm_of S hb) h⟩
/-- o.m(..), a generator method of the class at C -/
structure GMt (P : Program) (w : World) (K : PySem.W.Frag) (mg : Str → Option Value) (base : Heap) (C : Addr) (m : Str) (k : Nat) (sp : SpG) : Prop where
  ex : ∃ f fd ps, Cls K C ∧ Meth K C m f ∧ GFn P w K mg base k f fd ps sp ∧ Binds K fd ps []
theorem x_listM {X : Cx} {N L S G B : List Str} {o e : Expr} {es : List Expr} {m : Str} {C : Addr} {k j : Nat} {sp : SpG} {σ : L2.St} {H : Hp} {Q : VK} {p apos pos' pos : Pos} {pl : Sem Bool} (c : Nm X N L S G B) (mm : Mb "list" B) (F : GMt X.prog X.w X.K X.mg X.base C m k sp) (hr : Room j X.A) (hj : k + 3 ≤ j)
    (h : WE X o σ H fun x H1 => ∃ a dx fs, x = .ref a ∧ H1 a = some (.ins C dx fs) ∧ fs.lookup m = none ∧ WA X (e :: es) σ H1 fun vs H2 => sp (.ref a :: vs) H2 (fun out H3 => ∀ q, H3 q = none → Q (.ref q) (upd H3 q (.lst out))) E0)
    (hst : starEach (e :: es) X.env = (false, eval e X.env) :: starEach es X.env := by with_unfolding_all rfl) (hpl : (backTo pos' (starEach es X.env)).any (·.1) = false := by with_unfolding_all rfl)
    (ht : eval (.Call (.Attribute o m apos) (e :: es) [] pos') X.env = (do
      let ov ← eval o X.env
      standAt apos.atName
      let (f, first) ← holding [ov] (getMethod ov m pl)
      callWith pos' f first (backTo pos' (starEach (e :: es) X.env)) (backToKw pos' (keywordEach [] X.env))) := by with_unfolding_all rfl)
    (he : starEach [.Call (.Attribute o m apos) (e :: es) [] pos'] X.env = (false, eval (.Call (.Attribute o m apos) (e :: es) [] pos') X.env) :: starEach [] X.env := by with_unfolding_all rfl) :
    WE X (.Call (.Name "list" p) [.Call (.Attribute o m apos) (e :: es) [] pos'] [] pos) σ H Q := by
  obtain ⟨f, fd, ps, cl, hm, F, hB⟩ := F.ex
  refine (pe_listG (E := E0) (pgen_meth (E := E0) pe_w cl hm F (hr.mono (by omega)) hB .nil pa_w hst hpl ht) passL (fun _ _ _ z => z.elim) (hr.mono hj) (c.bgl _ mm.mem).1 (c.blt _ mm.mem) bt_list (he := he)).w ?_
  refine WE.imp h fun x H1 ⟨a, dx, fs, ex, ha, hl, q⟩ => ⟨a, dx, fs, ex, ha, hl, WA.imp q fun vs H2 q2 => ?_⟩
  rw [List.append_nil, ex]
  exact q2
theorem wl_startG {X : Cx} {sts : List Stmt} {D : GEnds} {ys : List V} {σ σ' : L2.St} {H : Hp} (e : σ = σ') (h : GWL X sts D ys σ' H) : GWL X sts D ys σ H := e ▸ h
theorem gEx {α : Type} {p : α → Prop} (h : ∃ x, p x) : ∃ x, p x := h
/-! tests for None -/
theorem dec_nn : decide (V.non = V.non) = true := decide_eq_true rfl
theorem dec_rn {a : Addr} : decide (V.ref a = V.non) = false := decide_eq_false (fun z => nomatch z)
theorem ite_nn {A B : Prop} (h : A) : if decide (V.non = V.non) = true then A else B := by rw [dec_nn, if_pos rfl]; exact h
theorem ite_rn {a : Addr} {A B : Prop} (h : B) : if decide (V.ref a = V.non) = true then A else B := by rw [dec_rn, if_neg (by decide)]; exact h
theorem ite_nnn {A B : Prop} (h : B) : if (!decide (V.non = V.non)) = true then A else B := by rw [dec_nn]; exact h
theorem ite_nrn {a : Addr} {A B : Prop} (h : A) : if (!decide (V.ref a = V.non)) = true then A else B := by rw [dec_rn]; exact h
/-- a statement, then what is known behind it -/
theorem WS.cut {X : Cx} {st : Stmt} {D : Ends} {σ : L2.St} {H : Hp} (M : L2.St → Hp → Prop) (h : WS X st { D with nx := M } σ H) (k : ∀ σ' H', M σ' H' → D.nx σ' H') : WS X st D σ H :=
  ⟨fun pins s I => thn (h.run pins s I) fun f s' z => by
    cases f with
    | next => obtain ⟨σ', H', I', m⟩ := z; exact ⟨σ', H', I', k _ _ m⟩
    | brk => exact z
    | cont => exact z
    | ret u => exact z⟩
theorem dec_in {i : Int} : decide (V.int i = V.non) = false := decide_eq_false (fun z => nomatch z)
theorem dec_tt : decide (true = true) = true := rfl
end Sv

namespace Sv
open PySem PySem.Spec PyProof.Rows L2
section
variable {X : Cx} {N L S G B : List Str} {a e : Expr} {σ : L2.St} {H : Hp} {Q : VK} {p p2 p3 pos : Pos}
theorem rgV_nat (n : Nat) : rgV 0 ((n : Nat) : Int) = (List.range n).map fun i => V.int ((i : Nat) : Int) := by
  unfold rgV
  rw [show (((n : Nat) : Int) - 0).toNat = n by omega]
  exact List.map_congr_left fun i _ => by rw [Int.zero_add]
/-- list(range(n)) -/
theorem x_listRg (c : Nm X N L S G B) (m : Mb "list" B) (m2 : Mb "range" B) (h : WE X a σ H fun x H1 => ∃ n : Nat, x = .int (n : Nat) ∧ n ≤ 16777216 ∧ ∀ q H', H1 q = none → Same H1 H' → H' q = some (.lst ((List.range n).map fun i => V.int ((i : Nat) : Int))) → Q (.ref q) H')
    (na2 : starEach [a] X.env = (false, eval a X.env) :: starEach [] X.env := by with_unfolding_all rfl)
    (na : starEach [.Call (.Name "range" p2) [a] [] p3] X.env = (false, eval (.Call (.Name "range" p2) [a] [] p3) X.env) :: starEach [] X.env := by with_unfolding_all rfl) : WE X (.Call (.Name "list" p) [.Call (.Name "range" p2) [a] [] p3] [] pos) σ H Q :=
  (pe_listRg c.calm (c.bgl _ m.mem).1 (c.blt _ m.mem) (prg_1 (c.bgl _ m2.mem).1 (c.blt _ m2.mem) pe_w na2) na).w (WE.imp h fun x H1 ⟨n, e, hn, q⟩ => ⟨((n : Nat) : Int), e, RgOk.of_le (by omega) (by omega) (by omega) (by omega), fun q' hq => by rw [rgV_nat]; exact q q' _ hq (same_new hq) upd_same⟩)
theorem bt_repr : bootBuiltins "repr" = some (.builtin "repr") := by decide +kernel
/-- repr of an int -/
theorem x_repr (c : Nm X N L S G B) (m : Mb "repr" B) (h : WE X e σ H fun x H1 => ∃ i : Int, x = .int i ∧ i.natAbs.log2 < 1920 ∧ Q (.str (toString i)) H1) (hs : starEach [e] X.env = (false, eval e X.env) :: starEach [] X.env := by with_unfolding_all rfl) (hpl : (backTo pos (starEach [] X.env)).any (·.1) = false := by with_unfolding_all rfl) : WE X (.Call (.Name "repr" p) [e] [] pos) σ H Q :=
  w_callB c m bt_repr (wa_cons (WE.imp h fun x H1 ⟨i, ex, hz, q⟩ => wa_nil (by rw [ex]; exact (SkE.call_repr_int).w ⟨i, rfl, hz, q⟩)) hs) hs hpl
theorem b_fdivW {i j : Int} (h : 0 < j ∧ j.natAbs.log2 < 9000) (q : Q (.int (i / j)) H) : WB X (binaryOp .FloorDiv) (.int i) (.int j) σ H Q := op_fdivW.w ⟨_, _, rfl, rfl, h, q⟩
end
end Sv

namespace Sv
open PySem PySem.Spec PyProof.Rows L2
section
variable {X : Cx} {N L S G B : List Str} {e : Expr} {σ : L2.St} {H : Hp} {Q : VK} {p pos : Pos}
theorem bt_dict : bootBuiltins "dict" = some (.type "dict") := by decide +kernel
/-- dict(xs) of a list of pairs -/
theorem x_dictP (c : Nm X N L S G B) (m : Mb "dict" B) (h : WE X e σ H fun x H1 => ∃ (a : Addr) (ps : List Addr) (kvs : List (Key × V)), x = .ref a ∧ SqL X.K H1 a (ps.map V.ref) ∧ Paired (fun p kv => SqT X.K H1 p [kV kv.1, kv.2]) ps kvs ∧ ∀ p H', H1 p = none → Same H1 H' → H' p = some (.dK (mergeK [] kvs)) → Q (.ref p) H')
    (hs : starEach [e] X.env = (false, eval e X.env) :: starEach [] X.env := by with_unfolding_all rfl) (hpl : (backTo pos (starEach [] X.env)).any (·.1) = false := by with_unfolding_all rfl) : WE X (.Call (.Name "dict" p) [e] [] pos) σ H Q :=
  w_callTy c m bt_dict (wa_cons (WE.imp h fun x H1 ⟨a, ps, kvs, ex, hq, hp, q⟩ => wa_nil (by rw [ex]; exact (call_dictP c.calm).w ⟨a, ps, kvs, rfl, hq, hp, newly' (Q := fun p H' => Q (.ref p) H') q⟩)) hs) hs hpl
/-- y in d -/
theorem b_inD {y : V} {a : Addr} {o : Option V} (hu : X.A.units + 1 < cLine) (g : DGet H a y o) (q : Q (.bl o.isSome) H) : WB X (compareOp .In) y (.ref a) σ H Q := ⟨fun pins s v u I rx ry => by
  obtain rfl : u = Value.ref a := ry
  exact d_in hu I g rx fun s3 I3 => ⟨.bl o.isSome, H, I3, rfl, q⟩⟩
end
theorem valV_merge (k : Key) : ∀ (more kvs : List (Key × V)), (valV (mergeK kvs more) k).isSome = ((valV kvs k).isSome || more.any fun kv => decide (kv.1 = k))
  | [], kvs => by show _ = ((valV kvs k).isSome || false); rw [Bool.or_false]; rfl
  | kv :: more, kvs => by
    show (valV (mergeK (putK kvs kv.1 kv.2) more) k).isSome = _
    rw [valV_merge k more, valV_put, List.any_cons]
    by_cases h : k = kv.1
    · rw [if_pos h, decide_eq_true h.symm]; simp
    · rw [if_neg h, decide_eq_false (fun z => h z.symm), Bool.false_or]
/-- lists of numbers as data -/
theorem dps_ints {K : PySem.W.Frag} {H : Hp} : ∀ ns : List Nat, DpAll K H ((ns.map fun n => ((n : Nat) : Int)).map V.int) ((ns.map fun n => ((n : Nat) : Int)).map PyData.int)
  | [] => .nil
  | _ :: ns => .cons (.int _) (dps_ints ns)
theorem eqv_ints : ∀ ns : List Int, PyData.eqvAll (ns.map PyData.int) (ns.map PyData.int) = true
  | [] => by simp [PyData.eqvAll]
  | n :: ns => by
    have := eqv_ints ns
    simp only [List.map_cons, PyData.eqvAll, this]
    simp [PyData.eqv]
theorem eqv_list (ns : List Int) : PyData.eqv (.list (ns.map PyData.int)) (.list (ns.map PyData.int)) = true := by
  have := eqv_ints ns
  simp only [PyData.eqv, this]
end Sv

namespace Sv
open PySem PySem.Spec PyProof.Rows L2
section
variable {X : Cx} {o e : Expr} {σ : L2.St} {H : Hp} {Q : VK} {apos pos : Pos}
/-- xs.index(e) of flat items -/
theorem w_lindex (h : WE X o σ H fun x H1 => ∃ l, x = .ref l ∧ (∃ xs, SqL X.K H1 l xs) ∧ WE X e σ H1 fun y H2 => ∃ (ys : List V) (j : Nat) (z : V), SqL X.K H2 l ys ∧ flatV y = true ∧ ys.all flatV = true ∧ ys[j]? = some z ∧ eqV z y = true ∧ (∀ (m : Nat) (z' : V), m < j → ys[m]? = some z' → eqV z' y = false) ∧ Q (.int (j : Nat)) H2)
    (hbase : attributeBase o "index" X.env (eval o X.env) = eval o X.env := by with_unfolding_all rfl)
    (hfew : ((backTo pos (starEach [e] X.env)).all (fun x => !x.1) && (backToKw pos (keywordEach [] X.env)).all (fun x => x.1.isSome)
      && decide ([e].length + ([] : List Keyword).length + (if ([] : List Keyword).isEmpty then 0 else 1) < 30)) = true := by with_unfolding_all rfl)
    (hline : (apos.endLine == pos.line) = true := by with_unfolding_all rfl) (hs : starEach [e] X.env = (false, eval e X.env) :: starEach [] X.env := by with_unfolding_all rfl) : WE X (.Call (.Attribute o "index" apos) [e] [] pos) σ H Q := by
  refine (pe_bm PySem.F.plainAttrs_list PySem.F.slot_list_index PySem.F.type_list_index mt_index pe_w (pa_cons pe_w pa_nil hs) hbase hfew hline hs rfl).w ?_
  exact WE.imp h fun x H1 ⟨l, e1, ⟨xs, hx⟩, q⟩ => ⟨by rw [e1]; exact Or.inl ⟨rfl, xs, hx⟩, WE.imp q fun y H2 ⟨ys, j, z, h2, fy, fys, hz, ez, hno, q⟩ => ⟨l, ys, y, j, z, e1, rfl, h2, fy, fys, hz, ez, hno, q⟩⟩
end
theorem call_repr_bool {X : Cx} : CallR X (.builtin "repr") (fun xs H Q => ∃ b : Bool, xs = [.bl b] ∧ Q (.str (if b then "True" else "False")) H) := by
  intro pins s σ H xs us Q I r h
  obtain ⟨b, rfl, q⟩ := h
  obtain ⟨u, rfl, hu⟩ := vals1 r
  obtain rfl : u = .bool b := hu
  exact PySem.P.repr_of_bool ⟨.str _, H, I.tok _, ⟨_, rfl⟩, q⟩
/-- repr of a bool -/
theorem x_reprB {X : Cx} {N L S G B : List Str} {e : Expr} {σ : L2.St} {H : Hp} {Q : VK} {p pos : Pos} (c : Nm X N L S G B) (m : Mb "repr" B) (h : WE X e σ H fun x H1 => ∃ b : Bool, x = .bl b ∧ Q (.str (if b then "True" else "False")) H1) (hs : starEach [e] X.env = (false, eval e X.env) :: starEach [] X.env := by with_unfolding_all rfl) (hpl : (backTo pos (starEach [] X.env)).any (·.1) = false := by with_unfolding_all rfl) : WE X (.Call (.Name "repr" p) [e] [] pos) σ H Q :=
  w_callB c m bt_repr (wa_cons (WE.imp h fun x H1 ⟨b, ex, q⟩ => wa_nil (by rw [ex]; exact call_repr_bool.w ⟨b, rfl, q⟩)) hs) hs hpl
theorem dec_sn {x : Str} : decide (V.str x = V.non) = false := decide_eq_false (fun z => nomatch z)
theorem flat_ints (ns : List Int) : (ns.map V.int).all flatV = true := by
  rw [List.all_map, List.all_eq_true]
  intro x _
  rfl
theorem inV_ints (n : Nat) (ns : List Nat) : inV (.int ((n : Nat) : Int)) ((ns.map fun n => ((n : Nat) : Int)).map V.int) = ns.any (· == n) := by
  unfold inV
  rw [List.any_map, List.any_map]
  congr 1
  funext m
  show (((m : Nat) : Int) == ((n : Nat) : Int)) = (m == n)
  rw [Bool.eq_iff_iff, beq_iff_eq, beq_iff_eq]
  exact Int.natCast_inj
theorem eqv_nil (ns : List Int) : PyData.eqv (.list (ns.map PyData.int)) (.list []) = ns.isEmpty := by
  cases ns with
  | nil => simp [PyData.eqv, PyData.eqvAll]
  | cons n ns => simp [PyData.eqv, PyData.eqvAll]
end Sv

/-! Beginnings: the numbers with f by their index, and where there is room between them. -/
namespace Sv
open PySem PySem.Spec PyProof.Rows L2

open Classical in
/-- the i-th number with f -/
noncomputable def nthF (f : Nat → Bool) (i : Nat) : Nat := if h : ∃ n, f n = true ∧ ct f n = i then Classical.choose h else 0
theorem nthF_eq {f : Nat → Bool} {n i : Nat} (h1 : f n = true) (h2 : ct f n = i) : nthF f i = n := by
  have h : ∃ n, f n = true ∧ ct f n = i := ⟨n, h1, h2⟩
  unfold nthF
  rw [dif_pos h]
  obtain ⟨a, b⟩ := Classical.choose_spec h
  exact ct_inj a h1 (b.trans h2.symm)
/-- there is a number of each index -/
def AllN (f : Nat → Bool) : Prop := ∀ i, f (nthF f i) = true ∧ ct f (nthF f i) = i
theorem Per.all {f : Nat → Bool} {p : Nat} (h : Per f p) (hp : 0 < ct f p) : AllN f := fun i => by
  obtain ⟨n, a, b⟩ := nth_of h hp i
  rw [nthF_eq a b]
  exact ⟨a, b⟩
theorem Pat.all {l : List Bool} (p : Pat l) : AllN (kp l) := (kp_per l).all p.size
theorem AllN.lt {f : Nat → Bool} (h : AllN f) {i j : Nat} (l : i < j) : nthF f i < nthF f j := by
  refine Classical.byContradiction fun z => ?_
  have := ct_mono f (show nthF f j ≤ nthF f i by omega)
  rw [(h i).2, (h j).2] at this
  omega
theorem AllN.lt_of {f : Nat → Bool} (h : AllN f) {i P : Nat} (l : i < ct f P) : nthF f i < P := by
  refine Classical.byContradiction fun z => ?_
  have := ct_mono f (show P ≤ nthF f i by omega)
  rw [(h i).2] at this
  omega
theorem AllN.ge {f : Nat → Bool} (h : AllN f) {i P : Nat} (l : ct f P ≤ i) : P ≤ nthF f i := by
  refine Classical.byContradiction fun z => ?_
  have := ct_lt (h i).1 (show nthF f i < P by omega)
  rw [(h i).2] at this
  omega
theorem AllN.per {f : Nat → Bool} (h : AllN f) {P : Nat} (hp : Per f P) (i : Nat) : nthF f (i + ct f P) = nthF f i + P :=
  nthF_eq (by rw [hp]; exact (h i).1) (by rw [Nat.add_comm (nthF f i), ct_add hp, (h i).2, Nat.add_comm])
/-- b's numbers have room within a's -/
structure Fit (a b : Nat → Nat) (L : Nat) : Prop where
  low : b 0 ≤ a 0
  step : ∀ i, i + 1 < L → b (i + 1) + a i ≤ a (i + 1) + b i
  top : b L + a 0 + a (L - 1) ≤ a L + b 0 + b (L - 1)
def Quasi (a : Nat → Nat) (L : Nat) : Prop := ∀ i, a (i + L) + a 0 = a i + a L
theorem AllN.quasi {f : Nat → Bool} (h : AllN f) {P : Nat} (hp : Per f P) : Quasi (nthF f) (ct f P) := fun i => by
  have e := h.per hp 0
  rw [Nat.zero_add] at e
  rw [h.per hp, e]
  omega
theorem Quasi.mul {a : Nat → Nat} {L : Nat} (h : Quasi a L) (i : Nat) : ∀ k, a (i + k * L) + k * a 0 = a i + k * a L
  | 0 => by simp
  | k + 1 => by
    have e1 := h.mul i k
    have e2 := h (i + k * L)
    rw [show i + (k + 1) * L = i + k * L + L by rw [Nat.succ_mul]; omega, Nat.succ_mul, Nat.succ_mul]
    omega
theorem fit_mul {a b : Nat → Nat} {L k : Nat} (qa : Quasi a L) (qb : Quasi b L) (hL : 0 < L) (hk : 0 < k) : Fit a b L ↔ Fit a b (k * L) := by
  have e1 : k * L - 1 = (L - 1) + (k - 1) * L := by
    obtain ⟨k', rfl⟩ : ∃ k', k = k' + 1 := ⟨k - 1, by omega⟩
    rw [Nat.add_sub_cancel, Nat.succ_mul]
    omega
  have a1 := qa.mul (L - 1) (k - 1)
  have b1 := qb.mul (L - 1) (k - 1)
  have a2 := qa.mul 0 k
  have b2 := qb.mul 0 k
  rw [Nat.zero_add] at a2 b2
  have ka : k * a 0 = (k - 1) * a 0 + a 0 := by
    obtain ⟨k', rfl⟩ : ∃ k', k = k' + 1 := ⟨k - 1, by omega⟩
    rw [Nat.add_sub_cancel, Nat.succ_mul]
  have kb : k * b 0 = (k - 1) * b 0 + b 0 := by
    obtain ⟨k', rfl⟩ : ∃ k', k = k' + 1 := ⟨k - 1, by omega⟩
    rw [Nat.add_sub_cancel, Nat.succ_mul]
  have ka2 : k * a L = (k - 1) * a L + a L := by
    obtain ⟨k', rfl⟩ : ∃ k', k = k' + 1 := ⟨k - 1, by omega⟩
    rw [Nat.add_sub_cancel, Nat.succ_mul]
  have kb2 : k * b L = (k - 1) * b L + b L := by
    obtain ⟨k', rfl⟩ : ∃ k', k = k' + 1 := ⟨k - 1, by omega⟩
    rw [Nat.add_sub_cancel, Nat.succ_mul]
  constructor
  · intro F
    refine ⟨F.low, fun i hi => ?_, ?_⟩
    · have hr : i % L < L := Nat.mod_lt _ hL
      have hd : i = i % L + i / L * L := by rw [Nat.mul_comm]; exact (Nat.mod_add_div i L).symm
      generalize i % L = r at *
      generalize i / L = q at *
      subst hd
      have a3 := qa.mul r q
      have b3 := qb.mul r q
      by_cases h : r + 1 < L
      · have a4 := qa.mul (r + 1) q
        have b4 := qb.mul (r + 1) q
        have st := F.step r h
        rw [show r + q * L + 1 = r + 1 + q * L by omega]
        omega
      · have er : r = L - 1 := by omega
        have a4 := qa.mul 0 (q + 1)
        have b4 := qb.mul 0 (q + 1)
        rw [Nat.zero_add, Nat.succ_mul q (a 0), Nat.succ_mul q (a L)] at a4
        rw [Nat.zero_add, Nat.succ_mul q (b 0), Nat.succ_mul q (b L)] at b4
        rw [show r + q * L + 1 = (q + 1) * L by rw [Nat.succ_mul]; omega]
        have t := F.top
        have l := F.low
        rw [er] at a3 b3 ⊢
        omega
    · have t := F.top
      rw [e1]
      omega
  · intro F
    have hle : L ≤ k * L := Nat.le_mul_of_pos_left _ hk
    refine ⟨F.low, fun i hi => F.step i (by omega), ?_⟩
    have t := F.top
    rw [e1] at t
    omega
/-- the period of f's that holds L of its numbers, p of them s -/
theorem ct_of {f : Nat → Bool} {p L : Nat} (hp : Per f p) (h : ct f p ∣ L) : Per f (p * (L / ct f p)) ∧ ct f (p * (L / ct f p)) = L := ⟨hp.dvd (Nat.dvd_mul_right _ _), ct_top hp h⟩
/-- whether the fit is asked over some numbers or over more of them -/
theorem fit_more {f g : Nat → Bool} {p q L M : Nat} (hf : Per f p) (hg : Per g q) (h1 : 0 < ct f p) (h2 : 0 < ct g q) (d1 : ct f p ∣ L) (d2 : ct g q ∣ L) (hL : 0 < L) (hM : 0 < M) (d : L ∣ M) : Fit (nthF f) (nthF g) L ↔ Fit (nthF f) (nthF g) M := by
  obtain ⟨k, rfl⟩ := d
  rw [Nat.mul_comm L k]
  have hk : 0 < k := Nat.pos_of_ne_zero fun z => by rw [z] at hM; simp at hM
  have f1 := ct_of hf d1
  have g1 := ct_of hg d2
  have qf := (hf.all h1).quasi f1.1
  have qg := (hg.all h2).quasi g1.1
  rw [f1.2] at qf
  rw [g1.2] at qg
  exact fit_mul qf qg hL hk
theorem ct_diff (f : Nat → Bool) {x y : Nat} (h : x ≤ y) : ct f y + x ≤ y + ct f x := by
  induction h with
  | refl => omega
  | step h ih => rw [ct_succ]; split <;> omega
/-- what is kept of what is kept has room -/
theorem fit_cmp {a g : Nat → Bool} {P : Nat} (ha : Per a P) (hs : 0 < ct a P) (hg : Per g (ct a P)) (h2 : 0 < ct g (ct a P)) : Fit (nthF (cmp a g)) (nthF g) (ct g (ct a P)) := by
  have A := ha.all hs
  have G := hg.all h2
  have hP : Per (cmp a g) P := fun n => by
    unfold cmp
    rw [ha, Nat.add_comm n P, ct_add ha, Nat.add_comm (ct a P), hg]
  have hc : ct (cmp a g) P = ct g (ct a P) := ct_cmp a g P
  have F := hP.all (by rw [hc]; exact h2)
  have key : ∀ i, ct a (nthF (cmp a g) i) = nthF g i := fun i => by
    obtain ⟨h1, h2⟩ := F i
    have h3 : (a (nthF (cmp a g) i) && g (ct a (nthF (cmp a g) i))) = true := h1
    rw [Bool.and_eq_true] at h3
    rw [ct_cmp] at h2
    exact (nthF_eq h3.2 h2).symm
  have e1 := F.per hP 0
  have e2 := G.per hg 0
  rw [hc, Nat.zero_add] at e1
  rw [Nat.zero_add] at e2
  refine ⟨?_, fun i hi => ?_, ?_⟩
  · rw [← key]
    exact ct_le _ _
  · rw [← key, ← key]
    have := ct_diff a (Nat.le_of_lt (F.lt (Nat.lt_succ_self i)))
    omega
  · rw [e1, e2]
    have hlt : nthF (cmp a g) (ct g (ct a P) - 1) < P := F.lt_of (by rw [hc]; omega)
    have := ct_diff a (Nat.le_of_lt hlt)
    rw [key] at this
    omega
/-! ### what begins -/
/-- the numbers with f below P as places a 0 < a 1 .. < a L = P -/
structure Pls (f : Nat → Bool) (P L : Nat) (a : Nat → Nat) : Prop where
  on : ∀ i, i < L → f (a i) = true
  only : ∀ i n, i < L → a i < n → n < a (i + 1) → f n = false
  no : ∀ n, n < a 0 → f n = false
  up : ∀ i, i < L → a i < a (i + 1)
  top : a L = P
/-- the places of the first L numbers, then P -/
noncomputable def plc (f : Nat → Bool) (P L : Nat) (i : Nat) : Nat := if i < L then nthF f i else P
theorem AllN.pls {f : Nat → Bool} (h : AllN f) {P L : Nat} (hL : 0 < L) (hc : ct f P = L) : Pls f P L (plc f P L) := by
  have lo : ∀ i, i < L → plc f P L i = nthF f i := fun i hi => if_pos hi
  have hi' : ∀ i, i < L → plc f P L (i + 1) ≤ nthF f (i + 1) := fun i hi => by
    unfold plc
    split
    · exact Nat.le_refl _
    · exact h.ge (by omega)
  refine ⟨fun i hi => by rw [lo i hi]; exact (h i).1, fun i n hi h1 h2 => ?_, fun n hn => ?_, fun i hi => ?_, if_neg (Nat.lt_irrefl _)⟩
  · rw [lo i hi] at h1
    cases e : f n with
    | false => rfl
    | true =>
      have k1 := ct_lt (h i).1 h1
      have k2 := ct_lt e (Nat.lt_of_lt_of_le h2 (hi' i hi))
      rw [(h i).2] at k1
      rw [(h (i + 1)).2] at k2
      omega
  · rw [lo 0 hL] at hn
    cases e : f n with
    | false => rfl
    | true =>
      have k1 := ct_lt e hn
      rw [(h 0).2] at k1
      omega
  · rw [lo i hi]
    unfold plc
    split
    · exact h.lt (Nat.lt_succ_self i)
    · exact h.lt_of (by omega)
theorem Pls.mono {f : Nat → Bool} {P L : Nat} {a : Nat → Nat} (A : Pls f P L a) : ∀ {j i : Nat}, i ≤ j → j ≤ L → a i ≤ a j
  | 0, i, h, _ => by rw [Nat.le_zero.mp h]; exact Nat.le_refl _
  | j + 1, i, h, hj => by
    by_cases e : i = j + 1
    · rw [e]; exact Nat.le_refl _
    · have := A.mono (j := j) (i := i) (by omega) (by omega)
      have := A.up j (by omega)
      omega
theorem Pls.find {f : Nat → Bool} {P L : Nat} {a : Nat → Nat} (A : Pls f P L a) {n : Nat} (hn : n < P) : n < a 0 ∨ ∃ i, i < L ∧ a i ≤ n ∧ n < a (i + 1) := by
  have key : ∀ k, k ≤ L → n < a k → n < a 0 ∨ ∃ i, i < L ∧ a i ≤ n ∧ n < a (i + 1) := fun k => by
    induction k with
    | zero => intro _ h; exact .inl h
    | succ k ih =>
      intro hk h
      by_cases e : n < a k
      · exact ih (by omega) e
      · exact .inr ⟨k, by omega, by omega, h⟩
  exact key L (Nat.le_refl _) (by rw [A.top]; exact hn)
theorem ct_seg {h : Nat → Bool} {s d e : Nat} (hs : s ≤ e) (k : ∀ m, s ≤ m → m < e → h m = decide (m < s + d)) : ct h e = ct h s + min (e - s) d := by
  induction hs with
  | refl => rw [Nat.sub_self, Nat.zero_min]; rfl
  | step hs ih =>
    rename_i m
    have hs' : s ≤ m := hs
    rw [ct_succ, ih fun m' h1 h2 => k m' h1 (by omega), k m hs' (by omega)]
    by_cases c : m < s + d
    · rw [if_pos (by rw [decide_eq_true c]), Nat.min_eq_left (show m - s ≤ d by omega), Nat.min_eq_left (show m.succ - s ≤ d by omega)]
      omega
    · rw [if_neg (by rw [decide_eq_false c]; decide), Nat.min_eq_right (show d ≤ m - s by omega), Nat.min_eq_right (show d ≤ m.succ - s by omega)]
      rfl
/-- h keeps, in front of each place of f, as many as g counts -/
structure Bgn (h : Nat → Bool) (L : Nat) (a b : Nat → Nat) : Prop where
  low : ∀ n, n < a 0 → h n = decide (n < b 0)
  mid : ∀ i n, i < L → a i ≤ n → n < a (i + 1) → h n = decide (n < a i + (b (i + 1) - b i))
theorem Bgn.ct {f g h : Nat → Bool} {P R L : Nat} {a b : Nat → Nat} (A : Pls f P L a) (B : Pls g R L b) (G : Bgn h L a b) (low : b 0 ≤ a 0) (room : ∀ i, i < L → b (i + 1) + a i ≤ a (i + 1) + b i) : ∀ i, i ≤ L → Sv.ct h (a i) = b i
  | 0, _ => by
    have e := ct_seg (h := h) (s := 0) (d := b 0) (e := a 0) (Nat.zero_le _) fun m _ h2 => by rw [G.low m h2, Nat.zero_add]
    rw [e, Nat.sub_zero, Nat.min_eq_right low]
    show 0 + b 0 = b 0
    omega
  | i + 1, hi => by
    have ih := G.ct A B low room i (by omega)
    have e := ct_seg (h := h) (s := a i) (d := b (i + 1) - b i) (e := a (i + 1)) (Nat.le_of_lt (A.up i (by omega))) fun m h1 h2 => G.mid i m (by omega) h1 h2
    have r := room i (by omega)
    have u := B.up i (by omega)
    rw [e, ih, Nat.min_eq_right (by omega)]
    omega
theorem Bgn.cmp {f g h : Nat → Bool} {P R L : Nat} {a b : Nat → Nat} (A : Pls f P L a) (B : Pls g R L b) (G : Bgn h L a b) (low : b 0 ≤ a 0) (room : ∀ i, i < L → b (i + 1) + a i ≤ a (i + 1) + b i) {n : Nat} (hn : n < P) : Sv.cmp h g n = f n := by
  have C := G.ct A B low room
  show (h n && g (Sv.ct h n)) = f n
  rcases A.find hn with h0 | ⟨i, hi, h1, h2⟩
  · rw [A.no n h0, G.low n h0]
    by_cases hb : n < b 0
    · have e := ct_seg (h := h) (s := 0) (d := b 0) (e := n) (Nat.zero_le _) fun m _ h2 => by rw [G.low m (by omega), Nat.zero_add]
      rw [e, Nat.sub_zero, Nat.min_eq_left (by omega), show Sv.ct h 0 = 0 from rfl, Nat.zero_add, B.no n hb, Bool.and_false]
    · rw [decide_eq_false hb, Bool.false_and]
  · have e := ct_seg (h := h) (s := a i) (d := b (i + 1) - b i) (e := n) h1 fun m h3 h4 => G.mid i m hi h3 (by omega)
    rw [C i (by omega)] at e
    have u := B.up i hi
    rw [G.mid i n hi h1 h2]
    by_cases hb : n < a i + (b (i + 1) - b i)
    · rw [decide_eq_true hb, Bool.true_and, e, Nat.min_eq_left (by omega)]
      by_cases en : n = a i
      · rw [en, Nat.sub_self, Nat.add_zero, B.on i hi, A.on i hi]
      · rw [A.only i n hi (by omega) h2]
        exact B.only i _ hi (by omega) (by omega)
    · rw [decide_eq_false hb, Bool.false_and, A.only i n hi (by omega) h2]
/-- the numbers as they are made -/
def kpt (a b : Nat → Nat) : Nat → List Nat
  | 0 => List.range (b 0)
  | i + 1 => kpt a b i ++ (List.range (b (i + 1) - b i)).map (a i + ·)
theorem kpt_mem {a b : Nat → Nat} {n : Nat} : ∀ {L : Nat}, n ∈ kpt a b L ↔ n < b 0 ∨ ∃ i, i < L ∧ a i ≤ n ∧ n < a i + (b (i + 1) - b i)
  | 0 => by
    show n ∈ List.range (b 0) ↔ _
    rw [List.mem_range]
    constructor
    · exact .inl
    · rintro (h | ⟨i, hi, _⟩)
      · exact h
      · omega
  | L + 1 => by
    show n ∈ kpt a b L ++ (List.range (b (L + 1) - b L)).map (a L + ·) ↔ _
    rw [List.mem_append, kpt_mem, List.mem_map]
    constructor
    · rintro ((h | ⟨i, hi, h1, h2⟩) | ⟨k, hk, e⟩)
      · exact .inl h
      · exact .inr ⟨i, by omega, h1, h2⟩
      · have := List.mem_range.mp hk
        exact .inr ⟨L, by omega, by omega, by omega⟩
    · rintro (h | ⟨i, hi, h1, h2⟩)
      · exact .inl (.inl h)
      · by_cases e : i = L
        · subst e
          exact .inr ⟨n - a i, List.mem_range.mpr (by omega), by omega⟩
        · exact .inl (.inr ⟨i, by omega, h1, h2⟩)
theorem kpt_len {a b : Nat → Nat} : ∀ {L : Nat}, (∀ i, i < L → b i ≤ b (i + 1)) → (kpt a b L).length = b L
  | 0, _ => List.length_range
  | L + 1, h => by
    show (kpt a b L ++ (List.range (b (L + 1) - b L)).map (a L + ·)).length = _
    have := h L (by omega)
    rw [List.length_append, kpt_len fun i hi => h i (by omega), List.length_map, List.length_range]
    omega
theorem kpt_bgn {f g : Nat → Bool} {P R L : Nat} {a b : Nat → Nat} (A : Pls f P L a) (B : Pls g R L b) (low : b 0 ≤ a 0) (room : ∀ i, i < L → b (i + 1) + a i ≤ a (i + 1) + b i) (h : Nat → Bool) (hh : ∀ n, n < P → (h n = true ↔ n ∈ kpt a b L)) : Bgn h L a b := by
  have hP : ∀ i, i ≤ L → a i ≤ P := fun i hi => by rw [← A.top]; exact A.mono hi (Nat.le_refl _)
  refine ⟨fun n hn => ?_, fun i n hi h1 h2 => ?_⟩
  · have hn' : n < P := Nat.lt_of_lt_of_le hn (hP 0 (Nat.zero_le _))
    rw [Bool.eq_iff_iff, hh n hn', kpt_mem, decide_eq_true_eq]
    constructor
    · rintro (h | ⟨i, hi, h1, _⟩)
      · exact h
      · have := A.mono (Nat.zero_le i) (Nat.le_of_lt hi)
        omega
    · exact .inl
  · have hn' : n < P := Nat.lt_of_lt_of_le h2 (hP (i + 1) hi)
    rw [Bool.eq_iff_iff, hh n hn', kpt_mem, decide_eq_true_eq]
    constructor
    · rintro (h | ⟨j, hj, h3, h4⟩)
      · have := A.mono (Nat.zero_le i) (Nat.le_of_lt hi)
        omega
      · rcases Nat.lt_trichotomy j i with c | c | c
        · have r := room j hj
          have u := B.up j hj
          have m := A.mono (show j + 1 ≤ i by omega) (Nat.le_of_lt hi)
          omega
        · rw [← c]; exact h4
        · have m := A.mono (show i + 1 ≤ j by omega) (Nat.le_of_lt hj)
          omega
    · intro h
      exact .inr ⟨i, hi, h1, h⟩
/-- the fit as the places say it -/
theorem fit_plc {f g : Nat → Bool} {P R L : Nat} (A : AllN f) (B : AllN g) (hf : Per f P) (hg : Per g R) (hP : ct f P = L) (hR : ct g R = L) (hL : 0 < L) : Fit (nthF f) (nthF g) L ↔ plc g R L 0 ≤ plc f P L 0 ∧ ∀ i, i < L → plc g R L (i + 1) + plc f P L i ≤ plc f P L (i + 1) + plc g R L i := by
  have e1 := A.per hf 0
  have e2 := B.per hg 0
  rw [hP, Nat.zero_add] at e1
  rw [hR, Nat.zero_add] at e2
  have lf : ∀ i, i < L → plc f P L i = nthF f i := fun i hi => if_pos hi
  have lg : ∀ i, i < L → plc g R L i = nthF g i := fun i hi => if_pos hi
  have tf : plc f P L L = P := if_neg (Nat.lt_irrefl _)
  have tg : plc g R L L = R := if_neg (Nat.lt_irrefl _)
  constructor
  · intro F
    refine ⟨by rw [lf 0 hL, lg 0 hL]; exact F.low, fun i hi => ?_⟩
    by_cases h : i + 1 < L
    · rw [lf i hi, lg i hi, lf _ h, lg _ h]
      exact F.step i h
    · have e : i + 1 = L := by omega
      rw [e, tf, tg, lf i hi, lg i hi]
      have t := F.top
      rw [show L - 1 = i by omega] at t
      omega
  · rintro ⟨h0, h1⟩
    rw [lf 0 hL, lg 0 hL] at h0
    refine ⟨h0, fun i hi => ?_, ?_⟩
    · have := h1 i (by omega)
      rw [lf i (by omega), lg i (by omega), lf _ hi, lg _ hi] at this
      exact this
    · have := h1 (L - 1) (by omega)
      rw [show L - 1 + 1 = L by omega, tf, tg, lf _ (by omega), lg _ (by omega)] at this
      omega
end Sv

/-! Errors of the program's own: raised, let out of a def, caught, read. -/
namespace Sv
open PySem PySem.Spec PyProof.Rows L2

/-! ### facts of an error class -/
section
open He
def oexO (C : Addr) : Option Obj → Bool
  | some ⟨.type "type", _, .cls cd, sl⟩ => (match cd.mro, sl.toList with
    | .ref C' :: bm, [_, _, _, _, some (.builtin n), _] => C' == C && n == "ValueError.__new__" && !cd.hasDel && cd.hasDict && PySem.HandSPX.refsVE bm
    | _, _ => false)
  | _ => false
theorem oexO_ok {C : Addr} {oo : Option Obj} (h : oexO C oo = true) : ∃ nm q N bs bm sn sub ab col dd k0 k1 k2 k3 k5, oo = some (excClassObj nm q C N bs bm true sn sub ab col dd k0 k1 k2 k3 k5 "ValueError.__new__") ∧ PySem.HandSPX.refsVE bm = true := by
  unfold oexO at h
  split at h
  · rename_i dd cd sl
    split at h
    · rename_i C' bm k0 k1 k2 k3 n k5 hm hs
      simp only [Bool.and_eq_true, beq_iff_eq, Bool.not_eq_true'] at h
      obtain ⟨⟨⟨⟨rfl, rfl⟩, hdel⟩, hdc⟩, ht⟩ := h
      obtain ⟨nm, bs, mro, ns, qn, hd, sn, sub, ab, col, del⟩ := cd
      dsimp only at hm hdel hdc
      subst hm hdel hdc
      have hsl : sl = #[k0, k1, k2, k3, some (.builtin "ValueError.__new__"), k5] := by
        obtain ⟨l⟩ := sl
        simp only at hs
        rw [hs]
      subst hsl
      exact ⟨nm, qn, ns, bs, bm, sn, sub, ab, col, dd, k0, k1, k2, k3, k5, rfl, ht⟩
    · cases h
  · cases h
def errB (x fld : Str) (K : PySem.W.Frag) : Bool := oexO (ga K x) (K.lookup (ga K x)) && (eqO (PySem.W.findIn K (.ref (ga K x)) "__setattr__") (some (some (.builtin "object.__setattr__"))) &&
  (decide (PySem.W.subIn K (.ref (ga K x)) (.type "BaseException") = some true) && (decide (PySem.W.typeIn K (.ref (ga K x)) = some (.type "type")) && (PySem.W.keepIn K (.ref (ga K x)) &&
  (eqO (PySem.W.findIn K (.ref (ga K x)) fld) (some none) && (xfB K (ga K x) && (eqO (PySem.W.findIn K (.ref (ga K x)) "__init__") (some (some (.ref (ma K (ga K x) "__init__")))) &&
  decide (PySem.W.typeIn K (.ref (ma K (ga K x) "__init__")) = some (.type "function")))))))))
/-- the class C of the program's own errors, its field fld, its __init__ at f -/
structure ErrC (K : PySem.W.Frag) (C : Addr) (fld : Str) (f : Addr) : Prop where
  T : OexC K C
  no : PySem.W.findIn K (.ref C) fld = some none
  xf : XfC K C
  iC : PySem.W.findIn K (.ref C) "__init__" = some (some (.ref f))
  tI : PySem.W.typeIn K (.ref f) = some (.type "function")
theorem errB_ok {x fld : Str} {K : PySem.W.Frag} (h : errB x fld K = true) : ErrC K (ga K x) fld (ma K (ga K x) "__init__") := by
  obtain ⟨h1, h⟩ := ba h
  obtain ⟨h2, h⟩ := ba h
  obtain ⟨h3, h⟩ := ba h
  obtain ⟨h4, h⟩ := ba h
  obtain ⟨h5, h⟩ := ba h
  obtain ⟨h6, h⟩ := ba h
  obtain ⟨h7, h⟩ := ba h
  obtain ⟨h8, h9⟩ := ba h
  exact ⟨⟨oexO_ok h1, eqO_ok h2, of_decide_eq_true h3, of_decide_eq_true h4, h5⟩, eqO_ok h6, xfB_ok h7, eqO_ok h8, of_decide_eq_true h9⟩
/-- the base's __init__ is ValueError's -/
def vbaseB (x : Str) (K : PySem.W.Frag) : Bool := match PySem.W.findCls K (.ref (ga K x)) (.type "type") "__init__" with
  | some (.val (.builtin n)) => n == "ValueError.__init__"
  | _ => false
theorem vbaseB_ok {x : Str} {K : PySem.W.Frag} (h : vbaseB x K = true) : PySem.W.findCls K (.ref (ga K x)) (.type "type") "__init__" = some (.val (.builtin "ValueError.__init__")) := by
  unfold vbaseB at h
  split at h
  · rename_i n e
    rw [e, beq_iff_eq.mp h]
  · cases h
/-- what isinstance asks of an error class -/
def excCB (x : Str) (K : PySem.W.Frag) : Bool := eqO (PySem.W.findIn K (.ref (ga K x)) "__getattribute__") (some (some (.builtin "BaseException.__getattribute__"))) && (eqO (PySem.W.findIn K (.ref (ga K x)) "__getattr__") (some none) &&
  (decide (PySem.W.subIn K (.ref (ga K x)) (.type "BaseException") = some true) && (PySem.W.hasDictIn K (ga K x) && (eqO (PySem.W.findIn K (.ref (ga K x)) "__class__") (some (some (.builtin "object.__class__"))) &&
  (eqO (PySem.W.specialIn K (.builtin "object.__class__") "__get__") (some (some (.builtin "getset_descriptor.__get__"))) && (decide (PySem.W.takesIn K (.builtin "object.__class__") = some true) && decide (PySem.W.mroIn K (ga K x) (.type "object") = some true)))))))
theorem excCB_ok {x : Str} {K : PySem.W.Frag} (h : excCB x K = true) : ExcC K (ga K x) := by
  obtain ⟨h1, h⟩ := ba h
  obtain ⟨h2, h⟩ := ba h
  obtain ⟨h3, h⟩ := ba h
  obtain ⟨h4, h⟩ := ba h
  obtain ⟨h5, h⟩ := ba h
  obtain ⟨h6, h⟩ := ba h
  obtain ⟨h7, h8⟩ := ba h
  exact ⟨eqO_ok h1, eqO_ok h2, of_decide_eq_true h3, h4, eqO_ok h5, eqO_ok h6, of_decide_eq_true h7, of_decide_eq_true h8⟩
end

/-! ### the __init__ of such a class -/
section
variable {X : Cx} {N L S G B : List Str} {x f : Str} {e o : Expr} {es : List Expr} {σ : L2.St} {H : Hp} {Q : VK} {D : Ends} {p p1 p2 p' pos : Pos}
/-- Base.__init__(self, ..), Base of the program's own, over ValueError -/
theorem w_oinit {C0 : Addr} {pl : Sem Bool} (c : Nm X N L S G B) (mm : Mb x G) (hm : X.mg x = some (.ref C0)) (r : ClX.CRead X.K C0 (.type "type")) (fc : PySem.W.findCls X.K (.ref C0) (.type "type") "__init__" = some (.val (.builtin "ValueError.__init__")))
    (h : WA X (e :: es) σ H fun vs H1 => ∃ (a C : Addr) (ws : List V), vs = .ref a :: ws ∧ ws.length ≤ 1000 ∧ OexC X.K C ∧ H1 a = some (exo a C none) ∧ Q .non H1)
    (hc : eval (.Call (.Attribute (.Name x p1) "__init__" p2) (e :: es) [] pos) X.env = (do
      let ov ← eval (.Name x p1) X.env
      standAt p2.atName
      let (f, first) ← holding [ov] (getMethod ov "__init__" pl)
      callWith pos f first (backTo pos (starEach (e :: es) X.env)) (backToKw pos (keywordEach [] X.env))) := by with_unfolding_all rfl)
    (he : starEach (e :: es) X.env = (false, eval e X.env) :: starEach es X.env := by with_unfolding_all rfl) (hpl : (backTo pos (starEach es X.env)).any (·.1) = false := by with_unfolding_all rfl) :
    WE X (.Call (.Attribute (.Name x p1) "__init__" p2) (e :: es) [] pos) σ H Q := by
  obtain ⟨ag, b, d⟩ := c.glo x mm.mem
  refine ⟨fun pins s I => ?_⟩
  refine PySem.W.methodCall_KW (ld_glob I ag hm ?_ b) hc
  refine PySem.W.method_cls I.kIn r.ga (PySem.W.cls_value I.kIn r.rd fc (by decide +kernel) ?_)
  show wpAny _ _ (callWith pos (Value.builtin "ValueError.__init__") [] (backTo pos (starEach (e :: es) X.env)) []) _ _ _
  refine PyProof.Rows.callWith_method1 (thn (h.run pos pins _ (I.tok _)) fun us s1 ⟨vs, H1, I1, r1, a, C, ws, ev, hl, T, ea, q⟩ => ?_) he hpl
  subst ev
  cases r1 with
  | @cons _ u0 _ ur ra rw' =>
    obtain rfl : u0 = Value.ref a := ra
    have hlen : ur.length ≤ sizeLine := by
      rw [← Paired.length rw', sizeLine_eq]
      omega
    exact oinit_ok T I1 ea hlen fun s' J => ⟨.non, H1, J, rfl, q⟩
/-- self.f = e, self an error that is being made -/
theorem ws_ost (h : WE X e σ H fun y H1 => WE X o σ H1 fun x H2 => ∃ a C : Addr, x = .ref a ∧ OexC X.K C ∧ PySem.W.findIn X.K (.ref C) f = some none ∧ H2 a = some (exo a C none) ∧
      ∀ dx, H2 dx = none → dx ≠ a → D.nx σ (upd (upd H2 dx (exd dx [(f, y)])) a (exo a C (some dx))))
    (hs : swapsWith e (some (.Attribute o f p')) pos.line X.env = pure false := by with_unfolding_all rfl) : WS X (.Assign [.Attribute o f p'] e pos) D σ H :=
  (ps_ost pe_w pe_w hs).w (WE.imp h fun y H1 q => WE.imp q fun x H2 ⟨a, C, ex, T, no, ea, q⟩ => ⟨a, C, ex, T, no, .inl ⟨ea, q⟩⟩)
end
/-- the promise of such an __init__ -/
def spErrI (K : PySem.W.Frag) (C : Addr) (fld : Str) : Sp := fun vs H Q _ => ∃ (a : Addr) (v : V), vs = [.ref a, v] ∧ H a = some (exo a C none) ∧ ∀ dx, H dx = none → dx ≠ a → Q .non (upd (upd H dx (exd dx [(fld, v)])) a (exo a C (some dx)))
/-- the class may be called with one argument -/
structure Err (P : Program) (w : World) (K : PySem.W.Frag) (mg : Str → Option Value) (base : Heap) (C : Addr) (fld : Str) (k : Nat) : Prop where
  ex : ∃ f, ErrC K C fld f ∧ FnR P w K mg base (L2.CX P w) k f (spErrI K C fld)
/-- what makes an exception -/
structure WMk (X : Cx) (e : Expr) (σ : L2.St) (H : Hp) (Q : XK) : Prop where
  run : ∀ (pins : List (Addr × Obj)) (s : Shared), Inv X pins σ H s → wpAny (model X.prog X.w) X.A (eval e X.env) (MkP X pins σ Q) X.xe s
theorem pmk_w {X : Cx} {e : Expr} : PMk X e (WMk X e) := fun pins s σ H Q I h => h.run pins s I
section
variable {X : Cx} {N L S G B : List Str} {x : Str} {e : Expr} {σ : L2.St} {H : Hp} {p pos : Pos} {C : Addr} {fld : Str} {j k : Nat}
theorem wmk_err {Q : XK} (c : Nm X N L S G B) (mm : Mb x G) (hm : X.mg x = some (.ref C)) (F0 : Err X.prog X.w X.K X.mg X.base C fld k) (hr : Room j X.A) (hj : k + 1 ≤ j) (h : WE X e σ H fun v H1 => ∀ d, H1 d = none → Q (.ref C) (some d) (upd H1 d (.xd [(fld, v)])))
    (he : starEach [e] X.env = (false, eval e X.env) :: starEach [] X.env := by with_unfolding_all rfl) (hpl : (backTo pos (starEach [] X.env)).any (·.1) = false := by with_unfolding_all rfl) : WMk X (.Call (.Name x p) [e] [] pos) σ H Q := by
  obtain ⟨fI, Er, F1⟩ := F0.ex
  have T := Er.T
  obtain ⟨nm, q, N', bs, bm, sn, sub, ab, col, dd, k0, k1, k2, k3, k5, hC, hbm⟩ := T.cls
  obtain ⟨ag, b, d⟩ := c.glo x mm.mem
  refine ⟨fun pins s I => wpAny_Call_Name_kw (ld_glob I ag hm ?_ b)⟩
  have ha : WA X [e] σ H fun vs H1 => ∃ v, vs = [v] ∧ ∀ d, H1 d = none → Q (.ref C) (some d) (upd H1 d (.xd [(fld, v)])) := wa_cons (WE.imp h fun v H1 q => wa_nil ⟨v, rfl, q⟩) he
  refine PySem.W.callWith_K (h₀ := X.base) I.ok.mod.kin T.kC (thn (ha.run pos pins s I) fun us s1 ⟨vs, H1, I1, r1, v, ev, q1⟩ => ⟨I1.kIn, ?_⟩) he hpl
  subst ev
  show wpAny _ _ (call (.ref C) us) _ _ _
  have hus : us.length ≤ sizeLine := by
    rw [← Paired.length r1, sizeLine_eq]
    show 1 ≤ 16777216
    omega
  obtain ⟨hp, g, dr, tk, os⟩ := s1
  have hsz : hp.objs.size ≤ hp.objs.size + 1 := Nat.le_succ _
  have hn : H1 (hp.objs.size + 1) = none := I1.hok.fresh hsz
  have kk : ∀ b o, hp.get? b = some o → ((hp.push (PySem.W.kdv_tup us)).push (PySem.HandSPX.excO C hp.objs.size)).get? b = some o := fun b o e => Heap.get?_push_of_some _ (Heap.get?_push_of_some _ e)
  have hget : ((hp.push (PySem.W.kdv_tup us)).push (PySem.HandSPX.excO C hp.objs.size)).get? (hp.objs.size + 1) = some (PySem.HandSPX.excO C hp.objs.size) := by heap_get
  have I2 : Inv X pins σ (upd H1 (hp.objs.size + 1) (exo (hp.objs.size + 1) C none)) ⟨(hp.push (PySem.W.kdv_tup us)).push (PySem.HandSPX.excO C hp.objs.size), g, dr, tk, os⟩ :=
    I1.laid (t' := tk) (a := hp.objs.size + 1) (o := exo (hp.objs.size + 1) C none) (h' := (hp.push (PySem.W.kdv_tup us)).push (PySem.HandSPX.excO C hp.objs.size)) kk hsz (exo_ok hget)
  have r2 : Vals [V.ref (hp.objs.size + 1), v] (Value.ref (hp.objs.size + 1) :: us) := .cons rfl r1
  have hr2 : Room (k + 1) X.A := hr.mono hj
  have hq : spErrI X.K C fld [V.ref (hp.objs.size + 1), v] (upd H1 (hp.objs.size + 1) (exo (hp.objs.size + 1) C none)) (fun v' H2 => v' = .non ∧ ∃ (d : Addr), H2 (hp.objs.size + 1) = some (exo (hp.objs.size + 1) C (some d)) ∧ H2 d = some (exd d [(fld, v)]) ∧ H1 d = none ∧
      Q (.ref C) (some d) (upd (del H2 (hp.objs.size + 1)) d (.xd [(fld, v)]))) E0 := by
    refine ⟨_, v, rfl, upd_same, fun dx hdx hne => ⟨rfl, dx, upd_same, ?_, ?_, ?_⟩⟩
    · rw [upd_ne hne, upd_same]
    · rw [upd_ne hne] at hdx
      exact hdx
    · rw [upd_ne hne] at hdx
      have hH : upd (del (upd (upd (upd H1 (hp.objs.size + 1) (exo (hp.objs.size + 1) C none)) dx (exd dx [(fld, v)])) (hp.objs.size + 1) (exo (hp.objs.size + 1) C (some dx))) (hp.objs.size + 1)) dx (.xd [(fld, v)]) = upd H1 dx (.xd [(fld, v)]) := by
        funext b
        by_cases hb : b = dx
        · rw [hb, upd_same, upd_same]
        · rw [upd_ne hb, upd_ne hb]
          by_cases hb2 : b = hp.objs.size + 1
          · rw [hb2, del_same, hn]
          · rw [del_ne hb2, upd_ne hb2, upd_ne hb, upd_ne hb2]
      rw [hH]
      exact q1 dx hdx
  refine wpAny_call (PySem.HandSPX.call_own F.excBase_ValueError (fun Y => PySem.HandSPX.refsVE_contains Y bm hbm) (I1.kIn _ _ hC) (PySem.W.looks_findIn I1.kIn Er.iC) (fun self => PySem.W.bind_fn I1.kIn self Er.tI) hus
    (codeAny_mono (F1 _ X.stack _ _ (Value.ref (hp.objs.size + 1) :: us) [V.ref (hp.objs.size + 1), v] _ E0 (hr2.make C us []) (I2.env0.make C us []) r2 hq) fun r s' hq' => ?_))
  cases r with
  | error er => exact (passL (X := X) pins σ _ _ er s' I2 hq')
  | ok fl =>
    cases fl with
    | ret u =>
      obtain ⟨v', H2, os2, bare2, un2, hok2, rv, ev, d', ea, ed, hd1, q2⟩ := hq'
      subst ev
      obtain ⟨h2, g2, d2, t2, os'⟩ := s'
      exact ⟨rv, mk_end (raises_own T.exC T.tyC) I1 hsz kk un2 hok2 os2 bare2 ea ed hd1 q2⟩
    | next => exact False.elim hq'
    | brk => exact False.elim hq'
    | cont => exact False.elim hq'
/-- raise C(e) -/
theorem ws_raise {W : L2.WX} {D : Ends} {pos2 : Pos} (c : Nm X N L S G B) (tk : Takes X W) (h : WMk X e σ H fun cls d H' => W cls d σ H') : WS X (.Raise (some e) none pos2) D σ H := (ps_raise c.calm tk pmk_w).w h
end

/-! ### calls that may let an error out -/
theorem passE {X : Cx} {W : L2.WX} {E : XK} (tk : Takes X W) (h : ∀ cls d σ H, E cls d H → W cls d σ H) : Passes (L2.CX X.prog X.w) X E := fun pins σ H s e s' I c => tk e s' (XE.of_call I (fun cls d H' hE => h cls d σ H' hE) c)
theorem passA {X : Cx} {W : L2.WX} (tk : Takes X W) (σ : L2.St) : PassesAt (L2.CX X.prog X.w) X σ (fun cls d H => W cls d σ H) := fun pins H s e s' I c => tk e s' (XE.of_call I (fun _ _ _ h => h) c)
section
variable {X : Cx} {N L S G B : List Str} {x : Str} {e : Expr} {es : List Expr} {σ : L2.St} {H : Hp} {Q : VK} {p pos : Pos} {j k : Nat} {sp : Sp} {E : XK}
theorem run_fnA {f : Addr} {pins : List (Addr × Obj)} {s : Shared} {us : List Value} {vs : List V} (F : FnR X.prog X.w X.K X.mg X.base (L2.CX X.prog X.w) k f sp) (hr : Room k X.A) (hx : PassesAt (L2.CX X.prog X.w) X σ E) (I : Inv X pins σ H s) (r : Vals vs us) (h : sp vs H Q E) :
    wpAny (model X.prog X.w) X.A (call (.ref f) us) (EP X pins σ Q) X.xe s := by
  refine wpAny_call (codeAny_mono (F X.A X.stack s H us vs Q E hr I.env0 r h) fun r s' hq => ?_)
  cases r with
  | error e => exact hx pins H s e s' I hq
  | ok fl =>
    cases fl with
    | ret u => exact I.after hq
    | next => exact False.elim hq
    | brk => exact False.elim hq
    | cont => exact False.elim hq
theorem w_callA (c : Nm X N L S G B) (mm : Mb x G) (F : Fn X.prog X.w X.K X.mg X.base x k sp) (hr : Room j X.A) (hj : k ≤ j) (hx : PassesAt (L2.CX X.prog X.w) X σ E) (h : WA X (e :: es) σ H fun vs H1 => sp vs H1 Q E)
    (he : starEach (e :: es) X.env = (false, eval e X.env) :: starEach es X.env := by with_unfolding_all rfl) (hpl : (backTo pos (starEach es X.env)).any (·.1) = false := by with_unfolding_all rfl) : WE X (.Call (.Name x p) (e :: es) [] pos) σ H Q := by
  obtain ⟨f, hm, hk, F⟩ := F.ex
  obtain ⟨a, b, d⟩ := c.glo x mm.mem
  refine ⟨fun pins s I => wpAny_Call_Name_kw (ld_glob I a hm ?_ b)⟩
  refine PySem.W.callWith_K (h₀ := X.base) I.ok.mod.kin hk (thn (h.run pos pins s I) fun us s1 ⟨vs, H1, I1, r, q⟩ => ⟨I1.kIn, ?_⟩) he hpl
  exact run_fnA F (hr.mono hj) hx I1 r q
end
theorem Nm.tr {X : Cx} {N L S G B : List Str} (c : Nm X N L S G B) {pn : List (Addr × Obj)} {xe : Value → Shared → Prop} : Nm (X.tr pn xe) N L S G B := ⟨c.names, c.nd, c.vis, c.sto, c.glo, c.blt, c.bgl, c.calm⟩

/-! ### try with clauses, each with its name -/
abbrev Cls3 : Type := Value × Nat × (Addr → Value → Option Addr → TS)
/-- the ends of a suite: the clause's name goes -/
def goneD (D : Ends) (i : Nat) : Ends := { nx := fun σ' H' => D.nx (σ'.set i none) H', rt := D.rt, bk := fun σ' H' => D.bk (σ'.set i none) H', ct := fun σ' H' => D.ct (σ'.set i none) H' }
def wClauses (K : PySem.W.Frag) (Wout : L2.WX) (D : Ends) : List Cls3 → L2.WX
  | [] => Wout
  | (c, i, ts) :: r => fun cls d σ H => ∃ b, PySem.W.exmOne K cls c = some b ∧ (b = true → ∀ a, H a = none → ts a cls d (goneD D i) (σ.set i (some (.ref a))) H) ∧ (b = false → wClauses K Wout D r cls d σ H)
/-- the clauses as they stand, and what each wishes -/
inductive HdA (X : Cx) : List ExceptHandler → List Cls3 → Prop
  | nil : HdA X [] []
  | cons {x n : Str} {c : Value} {i : Nat} {b₀ : Stmt} {suite : List Stmt} {np pos' : Pos} {hds : List ExceptHandler} {l : List Cls3} (hi : X.N[i]? = some n) (hln : X.env.kindOf n = some .local) (hc : Names X x c) (r : HdA X hds l) :
      HdA X (.ExceptHandler (some (.Name x np)) (some n) (b₀ :: suite) pos' :: hds)
        ((c, i, fun a cls d D σ H => ∀ (oe : Obj) (pn : List (Addr × Obj)), Zc cls d oe → (∃ vs, oe.data = .fields vs) → WL (X.suite a ((a, oe) :: pn)) (b₀ :: suite) D σ H) :: l)
theorem ws_try {X : Cx} {body : List Stmt} {h₀ : ExceptHandler} {hds : List ExceptHandler} {l : List Cls3} {pos : Pos} {Wout : L2.WX} {D : Ends} {σ : L2.St} {H : Hp} (hs : X.stack = X.env :: X.outer) (hf : X.env.frame = some X.env.locals) (hN : X.N.Nodup) (tk : Takes X Wout) (hh : HdA X (h₀ :: hds) l)
    (hb : ∀ (pn : List (Addr × Obj)) (xe : Value → Shared → Prop), Takes (X.tr pn xe) (wClauses X.K Wout D l) → PassesOwn (model X.prog X.w) X.A X.env xe → WL (X.tr pn xe) body D σ H) : WS X (.Try body (h₀ :: hds) [] [] pos) D σ H := by
  refine ⟨fun pins s I => ?_⟩
  have ok := I.ok
  have hfr : X.A.frames = some (X.env :: X.outer) := by rw [ok.frames, hs]
  refine wpAny_Try_except ?_
  refine wpAny_mono ((hb (X.pn ++ pins) (fun e s₁ => wpAny (model X.prog X.w) X.A (noteFrame e X.env) (fun _ s₂ => wpAny (model X.prog X.w) X.A (setFlight e none) (fun _ s₃ =>
    wpAny (model X.prog X.w) X.A (handleBy e X.env (h₀ :: hds)) (SP X pins D) X.xe s₃) X.xe s₂) X.xe s₁) (fun u s' xx => ?_) PassesOwn.looking).run [] s (I.toTry _)) (fun f s1 hsp => ?_) (fun e s1 he => he)
  · obtain ⟨a, B, sI, pins', σ', H', cls, d, rfl, J', nb, up, sky, na, os, ag, w⟩ := xx
    have J : Inv X pins σ' H' sI := J'.ofTry ok
    have sky' : Sky B (X.env :: X.outer) a (Zc cls d) X.env.locals s'.heap := by rw [← hs]; exact sky
    show wpAny (model X.prog X.w) X.A (noteFrame (.ref a) X.env) _ _ _
    refine Sky.land Zc.steady hfr hf sky' fun h3 fl3 up3 => ?_
    have J3 : Inv X pins σ' H' { s' with heap := h3 } := J.landed nb fl3.1 (up.trans up3) os ag
    obtain ⟨oe3, vs3, he3, hz3, hd3⟩ := fl3.there
    have notFr : ∀ {h : Heap} {o : Obj} {vs : Array Value}, h.FunFrames B (X.env :: X.outer) → h.get? a = some o → o.data = .fields vs → a ∉ frs (X.env :: X.outer) := fun {h o vs} ff e dd hm => by
      obtain ⟨_, o', e', hnf⟩ := ff.mem hm
      rw [e] at e'; cases e'
      exact hnf _ dd
    have nfr := notFr fl3.2.2.1 he3 hd3
    have nL : a ≠ X.env.locals := fun z => nfr (List.mem_filterMap.mpr ⟨X.env, List.mem_cons_self, by rw [hf, z]⟩)
    have nF : a ∉ X.fs := fun hm => by
      obtain ⟨e, he, q⟩ := List.mem_filterMap.mp hm
      exact nfr (List.mem_filterMap.mpr ⟨e, List.mem_cons_of_mem _ he, q⟩)
    have S3 := J3.suite he3 hd3 na nL nF
    have go : ∀ {hds' : List ExceptHandler} {l' : List Cls3}, HdA X hds' l' → wClauses X.K Wout D l' cls d σ' H' →
        wpAny (model X.prog X.w) X.A (handleBy (.ref a) X.env hds') (SP X pins D) X.xe { s' with heap := h3 } := by
      intro hds' l' hk
      induction hk with
      | nil =>
        intro w
        refine wpAny_handleBy_nil ?_
        obtain ⟨k1, k2, k3, oe, vs, T, oT, ts', he, hz, hd, h1, hr⟩ := id fl3
        unfold PySem.passOn
        refine wpAny_bind (wpAny_field he hd h1 ?_)
        rw [if_neg (show ¬ ((Value.ref T == Value.none) = true) from by simp)]
        have fin : wpAny (model X.prog X.w) X.A (setFlight (.ref a) X.env.frame) (fun _ s4 => wpAny (model X.prog X.w) X.A (throw (.ref a) : Sem Flow) (SP X pins D) X.xe s4) X.xe { s' with heap := h3 } := by
          rw [hf]
          refine HandSPX.setFlight_upZ fl3 fun h4 hh4 up4 => wpAny_throw (tk _ _ ?_)
          exact ⟨a, B, sI, pins, σ', H', cls, d, rfl, J, nb, (up.trans up3).trans up4, .inr (.inr (by rw [hs]; exact hh4)), na, os, ag, w⟩
        first
          | exact wpAny_bind (wpAny_pure (wpAny_bind fin))
          | exact wpAny_bind fin
      | @cons x n c i b₀ suite np pos' hds2 l2 hi hln hc r ih =>
        intro w
        obtain ⟨b, hb1, hyes, hno⟩ := w
        have hloc : Loc X.env.scope n := .inl hln
        refine wpAny_handleBy_cons (codeAny_handlers_test ?_) (by intro q; cases q)
        have LT : PySem.W.Looks (model X.prog X.w) h3 (typeOf (.ref a)) cls := fun A Q E s k q => wpAny_typeOf_ref (k _ _ he3) (by rw [hz3.1]; exact q)
        have LM := PySem.W.exm_one (M := model X.prog X.w) (J3.kIn) LT hb1
        have test : ∀ {Q : Value → Shared → Prop} {E : Value → Shared → Prop}, Q c { s' with heap := h3 } → wpAny (model X.prog X.w) (X.A.mark (some (.ref a))) (eval (.Name x np) X.env) Q E { s' with heap := h3 } := fun {Q E} q => by
          obtain ⟨hg, hdbg, hm | ⟨hm, hv, hnn⟩⟩ := hc
          · exact ld_glob (X := X.suite a ((a, oe3) :: (X.pn ++ pins))) S3 hg hm q hdbg
          · exact ld_blt (X := X.suite a ((a, oe3) :: (X.pn ++ pins))) S3 hg hm hv q hnn hdbg
        refine test (LM.here ?_)
        cases b with
        | true =>
          refine codeAny_handlers_suite_as ?_
          refine HandSPX.lands_againZ fl3 fun h4 fl4 up4 => ?_
          have J4 : Inv X pins σ' H' { s' with heap := h4 } := J.landed nb fl4.1 ((up.trans up3).trans up4) os ag
          obtain ⟨oe4, vs4, he4, hz4, hd4⟩ := fl4.there
          have S4 := J4.suite he4 hd4 na nL nF
          refine store_ok (X := X.suite a ((a, oe4) :: (X.pn ++ pins))) (v := .ref a) S4 hN hi hloc rfl (fun s5 S5 => ?_) (.inr hln)
          refine wpAny_mono ((hyes rfl a na oe4 (X.pn ++ pins) hz4 ⟨_, hd4⟩).run [] s5 S5) (fun f s6 hsp => ?_) (fun _ _ z => False.elim z)
          have end_ : ∀ {σ6 : L2.St} {H6 : Hp} {Q : Shared → Prop}, Inv (X.suite a ((a, oe4) :: (X.pn ++ pins))) [] σ6 H6 s6 → (∀ s7, Inv X pins (σ6.set i none) H6 s7 → Q s7) →
              wpAny (model X.prog X.w) X.A (do bindName X.env n .none; unbindBehindTheSuite X.env n pos') (fun _ s7 => Q s7) X.xe s6 := fun {σ6 H6 Q} S6 hq => gone_ok (S6.unsuite ok) hN hi hln hq
          cases f with
          | next =>
            obtain ⟨σ6, H6, S6, q6⟩ := hsp
            exact end_ S6 fun s7 J7 => ⟨_, _, J7, q6⟩
          | brk =>
            obtain ⟨σ6, H6, S6, q6⟩ := hsp
            exact end_ S6 fun s7 J7 => ⟨_, _, J7, q6⟩
          | cont =>
            obtain ⟨σ6, H6, S6, q6⟩ := hsp
            exact end_ S6 fun s7 J7 => ⟨_, _, J7, q6⟩
          | ret u =>
            obtain ⟨v6, σ6, H6, S6, r6, q6⟩ := hsp
            exact end_ S6 fun s7 J7 => ⟨_, _, _, J7, r6, q6⟩
        | false =>
          show wpAny _ X.A (handleBy (.ref a) X.env hds2) _ _ _
          exact ih (hno rfl)
    exact go hh w
  · cases f with
    | next =>
      obtain ⟨σ', H', J', q⟩ := hsp
      exact wpAny_execs_nil ⟨σ', H', J'.ofTry ok, q⟩
    | brk =>
      obtain ⟨σ', H', J', q⟩ := hsp
      exact ⟨σ', H', J'.ofTry ok, q⟩
    | cont =>
      obtain ⟨σ', H', J', q⟩ := hsp
      exact ⟨σ', H', J'.ofTry ok, q⟩
    | ret u =>
      obtain ⟨v, σ', H', J', r, q⟩ := hsp
      exact ⟨v, σ', H', J'.ofTry ok, r, q⟩
end Sv

/-! zip of three lists, extend, list(range(a, b)). -/
namespace Sv
open PySem PySem.Spec PyProof.Rows L2

/-- the lists at a, b, c as they stand at each turn, the items in new tuples; n turns -/
def Itz3 (K : PySem.W.Frag) (n : Nat) (a b c : Addr) : It :=
  ⟨fun i H => i < n ∧ ∃ (xs ys zs : List V) (x y z : V), SqL K H a xs ∧ SqL K H b ys ∧ SqL K H c zs ∧ xs[i]? = some x ∧ ys[i]? = some y ∧ zs[i]? = some z,
    fun i H v H' => ∃ T x y z, v = .ref T ∧ H T = none ∧ H' = upd H T (.tup [x, y, z]) ∧ (∀ xs, SqL K H a xs → xs[i]? = some x) ∧ (∀ ys, SqL K H b ys → ys[i]? = some y) ∧ ∀ zs, SqL K H c zs → zs[i]? = some z,
    fun i H => n ≤ i ∧ ∃ xs ys zs : List V, SqL K H a xs ∧ SqL K H b ys ∧ SqL K H c zs ∧ n = min (min xs.length ys.length) zs.length⟩
theorem turn_zip3 {P : Program} {w : World} {K : PySem.W.Frag} {n : Nat} {elts : List Expr} {kk : Nat} {tpos : Pos} {a b c z TI TO i1 i2 i3 : Addr} (S : ZipSep3 z TI TO i1 i2 i3 [i1, a] [i2, b] [i3, c]) (na : a ≠ i1) (nb : b ≠ i2) (nc : c ≠ i3) :
    Turn P w K (.Tuple elts kk tpos) (Itz3 K n a b c) [z, TI, TO, i1, i2, i3] z (fun i h => i ≤ n ∧ IsZip h z TI TO .none ∧ IsTupOf3 h TI (.ref i1) (.ref i2) (.ref i3) ∧ (∃ a1 a2 a3, IsTupOf3 h TO a1 a2 a3) ∧ h.IsListIter i1 a i ∧ h.IsListIter i2 b i ∧ h.IsListIter i3 c i) where
  mem := by simp
  obj := fun i h st q hq => by
    obtain ⟨_, hz, hTI, ⟨x, y, u, hTO⟩, ⟨o1, e1, _, d1⟩, ⟨o2, e2, _, d2⟩, ⟨o3, e3, _, d3⟩⟩ := st
    have e' : q = z ∨ q = TI ∨ q = TO ∨ q = i1 ∨ q = i2 ∨ q = i3 := by simpa using hq
    rcases e' with q | q | q | q | q | q
    · rw [q]; exact ⟨_, hz, fun v q => nomatch q⟩
    · rw [q]; exact ⟨_, hTI, fun v q => nomatch q⟩
    · rw [q]; exact ⟨_, hTO, fun v q => nomatch q⟩
    · rw [q]; exact ⟨o1, e1, fun v q => by rw [d1] at q; cases q⟩
    · rw [q]; exact ⟨o2, e2, fun v q => by rw [d2] at q; cases q⟩
    · rw [q]; exact ⟨o3, e3, fun v q => by rw [d3] at q; cases q⟩
  keep := fun i h h' st k => by
    obtain ⟨hn, hz, hTI, ⟨x, y, u, hTO⟩, h1, h2, h3⟩ := st
    exact ⟨hn, k z (by simp) _ hz, k TI (by simp) _ hTI, ⟨x, y, u, k TO (by simp) _ hTO⟩, h1.at fun o q => k i1 (by simp) o q, h2.at fun o q => k i2 (by simp) o q, h3.at fun o q => k i3 (by simp) o q⟩
  item := by
    intro X hP hw hK hc i pins s σ H E I hf st hg
    subst hP hw hK
    obtain ⟨hn, hz, hTI, hTO, h1, h2, h3⟩ := st
    obtain ⟨hin, xs, ys, zs, x, y, u, hqx, hqy, hqz, hx, hy, hu⟩ := hg
    obtain ⟨its, rv, p, _⟩ := I.list hqx
    obtain ⟨its2, rv2, p2, _⟩ := I.list hqy
    obtain ⟨its3, rv3, p3, _⟩ := I.list hqz
    obtain ⟨v1, hv1, ru1⟩ := rv.get hx
    obtain ⟨v2, hv2, ru2⟩ := rv2.get hy
    obtain ⟨v3, hv3, ru3⟩ := rv3.get hu
    have hh := I.ok.hd hc
    have l1 := (List.getElem?_eq_some_iff.mp hv1).1
    have l2 := (List.getElem?_eq_some_iff.mp hv2).1
    have l3 := (List.getElem?_eq_some_iff.mp hv3).1
    have G := GoesN.zip3 (A := X.A) (elts := elts) (x1 := kk) (pos := tpos) S (Draws.list (prog := X.prog) (w := X.w) (A := X.A.in1) hh i1 a na its.toArray) (Draws.list (prog := X.prog) (w := X.w) (A := X.A.in1) hh i2 b nb its2.toArray) (Draws.list (prog := X.prog) (w := X.w) (A := X.A.in1) hh i3 c nc its3.toArray)
    refine thn (G.goes i s (fun u s2 => ∃ x H', Inv X pins σ H' s2 ∧ RelV x u ∧ (Itz3 X.K n a b c).yld i H x H' ∧ (i + 1 ≤ n ∧ IsZip s2.heap z TI TO .none ∧ IsTupOf3 s2.heap TI (.ref i1) (.ref i2) (.ref i3) ∧ (∃ a1 a2 a3, IsTupOf3 s2.heap TO a1 a2 a3) ∧ s2.heap.IsListIter i1 a (i + 1) ∧ s2.heap.IsListIter i2 b (i + 1) ∧ s2.heap.IsListIter i3 c (i + 1)) ∧ ∀ q ∈ [z, TI, TO, i1, i2, i3], H' q = none) E (by rw [List.size_toArray, List.size_toArray, List.size_toArray]; omega) ⟨hz, hTI, hTO, ⟨h1, p.isList⟩, ⟨h2, p2.isList⟩, h3, p3.isList⟩ fun v h' tk y' st' k _ => ?_) fun r s1 h => h
    obtain ⟨T, x', y', u', rfl, hT, e1, e2, e3, ht⟩ := y'
    obtain ⟨kz, kTI, kTO, ⟨k1, _⟩, ⟨k2, _⟩, k3, _⟩ := st'
    have q1 : x' = v1 := by rw [List.getElem?_toArray, hv1] at e1; exact (Option.some.inj e1).symm
    have q2 : y' = v2 := by rw [List.getElem?_toArray, hv2] at e2; exact (Option.some.inj e2).symm
    have q3 : u' = v3 := by rw [List.getElem?_toArray, hv3] at e3; exact (Option.some.inj e3).symm
    subst q1 q2 q3
    have new : ObjOk X.prog X.w (upd H T (.tup [x, y, u])) h' T (.tup [x, y, u]) := ⟨by show 3 ≤ sizeLine; decide, [x', y', u'], .cons ru1 (.cons ru2 (.cons ru3 .nil)), by
      obtain ⟨o, ho, hcl, m, hd⟩ := ht
      exact ⟨o, ho, hcl, m, by simpa using hd⟩⟩
    have I1 : Inv X pins σ (upd H T (.tup [x, y, u])) { s with heap := h', toks := tk } :=
      I.turnedNew (ch := [z, TI, TO, i1, i2, i3]) (fun q ob hb e => k q ob (fun z' => hb (by
        rcases List.mem_cons.mp z' with r | z'
        · rw [r]; simp
        rcases List.mem_cons.mp z' with r | z'
        · rw [r]; simp
        rcases List.mem_cons.mp z' with r | z'
        · rw [r]; simp
        rcases List.mem_cons.mp z' with r | z'
        · rw [r]; simp
        rcases List.mem_cons.mp z' with r | z'
        · rw [r]; simp
        cases z')) e) hf hT new
    refine ⟨.ref T, _, I1, rfl, ⟨T, x, y, u, rfl, I.hok.fresh hT, rfl, fun l hl => by rw [I.list_inj hl hqx]; exact hx, fun l hl => by rw [I.list_inj hl hqy]; exact hy, fun l hl => by rw [I.list_inj hl hqz]; exact hu⟩, ⟨hin, kz, kTI, kTO, k1, k2, k3⟩, fun q hq => ?_⟩
    have hlt : q < s.heap.objs.size := by
      have e' : q = z ∨ q = TI ∨ q = TO ∨ q = i1 ∨ q = i2 ∨ q = i3 := by simpa using hq
      rcases e' with r | r | r | r | r | r
      · rw [r]; exact Heap.lt_size hz
      · rw [r]; exact Heap.lt_size hTI
      · obtain ⟨_, _, _, hTO⟩ := hTO
        rw [r]; exact Heap.lt_size hTO
      · rw [r]; obtain ⟨_, e1, _⟩ := h1; exact Heap.lt_size e1
      · rw [r]; obtain ⟨_, e1, _⟩ := h2; exact Heap.lt_size e1
      · rw [r]; obtain ⟨_, e1, _⟩ := h3; exact Heap.lt_size e1
    rw [upd_ne (Nat.ne_of_lt (Nat.lt_of_lt_of_le hlt hT))]
    exact (hf q hq).1
  done := by
    intro X hP hw hK hc i pins s σ H E I hf st hg
    subst hP hw hK
    obtain ⟨hn, hz, hTI, hTO, h1, h2, h3⟩ := st
    obtain ⟨hin, xs, ys, zs, hqx, hqy, hqz, hmin⟩ := hg
    have e : i = n := Nat.le_antisymm hn hin
    subst e
    obtain ⟨its, rv, p, _⟩ := I.list hqx
    obtain ⟨its2, rv2, p2, _⟩ := I.list hqy
    obtain ⟨its3, rv3, p3, _⟩ := I.list hqz
    have l1 := rv.length
    have l2 := rv2.length
    have l3 := rv3.length
    have hh := I.ok.hd hc
    have G := GoesN.zip3 (A := X.A) (elts := elts) (x1 := kk) (pos := tpos) S (Draws.list (prog := X.prog) (w := X.w) (A := X.A.in1) hh i1 a na its.toArray) (Draws.list (prog := X.prog) (w := X.w) (A := X.A.in1) hh i2 b nb its2.toArray) (Draws.list (prog := X.prog) (w := X.w) (A := X.A.in1) hh i3 c nc its3.toArray)
    have en : min (min its.toArray.size its2.toArray.size) its3.toArray.size = i := by rw [List.size_toArray, List.size_toArray, List.size_toArray]; omega
    refine thn (G.stops s (fun s1 => Inv X pins σ H s1) E (by rw [en]; exact ⟨hz, hTI, hTO, ⟨h1, p.isList⟩, ⟨h2, p2.isList⟩, h3, p3.isList⟩) fun h' tk k _ => ?_) fun r s1 h => h
    exact I.turnedL (ch := [z, TI, TO, i1, i2, i3]) (fun q ob hb e => k q ob (fun z' => hb (by
        rcases List.mem_cons.mp z' with r | z'
        · rw [r]; simp
        rcases List.mem_cons.mp z' with r | z'
        · rw [r]; simp
        rcases List.mem_cons.mp z' with r | z'
        · rw [r]; simp
        rcases List.mem_cons.mp z' with r | z'
        · rw [r]; simp
        rcases List.mem_cons.mp z' with r | z'
        · rw [r]; simp
        cases z')) e) hf
  self := fun A i s Q E st h => wpAny_pyIter_zip st.2.1 h
def iZip3 (K : PySem.W.Frag) (ta : TA) : TI := fun σ H R => ta σ H fun vs H1 => ∃ a b c xs ys zs, vs = [.ref a, .ref b, .ref c] ∧ SqL K H1 a xs ∧ SqL K H1 b ys ∧ SqL K H1 c zs ∧ R (Itz3 K (min (min xs.length ys.length) zs.length) a b c) H1
theorem pi_zip3 {X : Cx} {e e2 e3 : Expr} {ta : TA} {p pos tpos : Pos} {elts : List Expr} {kk : Nat} (hg : Gl X "zip") (hm : X.mg "zip" = none) (ha : PA X [e, e2, e3] ta)
    (hs : starEach [e, e2, e3] X.env = (false, eval e X.env) :: starEach [e2, e3] X.env := by rfl) (hpl : (backTo pos (starEach [e2, e3] X.env)).any (·.1) = false := by rfl) :
    PI X (.Tuple elts kk tpos) (.Call (.Name "zip" p) [e, e2, e3] [] pos) (iZip3 X.K ta) := by
  refine ⟨fun pins s σ H R I h => ?_⟩
  refine Call_ (ld_blt I hg hm PyProof.Rows.boot_zip (PyProof.Rows.callWith_type1 (thn (ha.run pos pins s σ H _ I h) fun us s1 ⟨vs, H1, I1, r1, q1⟩ => ?_) hs hpl))
  obtain ⟨a, b, c, xs, ys, zs, ex, hqx, hqy, hqz, q⟩ := q1
  subst ex
  cases r1 with
  | cons r rr =>
    cases rr with
    | cons r' rr =>
      cases rr with
      | cons r'' rr =>
        cases rr
        cases r
        cases r'
        cases r''
        obtain ⟨its, rv, p1, _⟩ := I1.list hqx
        obtain ⟨its2, rv2, p2, _⟩ := I1.list hqy
        obtain ⟨its3, rv3, p3, _⟩ := I1.list hqz
        have la : a < s1.heap.objs.size := p1.lt
        have lb : b < s1.heap.objs.size := p2.lt
        have lc : c < s1.heap.objs.size := p3.lt
        refine zip_begins3 (begins_list a its.toArray) (begins_list b its2.toArray) (begins_list c its3.toArray) p1.isList p2.isList p3.isList fun h' hz hTI hTO h1 h2 h3 hsz hk => wpAny_pyIter_zip hz ?_
        have I2 : Inv X pins σ H1 { s1 with heap := h' } := I1.kept (t' := s1.toks) hk
        have S := zip_sep3 (N := s1.heap.objs.size) (fp1 := [a]) (fp2 := [b]) (fp3 := [c]) (fun q hq => by rw [List.mem_singleton.mp hq]; exact la) (fun q hq => by rw [List.mem_singleton.mp hq]; exact lb) (fun q hq => by rw [List.mem_singleton.mp hq]; exact lc)
        refine ⟨s1.heap.objs.size + 5, [s1.heap.objs.size + 5, s1.heap.objs.size + 3, s1.heap.objs.size + 4, s1.heap.objs.size, s1.heap.objs.size + 1, s1.heap.objs.size + 2], _, _, H1, rfl, I2, turn_zip3 S (Nat.ne_of_lt la) (show (b : Nat) ≠ s1.heap.objs.size + 1 from Nat.ne_of_lt (Nat.lt_succ_of_lt lb)) (show (c : Nat) ≠ s1.heap.objs.size + 2 from Nat.ne_of_lt (Nat.lt_succ_of_lt (Nat.lt_succ_of_lt lc))), ⟨Nat.zero_le _, hz, hTI, ⟨_, _, _, hTO⟩, ⟨_, h1, rfl, rfl⟩, ⟨_, h2, rfl, rfl⟩, ⟨_, h3, rfl, rfl⟩⟩, fun q hq => ?_, q⟩
        have hle : s1.heap.objs.size ≤ q := by
          have e' : q = s1.heap.objs.size + 5 ∨ q = s1.heap.objs.size + 3 ∨ q = s1.heap.objs.size + 4 ∨ q = s1.heap.objs.size ∨ q = s1.heap.objs.size + 1 ∨ q = s1.heap.objs.size + 2 := by simpa using hq
          rcases e' with z | z | z | z | z | z
          · rw [z]; exact Nat.le_add_right _ _
          · rw [z]; exact Nat.le_add_right _ _
          · rw [z]; exact Nat.le_add_right _ _
          · rw [z]; exact Nat.le_refl _
          · rw [z]; exact Nat.le_add_right _ _
          · rw [z]; exact Nat.le_add_right _ _
        exact I1.fpOk hle (I1.hok.fresh hle)
theorem wlk_zip3 {K : PySem.W.Frag} {a b c : Addr} {xs ys zs : List V} {H1 : Hp} (h : SqL K H1 a xs) (h' : SqL K H1 b ys) (h'' : SqL K H1 c zs) : WlkT (Itz3 K (min (min xs.length ys.length) zs.length) a b c) (min (min xs.length ys.length) zs.length) (fun i => [xs.getD i .non, ys.getD i .non, zs.getD i .non]) H1 where
  go := fun i H hi e => ⟨hi, xs, ys, zs, xs[i]'(by omega), ys[i]'(by omega), zs[i]'(by omega), Same.seq e h, Same.seq e h', Same.seq e h'', by simp [show i < xs.length by omega], by simp [show i < ys.length by omega], by simp [show i < zs.length by omega]⟩
  yld := fun i H v H' hi e y => by
    obtain ⟨T, x, z, u, ev, hT, eH, hx, hy, hu⟩ := y
    have e1 := hx xs (Same.seq e h)
    have e2 := hy ys (Same.seq e h')
    have e3 := hu zs (Same.seq e h'')
    exact ⟨T, ev, hT, by rw [eH, List.getD_eq_getElem?_getD, List.getD_eq_getElem?_getD, List.getD_eq_getElem?_getD, e1, e2, e3]; rfl⟩
  stop := fun i H hi e => ⟨hi, xs, ys, zs, Same.seq e h, Same.seq e h', Same.seq e h'', rfl⟩
section
variable {X : Cx} {N L S G B : List Str} {a b c : Expr} {σ : L2.St} {H : Hp} {R : It → Hp → Prop} {p pos : Pos}
theorem wi_zip3 {elts : List Expr} {kk : Nat} {tpos : Pos} (cc : Nm X N L S G B) (m : Mb "zip" B) (h : WE X a σ H fun x H1 => WE X b σ H1 fun y H2 => WE X c σ H2 fun z H3 => ∃ l l' l'' xs ys zs, x = .ref l ∧ y = .ref l' ∧ z = .ref l'' ∧ SqL X.K H3 l xs ∧ SqL X.K H3 l' ys ∧ SqL X.K H3 l'' zs ∧ R (Itz3 X.K (min (min xs.length ys.length) zs.length) l l' l'') H3)
    (hs : starEach [a, b, c] X.env = [(false, eval a X.env), (false, eval b X.env), (false, eval c X.env)] := by with_unfolding_all rfl) (hs2 : starEach [b, c] X.env = [(false, eval b X.env), (false, eval c X.env)] := by with_unfolding_all rfl) (hs3 : starEach [c] X.env = [(false, eval c X.env)] := by with_unfolding_all rfl) :
    WI X (.Tuple elts kk tpos) (.Call (.Name "zip" p) [a, b, c] [] pos) σ H R :=
  (pi_zip3 (cc.bgl _ m.mem).1 (cc.blt _ m.mem) (pa_cons pe_w (pa_cons pe_w (pa_cons pe_w pa_nil hs3) (hs2.trans (by rw [hs3]))) (hs.trans (by rw [hs2]))) (hs.trans (by rw [hs2])) (by rw [hs2]; rfl)).w (WE.imp h fun x H1 h1 => WE.imp h1 fun y H2 h2 => WE.imp h2 fun z H3 ⟨l, l', l'', xs, ys, zs, e1, e2, e3, h, h', h'', q⟩ => ⟨l, l', l'', xs, ys, zs, by rw [e1, e2, e3], h, h', h'', q⟩)
end
/-! ### xs.extend(ys), list(range(a, b)) -/
section
variable {X : Cx} {N L S G B : List Str} {o e a b : Expr} {σ : L2.St} {H : Hp} {Q : VK} {apos p p2 p3 pos : Pos}
theorem w_extend (h : WE X o σ H fun x H1 => ∃ l, x = .ref l ∧ (∃ xs, SqL X.K H1 l xs) ∧ WE X e σ H1 fun y H2 => ∃ d xs ys, y = .ref d ∧ H2 l = some (.lst xs) ∧ H2 d = some (.lst ys) ∧ xs.length + ys.length ≤ sizeLine ∧ Q .non (upd H2 l (.lst (xs ++ ys))))
    (hbase : attributeBase o "extend" X.env (eval o X.env) = eval o X.env := by with_unfolding_all rfl)
    (hfew : ((backTo pos (starEach [e] X.env)).all (fun x => !x.1) && (backToKw pos (keywordEach [] X.env)).all (fun x => x.1.isSome)
      && decide ([e].length + ([] : List Keyword).length + (if ([] : List Keyword).isEmpty then 0 else 1) < 30)) = true := by with_unfolding_all rfl)
    (hline : (apos.endLine == pos.line) = true := by with_unfolding_all rfl) (hs : starEach [e] X.env = (false, eval e X.env) :: starEach [] X.env := by with_unfolding_all rfl) : WE X (.Call (.Attribute o "extend" apos) [e] [] pos) σ H Q := by
  refine (pe_bm PySem.F.plainAttrs_list PySem.F.slot_list_extend PySem.F.type_list_extend mt_extend pe_w (pa_cons pe_w pa_nil hs) hbase hfew hline hs rfl).w ?_
  exact WE.imp h fun x H1 ⟨l, e1, ⟨xs, hx⟩, q⟩ => ⟨by rw [e1]; exact Or.inl ⟨rfl, xs, hx⟩, WE.imp q fun y H2 ⟨d, xs, ys, e2, h1, h2, hz, q⟩ => ⟨l, d, xs, ys, e1, by rw [e2], h1, h2, hz, q⟩⟩
theorem rgV_nn (i j : Nat) : rgV ((i : Nat) : Int) ((j : Nat) : Int) = (List.range (j - i)).map fun k => V.int ((i + k : Nat) : Int) := by
  unfold rgV
  rw [show (((j : Nat) : Int) - ((i : Nat) : Int)).toNat = j - i by omega]
  exact List.map_congr_left fun k _ => by rw [Int.natCast_add]
/-- list(range(a, b)) -/
theorem x_listRg2 (c : Nm X N L S G B) (m : Mb "list" B) (m2 : Mb "range" B) (h : WE X a σ H fun x H1 => WE X b σ H1 fun y H2 => ∃ i j : Nat, x = .int (i : Nat) ∧ y = .int (j : Nat) ∧ i ≤ 16777216 ∧ j ≤ 16777216 ∧ ∀ q H', H2 q = none → Same H2 H' → H' q = some (.lst ((List.range (j - i)).map fun k => V.int ((i + k : Nat) : Int))) → Q (.ref q) H')
    (na2 : starEach [a, b] X.env = (false, eval a X.env) :: starEach [b] X.env := by with_unfolding_all rfl) (na3 : starEach [b] X.env = (false, eval b X.env) :: starEach [] X.env := by with_unfolding_all rfl)
    (na : starEach [.Call (.Name "range" p2) [a, b] [] p3] X.env = (false, eval (.Call (.Name "range" p2) [a, b] [] p3) X.env) :: starEach [] X.env := by with_unfolding_all rfl) : WE X (.Call (.Name "list" p) [.Call (.Name "range" p2) [a, b] [] p3] [] pos) σ H Q :=
  (pe_listRg c.calm (c.bgl _ m.mem).1 (c.blt _ m.mem) (prg_2 (c.bgl _ m2.mem).1 (c.blt _ m2.mem) pe_w pe_w na2 na3 (by rw [na3]; rfl)) na).w (WE.imp h fun x H1 h1 => WE.imp h1 fun y H2 ⟨i, j, e1, e2, hi, hj, q⟩ => ⟨((i : Nat) : Int), ((j : Nat) : Int), e1, e2, RgOk.of_le (by omega) (by omega) (by omega) (by omega), fun q' hq => by rw [rgV_nn]; exact q q' _ hq (same_new hq) upd_same⟩)
end
end Sv
namespace Sv
open PySem PySem.Spec PyProof.Rows L2
section
variable {X : Cx} {N L S G B : List Str} {tg iter : Expr} {body : List Stmt} {σ : L2.St} {H : Hp} {D : Ends} {pos : Pos}
/-- for, each item a new tuple; only the walked is asked to stand -/
theorem ws_forTM (hp : PassesOwn (model X.prog X.w) X.A X.env X.xe) (hc : Nm X N L S G B)
    (h : WI X tg iter σ H fun J H1 => ∃ n it Hw, WlkT J n it Hw ∧ ∃ Pv : Nat → L2.St → Hp → Prop, Pv 0 σ H1 ∧ (∀ i σ' H', Pv i σ' H' → Same Hw H') ∧
      (∀ i σ' H', i < n → Pv i σ' H' → ∀ T H'', H' T = none → Same H' H'' → H'' T = some (.tup (it i)) → WG X tg (.ref T) σ' H'' fun σ2 H2 => WL X body { D with nx := Pv (i + 1), ct := Pv (i + 1), bk := D.nx } σ2 H2) ∧ ∀ σ' H', Pv n σ' H' → D.nx σ' H')
    (hs : ∀ x, foldedSetIterable iter X.env x = pure x := by intro _; with_unfolding_all rfl) : WS X (.For tg iter body [] pos) D σ H := by
  refine (ps_for hp hc.calm pi_w pg_w pss_w hs).w ?_
  refine ⟨fun pins s I => thn (h.run pins s I) fun v s1 h1 => thn h1 fun itv s2 ⟨it, fp, tn, J, H', e, I', T, t0, hf, n, itm, Hw, W, Pv, p0, hsm, hst, hd⟩ => ⟨it, fp, tn, J, H', e, I', T, t0, hf, ?_⟩⟩
  refine ⟨fun i m σ' H'' => m = n - i ∧ i ≤ n ∧ Pv i σ' H'', ⟨n, by simp, Nat.zero_le _, p0⟩, ?_⟩
  rintro i m σ' H'' ⟨rfl, hi, p⟩
  by_cases hlt : i < n
  · refine .inr ⟨W.go i H'' hlt (hsm _ _ _ p), Pv (i + 1), fun σ2 H2 p' => ⟨n - (i + 1), by omega, rfl, hlt, p'⟩, fun x H3 y => ?_⟩
    obtain ⟨T, rfl, hT, rfl⟩ := W.yld i H'' x H3 hlt (hsm _ _ _ p) y
    exact hst i σ' _ hlt p T _ hT (same_new hT) upd_same
  · have e : i = n := by omega
    subst e
    exact .inl ⟨W.stop _ _ (Nat.le_refl _) (hsm _ _ _ p), hd _ _ p⟩
end
/-! ### lists of numbers by a function -/
def ilst (a : Nat → Nat) (n : Nat) : List V := (List.range n).map fun i => V.int ((a i : Nat) : Int)
theorem ilst_len (a : Nat → Nat) (n : Nat) : (ilst a n).length = n := by unfold ilst; rw [List.length_map, List.length_range]
theorem ilst_get {a : Nat → Nat} {n i : Nat} (h : i < n) : (ilst a n)[i]? = some (V.int ((a i : Nat) : Int)) := by
  unfold ilst
  rw [List.getElem?_map, List.getElem?_range h]; rfl
theorem ilst_getD {a : Nat → Nat} {n i : Nat} (h : i < n) : (ilst a n).getD i .non = V.int ((a i : Nat) : Int) := by
  rw [List.getD_eq_getElem?_getD, ilst_get h]; rfl
theorem ilst_succ (a : Nat → Nat) (n : Nat) : ilst a (n + 1) = ilst a n ++ [V.int ((a n : Nat) : Int)] := by
  unfold ilst
  rw [List.range_succ, List.map_append]; rfl
theorem ilst_drop (a : Nat → Nat) (n : Nat) : (ilst a n).drop 1 = ilst (fun i => a (i + 1)) (n - 1) := by
  cases n with
  | zero => rfl
  | succ n =>
    unfold ilst
    rw [List.range_succ_eq_map, List.map_cons, List.drop_succ_cons, List.drop_zero, List.map_map]
    rfl
theorem ilst_congr {a b : Nat → Nat} {n : Nat} (h : ∀ i, i < n → a i = b i) : ilst a n = ilst b n := by
  unfold ilst
  exact List.map_congr_left fun i hi => by rw [h i (List.mem_range.mp hi)]
theorem cut_one (xs : List V) : cutV xs (some 1) none = xs.drop 1 := by
  unfold cutV
  show (xs.drop (HT.sIx xs.length 0 (some ((1 : Nat) : Int)))).take (HT.sIx xs.length xs.length none - HT.sIx xs.length 0 (some ((1 : Nat) : Int))) = _
  rw [HT.sIx_nat, HT.sIx_none]
  cases xs with
  | nil => rfl
  | cons x xs =>
    rw [Nat.min_eq_left (by simp)]
    exact List.take_of_length_le (by simp)
theorem at_last {α : Type} {xs : List α} {v : α} (h : xs[xs.length - 1]? = some v) : atI xs (-1) = some v := by
  have hi : xs.length - 1 < xs.length := (List.getElem?_eq_some_iff.mp h).1
  unfold atI ixN
  rw [if_neg (by omega), if_pos (by omega)]
  have e : ((-1 : Int) + (xs.length : Nat)).toNat = xs.length - 1 := by omega
  simpa [e] using h
theorem ilst_last {a : Nat → Nat} {n : Nat} (h : 0 < n) : atI (ilst a n) (-1) = some (V.int ((a (n - 1) : Nat) : Int)) := at_last (by rw [ilst_len, ilst_get (by omega)])
end Sv

/-! Defs that are run where no object is being shown: repr of lists and tuples. -/
namespace Sv
open PySem PySem.Spec PyProof.Rows L2

/-- no repr stands open -/
def NoG (A : Around) : Prop := A.guards = some []
theorem NoG.deeper {A : Around} (h : NoG A) (env : Env) : NoG (A.deeper env) := h
theorem NoG.caller : NoG callerA := rfl
/-- a def's promise where no repr stands open -/
def FnRG (P : Program) (w : World) (K : PySem.W.Frag) (mg : Str → Option Value) (base : Heap) (C : CXT) (k : Nat) (f : Addr) (sp : Sp) : Prop :=
  ∀ (A : Around), NoG A → ∀ (outer : List Env) (s : Shared) (H : Hp) (us : List Value) (vs : List V) (Q : VK) (E : XK), Room k A → Env0 P w K mg base A outer s H → Vals vs us → sp vs H Q E → codeAny (model P w) A (.call (.ref f) ⟨us, []⟩) (CR C outer P w H s Q E) s
/-- the same for an argument list that binds -/
def FnOkG (P : Program) (w : World) (K : PySem.W.Frag) (mg : Str → Option Value) (base : Heap) (C : CXT) (k : Nat) (f : Addr) (fd : FuncData) (ps : List Str) (sp : Sp) : Prop :=
  ∀ (A : Around), NoG A → ∀ (outer : List Env) (s : Shared) (H : Hp) (args : Args) (us : List Value) (vs : List V) (Q : VK) (E : XK), Room k A → Env0 P w K mg base A outer s H → BindsTo s fd args (ps.zip us) → Vals vs us → sp vs H Q E → codeAny (model P w) A (.call (.ref f) args) (CR C outer P w H s Q E) s
section
variable {P : Program} {w : World} {K : PySem.W.Frag} {mg : Str → Option Value} {base : Heap} {N ps L G B : List Str} {k : Nat} {x qual : Str} {params : Arguments} {body : List Stmt} {sc : Scope} {f : Addr} {fd : FuncData} {sp : Sp}
theorem FnRG.of {C : CXT} (F : FnR P w K mg base C k f sp) : FnRG P w K mg base C k f sp := fun A _ outer s H us vs Q E hr e0 r h => F A outer s H us vs Q E hr e0 r h
/-- how a body's end answers for the call -/
theorem body_ends {N' : List Str} {qual' : Str} {sc' : Scope} {f' : Addr} {cd : Value} {A : Around} {outer : List Env} {s s' : Shared} {H : Hp} {Q : VK} {E : XK} {fl : Flow}
    (h : SP (cx P w K mg base N' qual' sc' f' cd A outer s H E) [] { nx := fun _ H' => Q .non H', rt := Q } fl s') : match fl with
      | .ret u => CE outer P w H s Q u s'
      | .next => CE outer P w H s Q .none s'
      | _ => False := by
  cases fl with
  | ret u => obtain ⟨v, σ', H', J, rv, q⟩ := h; exact ⟨v, H', J.os, J.bare, J.base, J.hok, rv, q⟩
  | next => obtain ⟨σ', H', J, q⟩ := h; exact ⟨.non, H', J.os, J.bare, J.base, J.hok, rfl, q⟩
  | brk => obtain ⟨_, _, _, q⟩ := h; exact q
  | cont => obtain ⟨_, _, _, q⟩ := h; exact q
theorem fnokg_of {dvs : List V} (F : FunD K x qual params body sc dvs [] f fd) (S : scB N ps L G B sc = true) (len : ∀ vs H Q E, sp vs H Q E → vs.length = ps.length) (hb : ∀ x ∈ B, mg x = none)
    (hbody : ∀ (cd : Value) (A : Around) (outer : List Env) (s : Shared) (H : Hp) (vs : List V) (Q : VK) (E : XK), NoG (cx P w K mg base N qual sc f cd A outer s H E).A → Room k (cx P w K mg base N qual sc f cd A outer s H E).A → Nm (cx P w K mg base N qual sc f cd A outer s H E) N L L G B → sp vs H Q E →
      WL (cx P w K mg base N qual sc f cd A outer s H E) body { nx := fun _ H' => Q .non H', rt := Q } (start N vs) H) : FnOkG P w K mg base (L2.CX P w) (k + 1) f fd ps sp := by
  obtain ⟨oc, od, dV, kV, doc, pm, an, cdv, ct, osl, rfl, lk, hcd, _, _⟩ := F.ex
  have sok := (scB_ok S).1
  intro A hg outer s H args us vs Q E room env bnd rv hsp
  have old : ∀ b o, base.get? b = some o → s.heap.get? b = some o := fun b o e => (env.bs b o e).1
  have kIn : K.In s.heap := env.mod.kin.keeps old
  have kinds : ∀ y ∈ ps.zip us, sc.names.lookup y.1 = some .local ∨ (sc.names.lookup y.1 = some .cell ∧ ((cellsFrom (s.heap.objs.size + 1) sc.names []).lookup y.1).isSome = true) := by
    rintro ⟨n, v⟩ hy
    exact (sok.par n (List.of_mem_zip hy).1).imp id fun z => ⟨z, PySem.W.cellsFrom_some _ _ _ (.inl z)⟩
  refine codeAny_call_function room.depth (kIn _ _ lk) rfl sok.co sok.gen rfl (PySem.W.codeRec_of kIn hcd) (bnd _ _ _ _ (wpAny_newFunctionEnv_cells sok.kind kinds fun e' he s1 ic => ?_))
  cases he
  refine ⟨(env.mod.nolimit.keeps old).keeps ic.toInCall.keep, codeAny_func ?_⟩
  have I0 := inv_start (CX := L2.CX P w) (E := E) sok room.hd env (len _ _ _ _ hsp) rv ic
  refine wpAny_mono ((hbody cdv A outer s H vs Q E hg (room.deeper _) (nm_of S hb) hsp).run [] s1 I0) (fun fl s' hs => ?_) fun _ _ z => z
  have e := body_ends hs
  cases fl with
  | ret u => exact e
  | next => exact e
  | brk => exact (show False from e).elim
  | cont => exact (show False from e).elim
/-- THE RULE for a def without defaults -/
theorem fnrg_of (F : FunD K x qual params body sc [] [] f fd) (S : scB N ps L G B sc = true) (len : ∀ vs H Q E, sp vs H Q E → vs.length = ps.length)
    (hbind : ∀ (kV doc pm : Value) (an : Option Addr) (cdv ct : Value) (us : List Value), us.length = ps.length → bindArgs (PySem.W.fnOf x qual params body sc .none kV doc pm an cdv ct) ⟨us, []⟩ = pure (ps.zip us)) (hb : ∀ x ∈ B, mg x = none)
    (hbody : ∀ (cd : Value) (A : Around) (outer : List Env) (s : Shared) (H : Hp) (vs : List V) (Q : VK) (E : XK), NoG (cx P w K mg base N qual sc f cd A outer s H E).A → Room k (cx P w K mg base N qual sc f cd A outer s H E).A → Nm (cx P w K mg base N qual sc f cd A outer s H E) N L L G B → sp vs H Q E →
      WL (cx P w K mg base N qual sc f cd A outer s H E) body { nx := fun _ H' => Q .non H', rt := Q } (start N vs) H) : FnRG P w K mg base (L2.CX P w) (k + 1) f sp := by
  intro A hg outer s H us vs Q E room env rv hsp
  have hl : us.length = ps.length := by rw [← len _ _ _ _ hsp]; exact (Paired.length rv).symm
  exact fnokg_of F S len hb hbody A hg outer s H ⟨us, []⟩ us vs Q E room env (F.bindsA hbind s us hl) rv hsp
end
/-! ### calls of such defs -/
structure FnG (P : Program) (w : World) (K : PySem.W.Frag) (mg : Str → Option Value) (base : Heap) (x : Str) (k : Nat) (sp : Sp) : Prop where
  ex : ∃ f, mg x = some (.ref f) ∧ PySem.W.keepIn K (.ref f) = true ∧ FnRG P w K mg base (L2.CX P w) k f sp
section
variable {X : Cx} {N L S G B : List Str} {x : Str} {e : Expr} {es : List Expr} {σ : L2.St} {H : Hp} {Q : VK} {p pos : Pos} {j k : Nat} {sp : Sp} {E : XK}
theorem w_callG (c : Nm X N L S G B) (mm : Mb x G) (F : FnG X.prog X.w X.K X.mg X.base x k sp) (hg : NoG X.A) (hr : Room j X.A) (hj : k ≤ j) (hx : PassesAt (L2.CX X.prog X.w) X σ E) (h : WA X (e :: es) σ H fun vs H1 => sp vs H1 Q E)
    (he : starEach (e :: es) X.env = (false, eval e X.env) :: starEach es X.env := by with_unfolding_all rfl) (hpl : (backTo pos (starEach es X.env)).any (·.1) = false := by with_unfolding_all rfl) : WE X (.Call (.Name x p) (e :: es) [] pos) σ H Q := by
  obtain ⟨f, hm, hk, F⟩ := F.ex
  obtain ⟨a, b, d⟩ := c.glo x mm.mem
  refine ⟨fun pins s I => wpAny_Call_Name_kw (ld_glob I a hm ?_ b)⟩
  refine PySem.W.callWith_K (h₀ := X.base) I.ok.mod.kin hk (thn (h.run pos pins s I) fun us s1 ⟨vs, H1, I1, r, q⟩ => ⟨I1.kIn, ?_⟩) he hpl
  refine wpAny_call (codeAny_mono (F X.A hg X.stack s1 H1 us vs Q E (hr.mono hj) I1.env0 r q) fun r s' hq => ?_)
  cases r with
  | error e => exact hx pins H1 s1 e s' I1 hq
  | ok fl =>
    cases fl with
    | ret u => exact I1.after hq
    | next => exact hq.elim
    | brk => exact hq.elim
    | cont => exact hq.elim
/-! ### repr -/
theorem c_reprD {v : V} {d : PyData} (hg : NoG X.A) (hu : X.A.units + 64 < cLine) (h : Dp X.K H v d) (hs : d.showable = true) (hd : d.hasDict = false) (hdp : d.depth < 60) (hz : d.shown.length ≤ sizeLine) (q : Q (.str d.shown) H) : WC X (.builtin "repr") [v] σ H Q := by
  refine ⟨fun pins s us I r => ?_⟩
  obtain ⟨u, rfl, hu1⟩ := vals1 r
  have hok : ∀ {z : Str} {t : Tok} {s' : Shared}, Inv X pins σ H s' → z = d.shown → EP X pins σ Q (.str z t) s' := fun {z t s'} I' e => ⟨.str z, H, I', ⟨_, rfl⟩, by rw [e]; exact q⟩
  have byref : ∀ a : Addr, u = .ref a → wpAny (model X.prog X.w) X.A (call (.builtin "repr") [u]) (EP X pins σ Q) X.xe s := fun a e => by
    obtain ⟨as, rd⟩ := Dp.reads I d v u h hu1
    subst e
    exact repr_of_reads' rd hs (fun z => by rw [hd] at z; cases z) hg (by omega) (fun b o e => e) (fun h' u' tk hk => hok (I.kept (t' := tk) hk) rfl) hz
  cases h with
  | non =>
    obtain rfl : u = Value.none := hu1
    exact PySem.P.repr_of_none (hok (I.tok _) (by simp only [PyData.shown]))
  | bl b =>
    obtain rfl : u = Value.bool b := hu1
    exact PySem.P.repr_of_bool (hok (I.tok _) (by simp only [PyData.shown]))
  | int i =>
    obtain ⟨t, rfl⟩ := hu1
    simp only [PyData.showable] at hs
    exact PySem.P.repr_of_int (of_decide_eq_true hs) (hok (I.tok _) (by simp only [PyData.shown]))
  | str x =>
    obtain ⟨t, rfl⟩ := hu1
    simp only [PyData.shown] at hz
    exact PySem.P.repr_of_str (hok (I.tok _) (by simp only [PyData.shown])) hz
  | lst => exact byref _ hu1
  | tup => exact byref _ hu1
theorem x_reprD {d : PyData} (c : Nm X N L S G B) (m : Mb "repr" B) (hg : NoG X.A) (hu : X.A.units + 64 < cLine) (h : WE X e σ H fun v H1 => Dp X.K H1 v d ∧ d.showable = true ∧ d.hasDict = false ∧ d.depth < 60 ∧ d.shown.length ≤ sizeLine ∧ Q (.str d.shown) H1)
    (hs : starEach [e] X.env = (false, eval e X.env) :: starEach [] X.env := by with_unfolding_all rfl) (hpl : (backTo pos (starEach [] X.env)).any (·.1) = false := by with_unfolding_all rfl) : WE X (.Call (.Name "repr" p) [e] [] pos) σ H Q :=
  w_callB c m bt_repr (wa_cons (WE.imp h fun v H1 ⟨h1, h2, h3, h4, h5, q⟩ => wa_nil (c_reprD hg hu h1 h2 h3 h4 h5 q)) hs) hs hpl
end
end Sv
namespace Sv
open PySem PySem.Spec PyProof.Rows L2
/-! ### a law whose def is run where no repr stands open -/
section
variable {P : Program} {w : World} {K : PySem.W.Frag} {mg mb : Str → Option Value} {k : Nat} {fa a : Addr} {fd : FuncData} {x : Str} {sp : Sp} {t : Shared} {us : List Value} {xs : List Int}
/-- what the law's call owes -/
abbrev LawEnd (t : Shared) (r : Result) (s' : Shared) : Prop := r = .ok (.ret (.bool true)) ∧ OldK t.heap s'.heap ∧ s'.os = t.os ∧ AllBare s'.gens
/-- the heap told: the script alone, or nothing -/
structure TopH (P : Program) (w : World) (K : PySem.W.Frag) (a : Addr) (xs : List Int) (t : Shared) (H : Hp) : Prop where
  only : Only H
  sq : SqL K H a (xs.map V.int)
  hok : HOk P w H t.heap
  one : ∀ b, H b ≠ none → b = a ∧ K.lookup a = none
theorem top_end {H : Hp} (T : TopH P w K a xs t H) {r : Result} {s' : Shared} (h : CR (L2.CX P w) [] P w H t (fun v _ => v = .bl true) (fun _ _ _ => False) r s') : LawEnd t r s' := by
  cases r with
  | error e =>
    obtain ⟨_, _, _, _, _, _, _, _, _, _, _, _, no⟩ := h
    exact no.elim
  | ok fl =>
    cases fl with
    | next => exact (show False from h).elim
    | brk => exact (show False from h).elim
    | cont => exact (show False from h).elim
    | ret u =>
      obtain ⟨v, H', h1, h2, un, h3, h4, rfl⟩ := h
      have hu : u = Value.bool true := h4
      refine ⟨by rw [hu], OldK.of_keep fun b o e => ?_, h1, h2⟩
      by_cases z : H b = none
      · exact un.keep b o e z (fun m => by cases m) (by simp)
      · rcases T.only b with y | ⟨ob, zs, y⟩
        · exact absurd y z
        · have f1 := (T.hok b _ y).1
          have f2 := (h3 b _ (un.frzs b ob _ y)).1
          rw [e] at f1
          cases f1
          exact f2
theorem top_run {H : Hp} (T : TopH P w K a xs t H) (kin : K.In t.heap) (ns1 : t.heap.Ns mainGlobals mg) (ns2 : t.heap.Ns builtinsNs mb) (boot : ∀ x : Str, x ≠ "__name__" → mb x = bootBuiltins x) (lim : t.heap.NoLimit) (gens : t.gens = #[])
    (scr : t.heap.get? a = some { cls := .type "list", data := .seq us.toArray }) (hr : Room k callerA) (F : ∀ base : Heap, K.In base → base.Ns mainGlobals mg → FnOkG P w K mg base (L2.CX P w) k fa fd [x] sp) (bnd : ∀ (s : Shared) (u : Value), BindsTo s fd ⟨[u], []⟩ [(x, u)])
    (hsp : ∀ H : Hp, Only H → SqL K H a (xs.map V.int) → sp [.ref a] H (fun v _ => v = .bl true) fun _ _ _ => False) : codeAny (model P w) callerA (.call (.ref fa) ⟨[.ref a], []⟩) (LawEnd t) t := by
  have out : ∀ {b : Addr} {o : Obj}, t.heap.get? b = some o → (b = a → K.lookup a ≠ none ∨ ∃ es ep, o.data = .dict es ep) → H b = none := fun {b o} e h => by
    refine Classical.byContradiction fun z => ?_
    obtain ⟨rfl, lk⟩ := T.one b z
    rcases h rfl with y | ⟨es, ep, y⟩
    · exact y lk
    · rw [scr] at e
      cases e
      cases (show Data.seq us.toArray _ = Data.dict es ep from y)
  have hid : ∀ {b : Addr} {m : Str → Option Value}, t.heap.Ns b m → (hidT t.heap H).Ns b m := by
    rintro b m ⟨o, es, ep, e, d, r⟩
    exact ⟨o, es, ep, hidT_get e (out e fun _ => .inr ⟨es, ep, d⟩), d, r⟩
  have kin2 : K.In (hidT t.heap H) := fun b o e => hidT_get (kin b o e) (out (kin b o e) fun z => .inl (by rw [← z, e]; simp))
  obtain ⟨mc, l1, l2⟩ := lim
  have env : Env0 P w K mg (hidT t.heap H) callerA [] t H := { frames := rfl, mod := ⟨kin2, hid ns1, ⟨mb, hid ns2, boot⟩, ⟨mc, hid l1, l2⟩⟩, bs := fun b o e => of_hidT e, bsz := Nat.le_of_eq (hidT_size _ _), funs := trivial, frf := fun b hb => (by cases hb), hok := T.hok, bare := .of_eq gens }
  exact codeAny_mono (F _ kin2 (hid ns1) callerA NoG.caller [] t H ⟨[.ref a], []⟩ [.ref a] [.ref a] _ _ hr env (bnd t (.ref a)) (.cons rfl .nil) (hsp H T.only T.sq)) fun r s' h => top_end T h
theorem top_heap (kin : K.In t.heap) (scr : t.heap.get? a = some { cls := .type "list", data := .seq us.toArray }) (hi : IntsAre us xs) (hl : xs.length ≤ sizeLine) : ∃ H, TopH P w K a xs t H := by
  have rv := vals_ints hi
  have ll := hi.length
  cases lk : K.lookup a with
  | some o =>
    have e := kin a o lk
    rw [scr] at e
    cases e
    refine ⟨fun _ => none, ⟨fun _ => .inl rfl, .inr ⟨_, us.toArray, _, lk, rfl, rfl, rfl, by rw [List.size_toArray, ll]; exact hl, by simpa using rv⟩, fun b u z => (by cases (show (none : Option HO) = some u from z)), fun b z => absurd rfl z⟩⟩
  | none =>
    let ob : Obj := { cls := .type "list", data := .seq us.toArray }
    let H : Hp := upd (fun _ => none) a (.frz ob (.lst (xs.map V.int)))
    have far : ∀ b, b ≠ a → H b = none := fun b n => upd_ne n
    have at_ : H a = some (.frz ob (.lst (xs.map V.int))) := upd_same
    refine ⟨H, ⟨fun b => ?_, .inl (.inr ⟨ob, at_⟩), fun b u z => ?_, fun b z => ⟨Classical.byContradiction fun n => z (far b n), lk⟩⟩⟩
    · by_cases n : b = a
      · rw [n]; exact .inr ⟨_, _, at_⟩
      · exact .inl (far b n)
    · by_cases n : b = a
      · subst n
        rw [at_] at z
        cases z
        exact ⟨scr, by rw [List.length_map]; exact hl, us, _, rv, scr⟩
      · rw [far b n] at z
        cases z
end
/-- a law's end, where no repr stands open -/
theorem walk_ofG {L : PySem.W.OpenLaw} {m j : Nat} {q' : Program} {lo : List Str} {XQ : (Str → Option Value) → Heap → Prop} {YQ : World → Heap → Prop} {dr : DefRec} {par : Str} (h1 : L.most = some m) (h2 : m ≤ sizeLine) (h3 : dr.params.defaults = []) (h4 : Room j callerA)
    (go : ∀ (ww : World) (gm : Str → Option Value) (ad : Addr) (hp : Heap), YQ ww hp → hp.Ns mainGlobals gm → gm dr.name = some (.ref ad) → ∃ (KK : PySem.W.Frag) (fdd : FuncData) (spp : Sp), KK.In hp ∧ (∀ (z : Shared) (u : Value), BindsTo z fdd ⟨[u], []⟩ [(par, u)]) ∧
      (∀ (HH : Hp) (aa : Addr) (xs : List Int), xs.length ≤ m → Only HH → SqL KK HH aa (xs.map V.int) → spp [.ref aa] HH (fun v _ => v = .bl true) fun _ _ _ => False) ∧
      ∀ bs : Heap, KK.In bs → bs.Ns mainGlobals gm → FnOkG L.prog ww KK gm bs (L2.CX L.prog ww) j ad fdd [par] spp) :
    PySem.W.WalkO q' lo XQ YQ L.row.toRowW dr [] (fun g us => PySem.call g us) := by
  refine Att.attach_call h1 h3 ?_
  intro ww t0 t1 gm bm ad ob pm' cd' dc aa us xs GG YY e1 e2 e3 e4 e5 e6 e7 e8
  obtain ⟨KK, fdd, spp, k1, k2, k3, k4⟩ := go ww gm ad _ YY GG.T.g e4
  obtain ⟨HH, T⟩ := top_heap (P := L.prog) (w := ww) k1 e5 e6 (Nat.le_trans e7 h2)
  exact top_run T k1 GG.T.g GG.T.b GG.T.builtins GG.T.nolimit e8 e5 h4 k4 k2 fun H o1 o2 => k3 H aa xs e7 o1 o2
end Sv
namespace Sv
open PySem PySem.Spec PyProof.Rows L2
/-! ### in an except suite -/
structure NmS (X : Cx) (N L S G B : List Str) : Prop where
  names : X.N = N
  nd : N.Nodup
  vis : ∀ x ∈ L, Vis X.env.scope x ∧ (x == ("__debug__" : Str)) = false ∧ (x == ("__classdict__" : Str)) = false
  sto : ∀ x ∈ S, Loc X.env.scope x ∧ (X.fn x = true ∨ X.env.scope.names.lookup x = some .local)
  glo : ∀ x ∈ G, Gl X x ∧ (x == ("__debug__" : Str)) = false ∧ x ≠ "__name__"
  blt : ∀ x ∈ B, X.mg x = none
  bgl : ∀ x ∈ B, Gl X x ∧ (x == ("__debug__" : Str)) = false ∧ x ≠ "__name__"
theorem Nm.su {X : Cx} {N L S G B : List Str} (c : Nm X N L S G B) (a : Addr) (pn : List (Addr × Obj)) : NmS (X.suite a pn) N L S G B := ⟨c.names, c.nd, c.vis, c.sto, c.glo, c.blt, c.bgl⟩
section
variable {X : Cx} {N L S G B : List Str} {σ : L2.St} {H : Hp} {Q : VK} {x : Str} {v : V} {p pos : Pos} {e e2 : Expr} {es : List Expr}
theorem s_name (c : NmS X N L S G B) (h : At N σ x v) (m : Mb x L) (q : Q v H) : WE X (.Name x pos) σ H Q := by
  obtain ⟨i, h1, h2⟩ := h.ix
  obtain ⟨a, b, d⟩ := c.vis x m.mem
  exact (pe_var (i := i) (by rw [c.names]; exact h1) a b d).w ⟨v, h2, q⟩
theorem s_gref {C : Addr} (c : NmS X N L S G B) (m : Mb x G) (hm : X.mg x = some (.ref C)) (q : Q (.ref C) H) : WE X (.Name x pos) σ H Q := by
  obtain ⟨a, b, d⟩ := c.glo x m.mem
  exact (pe_glob (v := .ref C) a hm rfl b).w q
theorem s_callB {id : String} (c : NmS X N L S G B) (m : Mb x B) (hv : bootBuiltins x = some (.builtin id)) (h : WA X (e :: es) σ H fun vs H1 => WC X (.builtin id) vs σ H1 Q)
    (hs : starEach (e :: es) X.env = (false, eval e X.env) :: starEach es X.env := by with_unfolding_all rfl) (hpl : (backTo pos (starEach es X.env)).any (·.1) = false := by with_unfolding_all rfl) : WE X (.Call (.Name x p) (e :: es) [] pos) σ H Q := by
  obtain ⟨a, b, d⟩ := c.bgl x m.mem
  exact ⟨fun pins s I => wpAny_Call_Name_kw (ld_blt I a (c.blt x m.mem) hv (PyProof.Rows.callWith_builtin1 (thn (h.run pos pins s I) fun us s1 ⟨vs, H1, I1, r1, q1⟩ => q1.run pins s1 us I1 r1) hs hpl) d b)⟩
theorem s_reprD {d : PyData} (c : NmS X N L S G B) (m : Mb "repr" B) (hg : NoG X.A) (hu : X.A.units + 64 < cLine) (h : WE X e σ H fun v H1 => Dp X.K H1 v d ∧ d.showable = true ∧ d.hasDict = false ∧ d.depth < 60 ∧ d.shown.length ≤ sizeLine ∧ Q (.str d.shown) H1)
    (hs : starEach [e] X.env = (false, eval e X.env) :: starEach [] X.env := by with_unfolding_all rfl) (hpl : (backTo pos (starEach [] X.env)).any (·.1) = false := by with_unfolding_all rfl) : WE X (.Call (.Name "repr" p) [e] [] pos) σ H Q :=
  s_callB c m bt_repr (wa_cons (WE.imp h fun v H1 ⟨h1, h2, h3, h4, h5, q⟩ => wa_nil (c_reprD hg hu h1 h2 h3 h4 h5 q)) hs) hs hpl
end
/-- the caught error, of class C, its dict d -/
structure Cau (K : PySem.W.Frag) (cls : Value) (d : Option Addr) (H : Hp) (C : Addr) (fld : Str) (v : V) : Prop where
  cls : cls = .ref C
  dict : ∃ dd, d = some dd ∧ H dd = some (.xd [(fld, v)])
section
variable {X : Cx} {N L S G B : List Str} {σ : L2.St} {H : Hp} {Q : VK} {x n : Str} {v : V} {p pos : Pos} {e e2 : Expr} {a : Addr} {oe : Obj} {cls : Value} {d : Option Addr} {pn : List (Addr × Obj)} {C fI : Addr} {fld : Str}
/-- e.f of the caught one -/
theorem s_xf (T : ErrC X.K C fld fI) (hz : Zc cls d oe) (hf : ∃ vs, oe.data = .fields vs) (h : WE (X.suite a ((a, oe) :: pn)) e σ H fun y H1 => y = .ref a ∧ Cau X.K cls d H1 C fld v ∧ Q v H1) (hb : attributeBase e fld X.env (eval e X.env) = eval e X.env := by with_unfolding_all rfl) :
    WE (X.suite a ((a, oe) :: pn)) (.Attribute e fld pos) σ H Q :=
  (pe_xf T.xf T.no hz hf pe_w hb).w (WE.imp h fun y H1 ⟨e1, ⟨e2, dd, e3, e4⟩, q⟩ => ⟨e1, e2, dd, _, v, e3, e4, by simp [List.lookup], q⟩)
/-- isinstance(e, c) of the caught one -/
theorem c_isE {c : V} {cv : Value} {b : Bool} (EC : ExcC X.K C) (hz : Zc cls d oe) (hf : ∃ vs, oe.data = .fields vs) (ca : Cau X.K cls d H C fld v) (hcv : ∀ u, RelV c u → u = cv) (hk : PySem.W.kitOne X.K (.ref C) cv = some b) (q : Q (.bl b) H) : WC (X.suite a ((a, oe) :: pn)) (.builtin "isinstance") [.ref a, c] σ H Q := by
  refine ⟨fun pins s us I r => ?_⟩
  obtain ⟨u, w, rfl, hu, hw⟩ : ∃ u w, us = [u, w] ∧ RelV (.ref a) u ∧ RelV c w := by
    cases r with
    | cons r1 r2 =>
      cases r2 with
      | cons r3 r4 => cases r4; exact ⟨_, _, rfl, r1, r3⟩
  obtain rfl : u = Value.ref a := hu
  obtain rfl : w = cv := hcv _ hw
  obtain ⟨ec, dd, ed, ea⟩ := ca
  subst ec ed
  obtain ⟨hget, _⟩ := I.pin (a, oe) (List.mem_append_left _ List.mem_cons_self)
  obtain ⟨vs, hd⟩ := hf
  have hx : ObjOk X.prog X.w H s.heap dd (.xd [(fld, v)]) := I.hok dd _ ea
  obtain ⟨mA, hns, hr⟩ := hx
  obtain ⟨od, ho, hl⟩ := lookIn_ns hns
  have J : PySem.W.InstAt s.heap a oe C (some od) := ⟨hget, hz.1, by unfold PySem.W.notCls; rw [hd] <;> rfl, by rw [hz.2]; exact ho⟩
  obtain ⟨cd, hcd, _⟩ := PySem.W.any_some EC.hd
  exact PySem.W.kia_one (PySem.W.kitx_exc (by rw [hcd]; rfl) EC.hg EC.hk EC.hs EC.ha EC.hn EC.ht EC.hm) I.kIn J hk (fun z => nomatch z) fun tk => ⟨.bl b, H, I.kept (t' := tk) fun _ _ z => z, rfl, q⟩
theorem s_isE {cv : Value} {b : Bool} (cc : NmS (X.suite a ((a, oe) :: pn)) N L S G B) (m : Mb "isinstance" B) (EC : ExcC X.K C) (hz : Zc cls d oe) (hf : ∃ vs, oe.data = .fields vs) (hk : PySem.W.kitOne X.K (.ref C) cv = some b)
    (h : WE (X.suite a ((a, oe) :: pn)) e σ H fun y H1 => y = .ref a ∧ WE (X.suite a ((a, oe) :: pn)) e2 σ H1 fun c H2 => (∀ u, RelV c u → u = cv) ∧ Cau X.K cls d H2 C fld v ∧ Q (.bl b) H2)
    (hs : starEach [e, e2] X.env = (false, eval e X.env) :: starEach [e2] X.env := by with_unfolding_all rfl) (hs2 : starEach [e2] X.env = (false, eval e2 X.env) :: starEach [] X.env := by with_unfolding_all rfl) (hpl : (backTo pos (starEach [e2] X.env)).any (·.1) = false := by with_unfolding_all rfl) : WE (X.suite a ((a, oe) :: pn)) (.Call (.Name "isinstance" p) [e, e2] [] pos) σ H Q :=
  s_callB cc m bt_isi (wa_cons (WE.imp h fun y H1 ⟨e1, h2⟩ => wa_cons (WE.imp h2 fun c H2 ⟨h4, h3, q⟩ => wa_nil (by rw [e1]; exact c_isE EC hz hf h3 h4 hk q)) hs2) hs) hs hpl
end
end Sv
namespace Sv
open PySem PySem.Spec PyProof.Rows L2
open He in
def exmB (x y : Str) (b : Bool) (K : PySem.W.Frag) : Bool := decide (PySem.W.exmOne K (.ref (ga K x)) (.ref (ga K y)) = some b)
open He in
theorem exmB_ok {x y : Str} {b : Bool} {K : PySem.W.Frag} (h : exmB x y b K = true) : PySem.W.exmOne K (.ref (ga K x)) (.ref (ga K y)) = some b := of_decide_eq_true h
end Sv

/-! Calls of methods and classes that may let an error out, wished for at the caller's slots. -/
namespace Sv
open PySem PySem.Spec PyProof.Rows L2
section
variable {X : Cx} {N L S G B : List Str} {x m : Str} {e o : Expr} {es : List Expr} {σ : L2.St} {H : Hp} {Q : VK} {p pos apos : Pos} {j k : Nat} {sp : Sp} {E : XK} {C : Addr}
/-- what the callee's end is for the caller -/
theorem back_at {pins : List (Addr × Obj)} {s : Shared} (hx : PassesAt (L2.CX X.prog X.w) X σ E) (I : Inv X pins σ H s) {r : Result} {s' : Shared} (h : CR (L2.CX X.prog X.w) X.stack X.prog X.w H s Q E r s') : match r with
    | .ok (.ret u) => EP X pins σ Q u s'
    | .ok _ => False
    | .error e => X.xe e s' := by
  cases r with
  | error e => exact hx pins H s e s' I h
  | ok fl =>
    cases fl with
    | ret u => exact I.after h
    | next => exact h
    | brk => exact h
    | cont => exact h
theorem code_at {f : Addr} {pins : List (Addr × Obj)} {s : Shared} {us : List Value} {vs : List V} (F : FnR X.prog X.w X.K X.mg X.base (L2.CX X.prog X.w) k f sp) (hr : Room k X.A) (hx : PassesAt (L2.CX X.prog X.w) X σ E) (I : Inv X pins σ H s) (r : Vals vs us) (h : sp vs H Q E) :
    codeAny (model X.prog X.w) X.A (.call (.ref f) ⟨us, []⟩) (fun r s' => match r with | .ok (.ret v) => EP X pins σ Q v s' | .ok _ => False | .error e => X.xe e s') s :=
  codeAny_mono (F X.A X.stack s H us vs Q E hr I.env0 r h) fun r s' hq => by
    have z := back_at hx I hq
    cases r with
    | error e => exact z
    | ok fl => cases fl <;> exact z
/-- o.m(e, ..) -/
theorem w_methA {pl : Sem Bool} (F : Mth X.prog X.w X.K X.mg X.base C m k sp) (hr : Room j X.A) (hj : k ≤ j) (hx : PassesAt (L2.CX X.prog X.w) X σ E)
    (h : WE X o σ H fun x H1 => ∃ a dx fs, x = .ref a ∧ H1 a = some (.ins C dx fs) ∧ fs.lookup m = none ∧ WA X (e :: es) σ H1 fun vs H2 => sp (.ref a :: vs) H2 Q E)
    (hst : starEach (e :: es) X.env = (false, eval e X.env) :: starEach es X.env := by with_unfolding_all rfl) (hpl : (backTo pos (starEach es X.env)).any (·.1) = false := by with_unfolding_all rfl)
    (ht : eval (.Call (.Attribute o m apos) (e :: es) [] pos) X.env = (do
      let ov ← eval o X.env
      standAt apos.atName
      let (f, first) ← holding [ov] (getMethod ov m pl)
      callWith pos f first (backTo pos (starEach (e :: es) X.env)) (backToKw pos (keywordEach [] X.env))) := by with_unfolding_all rfl) : WE X (.Call (.Attribute o m apos) (e :: es) [] pos) σ H Q := by
  obtain ⟨f, c, hm, F⟩ := F.ex
  refine ⟨fun pins s I => PySem.W.methodCall_KW (pl := pl) (thn (h.run pins s I) fun u s1 h1 => ?_) ht⟩
  obtain ⟨_, H1, I1, rx, a, dx, fs, rfl, ea, l, q⟩ := h1
  cases (show u = Value.ref a from rx)
  exact getmeth_ok I1 ea c hm l (PySem.W.callWith_K (first := [.ref a]) (h₀ := X.base) I.ok.mod.kin hm.kp (thn (q.run pos pins s1 I1) fun us s2 ⟨vs, H2, I2, r, q2⟩ => ⟨I2.kIn, wpAny_call (code_at (us := .ref a :: us) (vs := .ref a :: vs) F (hr.mono hj) hx I2 (.cons rfl r) q2)⟩) hst hpl)
/-- C.m(e, ..), a classmethod -/
theorem w_cmethA {pl : Sem Bool} (F : CMt X.prog X.w X.K X.mg X.base C m k sp) (hr : Room j X.A) (hj : k ≤ j) (hx : PassesAt (L2.CX X.prog X.w) X σ E)
    (h : WE X o σ H fun x H1 => x = .ref C ∧ WA X (e :: es) σ H1 fun vs H2 => sp (.ref C :: vs) H2 Q E)
    (hst : starEach (e :: es) X.env = (false, eval e X.env) :: starEach es X.env := by with_unfolding_all rfl) (hpl : (backTo pos (starEach es X.env)).any (·.1) = false := by with_unfolding_all rfl)
    (ht : eval (.Call (.Attribute o m apos) (e :: es) [] pos) X.env = (do
      let ov ← eval o X.env
      standAt apos.atName
      let (f, first) ← holding [ov] (getMethod ov m pl)
      callWith pos f first (backTo pos (starEach (e :: es) X.env)) (backToKw pos (keywordEach [] X.env))) := by with_unfolding_all rfl) : WE X (.Call (.Attribute o m apos) (e :: es) [] pos) σ H Q := by
  obtain ⟨p', g, rd, cm, F⟩ := F.ex
  refine ⟨fun pins s I => PySem.W.methodCall_KW (pl := pl) (thn (h.run pins s I) fun u s1 h1 => ?_) ht⟩
  obtain ⟨_, H1, I1, rx, rfl, q⟩ := h1
  cases (show u = Value.ref C from rx)
  refine ClX.getmethcm_ok I1 rd cm fun s2 I2 => ClX.callwith_cm I2 (ClX.base_none I1 (Nat.le_refl _)) cm.fi (thn (q.run pos _ s2 I2) fun us s3 ⟨vs, H2, I3, rv, q2⟩ => ⟨⟨ClX.pin_at I3, I3.kIn⟩, ?_⟩) hst hpl
  exact thn (wpAny_call (PySem.W.method_call (ClX.pin_at I3) (code_at (us := .ref C :: us) (vs := .ref C :: vs) F (hr.mono hj) hx I3 (.cons rfl rv) q2))) fun _ _ y => ClX.unpinE y
/-- C(e, ..) -/
theorem w_makeA (c : Nm X N L S G B) (mm : Mb x G) (hm : X.mg x = some (.ref C)) (F : Mkr X.prog X.w X.K X.mg X.base C k sp) (hr : Room j X.A) (hj : k + 1 ≤ j) (hx : PassesAt (L2.CX X.prog X.w) X σ E)
    (h : WA X (e :: es) σ H fun vs H1 => Made C sp vs H1 Q E)
    (he : starEach (e :: es) X.env = (false, eval e X.env) :: starEach es X.env := by with_unfolding_all rfl) (hpl : (backTo pos (starEach es X.env)).any (·.1) = false := by with_unfolding_all rfl) : WE X (.Call (.Name x p) (e :: es) [] pos) σ H Q := by
  obtain ⟨f, M, F⟩ := F.ex
  obtain ⟨a, b, d⟩ := c.glo x mm.mem
  refine ⟨fun pins s I => wpAny_Call_Name_kw (ld_glob I a hm (PySem.W.callWith_K (h₀ := X.base) I.ok.mod.kin M.kp (thn (h.run pos pins s I) fun us s1 ⟨vs, H1, I1, r, q⟩ => ⟨I1.kIn, ?_⟩) he hpl) b)⟩
  have n1 : H1 (s1.heap.objs.size + 1) = none := I1.hok.fresh (Nat.le_succ _)
  have n2 : H1 s1.heap.objs.size = none := I1.hok.fresh (Nat.le_refl _)
  have ne : s1.heap.objs.size ≠ s1.heap.objs.size + 1 := Nat.ne_of_lt (Nat.lt_succ_self _)
  have I2 := Inv.made (C := C) I1
  have go := q (s1.heap.objs.size + 1) s1.heap.objs.size (upd (upd H1 s1.heap.objs.size (.own (s1.heap.objs.size + 1))) (s1.heap.objs.size + 1) (.ins C s1.heap.objs.size [])) n1 n2 ne
    ((same_new n2).trans (same_new (by rw [upd_ne (Ne.symm ne)]; exact n1))) (by rw [upd_ne ne]; exact upd_same) upd_same
  have r2 : Vals (V.ref (s1.heap.objs.size + 1) :: vs) (Value.ref (s1.heap.objs.size + 1) :: us) := .cons rfl r
  refine wpAny_call (make_map (f := f) I1.kIn M.makes M.init (beq_iff_eq.mp M.fn) (codeAny_mono (F _ X.stack _ _ (Value.ref (s1.heap.objs.size + 1) :: us) _ _ E ((hr.mono hj).make C us []) (I2.env0.make C us []) r2 go) fun r s' hq => ?_))
  have z := back_at hx I2 hq
  cases r with
  | error e => exact z
  | ok fl =>
    cases fl with
    | ret u =>
      obtain ⟨v, H', I3, rv, ev, q3⟩ := (show EP X pins σ _ u s' from z)
      subst ev
      exact ⟨rv, V.ref (s1.heap.objs.size + 1), H', I3, rfl, q3⟩
    | next => exact (show False from z).elim
    | brk => exact (show False from z).elim
    | cont => exact (show False from z).elim
end
end Sv

/-! Classes called without arguments and with starred ones; enumerate of a tuple. -/
namespace PySem
open Sem (wp)
open AutoSeq1 (wpAny_loadPart')
theorem meets_enumerate_newTup (l : Addr) (items : Array Value) (n : Nat) (dct : Option Addr) (sl : Array (Option Value)) :
    Meets (Builtin.«enumerate.__new__» ⟨[.type "enumerate", .ref l], []⟩) (fun _ R s => s.heap.get? l = some { cls := .type "tuple", dict := dct, data := .seq items n, slots := sl } ∧
      R (.ok (.ret (.ref (s.heap.push { cls := .type "tuple_iterator", data := .fields #[.ref l, .int 0 0] }).objs.size)))
        { s with heap := (s.heap.push { cls := .type "tuple_iterator", data := .fields #[.ref l, .int 0 0] }).push { cls := .type "enumerate", data := .fields #[.none, .bool false, .ref s.heap.objs.size, rawInt 0, .none, .none] } }) :=
  .of_wp fun prog w A R s h => by
    obtain ⟨hp, g, d, tk, os⟩ := s; obtain ⟨hl, h⟩ := h
    have hsub := sub_enumerate
    have hL : Heap.IsTuple (Shared.heap ⟨hp, g, d, tk, os⟩) l items := ⟨_, hl, rfl, n, rfl⟩
    wp_walk using wpAny_loadPart' hl
    refine wpAny_stack_any fun st => wpAny_pure ?_
    split
    · rename_i c _ _ _ _ _
      cases (c == Value.type "enumerate")
      · wp_walk using wpAny_loadPart' hl, wpAny_pyIter_tuple hL
        exact ⟨_, rfl, h⟩
      · wp_walk using wpAny_loadPart' hl, wpAny_pyIter_tuple hL
        exact ⟨_, rfl, h⟩
    · wp_walk using wpAny_loadPart' hl, wpAny_pyIter_tuple hL
      exact ⟨_, rfl, h⟩
theorem call_enumerate_tup {prog : Program} {w : World} {A : Around} {E : Value → Shared → Prop} {s : Shared} {l : Addr} {items : Array Value} {Q : Value → Shared → Prop} (hL : s.heap.IsTuple l items)
    (h : ∀ h', IsEnum h' (s.heap.objs.size + 1) s.heap.objs.size 0 .none → h'.IsTupleIter s.heap.objs.size l 0 → h'.objs.size = s.heap.objs.size + 2 →
      (∀ b o, s.heap.get? b = some o → h'.get? b = some o) → Q (.ref (s.heap.objs.size + 1)) { s with heap := h' }) :
    wpAny (model prog w) A (call (.type "enumerate") [.ref l]) Q E s := by
  obtain ⟨⟨c, dct, dt, sl⟩, hl, hc, n, hd⟩ := hL
  replace hc : c = .type "tuple" := hc
  replace hd : dt = .seq items n := hd
  subst hc hd
  refine callType_new F.called_enumerate (by decide) (F.typeCall_enumerate_1 _) (F.newCall_enumerate_1 _) (fun obj => F.args_object_init_2 obj _) F.entry_enumerate_new
    (meets_enumerate_newTup l items n dct sl) ⟨hl, ?_⟩
  have hz : (s.heap.push { cls := .type "tuple_iterator", data := .fields #[.ref l, .int 0 0] }).objs.size = s.heap.objs.size + 1 := Heap.size_push ..
  show _ ∧ _
  rw [hz]
  have he : IsEnum ((s.heap.push { cls := .type "tuple_iterator", data := .fields #[.ref l, .int 0 0] }).push
      { cls := .type "enumerate", data := .fields #[.none, .bool false, .ref s.heap.objs.size, rawInt 0, .none, .none] }) (s.heap.objs.size + 1) s.heap.objs.size 0 .none := by
    have := Heap.get?_push_size (s.heap.push { cls := .type "tuple_iterator", data := .fields #[.ref l, .int 0 0] })
      (o := { cls := .type "enumerate", data := .fields #[.none, .bool false, .ref s.heap.objs.size, rawInt 0, .none, .none] }) rfl
    rw [hz] at this; exact this
  refine ⟨⟨_, he, rfl⟩, h _ he ⟨_, Heap.get?_push_of_some _ (Heap.get?_push_size _ rfl), rfl, rfl⟩ (by rw [Heap.size_push, hz]) fun b o x => Heap.get?_push_of_some _ (Heap.get?_push_of_some _ x)⟩
end PySem
namespace Sv
open PySem PySem.Spec PyProof.Rows L2
/-- two or more arguments, read in order -/
theorem evalArgs_two {M : Model} {A : Around} {E : Value → Shared → Prop} {s : Shared} {f : Value} {a b : Bool × Sem Value} {rest : List (Bool × Sem Value)} {Q : Args → Shared → Prop}
    (h : wpAny M A (spliced (a :: b :: rest)) (fun vs s' => Q ⟨vs, []⟩ s') E s) : wpAny M A (evalArgs f true (a :: b :: rest) []) Q E s := by
  unfold evalArgs
  obtain ⟨a1, a2⟩ := a
  cases a1 <;>
  · refine wpAny_bind (wpAny_mono h (fun vs s' h' => ?_) fun _ _ x => x)
    refine wpAny_holding ?_
    exact wpAny_bind (wpAny_pure (wpAny_bind (wpAny_pure (wpAny_pure h'))))
section
variable {X : Cx} {N L S G B : List Str} {x m : Str} {e e2 : Expr} {es : List Expr} {σ : L2.St} {H : Hp} {Q : VK} {p pos p1 : Pos} {j k : Nat} {sp : Sp} {E : XK} {C : Addr}
/-- C() -/
theorem w_make0 (c : Nm X N L S G B) (mm : Mb x G) (hm : X.mg x = some (.ref C)) (F : Mkr X.prog X.w X.K X.mg X.base C k sp) (hr : Room j X.A) (hj : k + 1 ≤ j) (hx : Passes (L2.CX X.prog X.w) X E)
    (h : Made C sp [] H Q E) : WE X (.Call (.Name x p) [] [] pos) σ H Q := by
  have kp := F.ex
  obtain ⟨f, M, _⟩ := kp
  obtain ⟨a, b, d⟩ := c.glo x mm.mem
  exact ⟨fun pins s I => wpAny_Call_Name_kw (ld_glob I a hm (PySem.W.callWith_K0 (first := []) I.kIn M.kp (run_mkr F hr hj hx I .nil h)) b)⟩
/-- C(.. e, ..) with a star among two or more -/
theorem w_makeSS (c : Nm X N L S G B) (mm : Mb x G) (hm : X.mg x = some (.ref C)) (F : Mkr X.prog X.w X.K X.mg X.base C k sp) (hr : Room j X.A) (hj : k + 1 ≤ j) (hx : Passes (L2.CX X.prog X.w) X E)
    (h : WA X (e :: e2 :: es) σ H fun vs H1 => Made C sp vs H1 Q E)
    (he : ∃ a b r, starEach (e :: e2 :: es) X.env = a :: b :: r := by exact ⟨_, _, _, by with_unfolding_all rfl⟩) (hst : (backTo pos (starEach (e :: e2 :: es) X.env)).any (·.1) = true := by with_unfolding_all rfl) : WE X (.Call (.Name x p) (e :: e2 :: es) [] pos) σ H Q := by
  have kp := F.ex
  obtain ⟨f, M, _⟩ := kp
  obtain ⟨a, b, d⟩ := c.glo x mm.mem
  refine ⟨fun pins s I => wpAny_Call_Name_kw (ld_glob I a hm ?_ b)⟩
  refine PySem.W.ks_call hst (PySem.W.keeps_K M.kp) ?_
  obtain ⟨u, v, r, e9⟩ := he
  have go := h.run pos pins s I
  rw [e9] at go ⊢
  refine evalArgs_two (thn go fun us s1 ⟨vs, H1, I1, rv, q⟩ => ⟨I1.kIn, ?_⟩)
  exact run_mkr F hr hj hx I1 rv q
end
/-- the tuple at a as it stands at each turn, each item in a new pair -/
def Itet (K : PySem.W.Frag) (n : Nat) (a : Addr) : It :=
  ⟨fun i H => i < n ∧ ∃ (xs : List V) (x : V), SqT K H a xs ∧ xs[i]? = some x, fun i H v H' => ∃ T x, v = .ref T ∧ H T = none ∧ H' = upd H T (.tup [.int (i : Nat), x]) ∧ ∀ xs, SqT K H a xs → xs[i]? = some x, fun i H => n ≤ i ∧ ∃ xs : List V, SqT K H a xs ∧ xs.length = n⟩
theorem turn_enumT {P : Program} {w : World} {K : PySem.W.Frag} {n : Nat} {elts : List Expr} {kk : Nat} {tpos : Pos} {a e it : Addr} (na : a ≠ it) (hei : e ≠ it) (hea : e ≠ a) :
    Turn P w K (.Tuple elts kk tpos) (Itet K n a) [e, it] e (fun i h => i ≤ n ∧ (∃ old, IsEnum h e it (0 + ((i : Nat) : Int)) old) ∧ h.IsTupleIter it a i) where
  mem := by simp
  obj := fun i h st b hb => by
    obtain ⟨_, ⟨old, he⟩, ⟨o, ho, hc, hd⟩⟩ := st
    have e' : b = e ∨ b = it := by simpa using hb
    rcases e' with z | z
    · rw [z]; exact ⟨_, he, fun v q => nomatch q⟩
    · rw [z]; exact ⟨o, ho, fun v q => by rw [hd] at q; cases q⟩
  keep := fun i h h' st k => let ⟨hn, ⟨old, he⟩, hi⟩ := st; ⟨hn, ⟨old, k e (by simp) _ he⟩, hi.at fun o q => k it (by simp) o q⟩
  item := by
    intro X hP hw hK hc i pins s σ H E I hf st hg
    subst hP hw hK
    obtain ⟨hn, he, hit⟩ := st
    obtain ⟨hin, xs, x, hq, hx⟩ := hg
    obtain ⟨its, rv, p, hz⟩ := I.tuple hq
    obtain ⟨u, hu, ru⟩ := rv.get hx
    have hh := I.ok.hd hc
    have li := (List.getElem?_eq_some_iff.mp hu).1
    have hel : e < s.heap.objs.size := by obtain ⟨_, he⟩ := he; exact Heap.lt_size he
    have hil : it < s.heap.objs.size := by obtain ⟨_, q, _⟩ := hit; exact Heap.lt_size q
    have G := GoesN.enumFrom (A := X.A) (elts := elts) (x1 := kk) (pos := tpos) 0 (Draws.tuple (prog := X.prog) (w := X.w) (A := X.A.in1) hh it a na its.toArray) e hei (by simp [hei, hea]) (by simp)
    refine thn (G.goes i s (fun u s2 => ∃ x H', Inv X pins σ H' s2 ∧ RelV x u ∧ (Itet X.K n a).yld i H x H' ∧ (i + 1 ≤ n ∧ (∃ old, IsEnum s2.heap e it (0 + (((i + 1 : Nat) : Nat) : Int)) old) ∧ s2.heap.IsTupleIter it a (i + 1)) ∧ ∀ q ∈ [e, it], H' q = none) E (by rw [List.size_toArray]; omega) ⟨he, hit, p⟩ fun v h' tk y' st' k _ => ?_) fun r s1 h => h
    obtain ⟨T, t, x', rfl, hT, e1, ht⟩ := y'
    obtain ⟨ke, ki, _⟩ := st'
    have q1 : x' = u := by rw [List.getElem?_toArray, hu] at e1; exact (Option.some.inj e1).symm
    subst q1
    have new : ObjOk X.prog X.w (upd H T (.tup [.int (i : Nat), x])) h' T (.tup [.int (i : Nat), x]) := ⟨by show 2 ≤ sizeLine; decide, [.int (0 + (i : Nat)) t, x'], .cons ⟨t, by simp⟩ (.cons ru .nil), by
      obtain ⟨o, ho, hcl, m, hd⟩ := ht
      exact ⟨o, ho, hcl, m, by simpa using hd⟩⟩
    have I1 : Inv X pins σ (upd H T (.tup [.int (i : Nat), x])) { s with heap := h', toks := tk } :=
      I.turnedNew (ch := [e, it]) (fun q ob hb e' => k q ob hb e') hf hT new
    refine ⟨.ref T, _, I1, rfl, ⟨T, x, rfl, I.hok.fresh hT, rfl, fun l hl => by rw [I.tuple_inj hl hq]; exact hx⟩, ⟨hin, ke, ki⟩, fun q hq => ?_⟩
    have hlt : q < s.heap.objs.size := by
      have e' : q = e ∨ q = it := by simpa using hq
      rcases e' with r | r
      · rw [r]; exact hel
      · rw [r]; exact hil
    rw [upd_ne (Nat.ne_of_lt (Nat.lt_of_lt_of_le hlt hT))]
    exact (hf q hq).1
  done := by
    intro X hP hw hK hc i pins s σ H E I hf st hg
    subst hP hw hK
    obtain ⟨hn, he, hit⟩ := st
    obtain ⟨hin, xs, hq, hl⟩ := hg
    have e0 : i = n := Nat.le_antisymm hn hin
    subst e0
    obtain ⟨its, rv, p, hz⟩ := I.tuple hq
    have l1 := rv.length
    have hh := I.ok.hd hc
    have G := GoesN.enumFrom (A := X.A) (elts := elts) (x1 := kk) (pos := tpos) 0 (Draws.tuple (prog := X.prog) (w := X.w) (A := X.A.in1) hh it a na its.toArray) e hei (by simp [hei, hea]) (by simp)
    have en : its.toArray.size = i := by rw [List.size_toArray]; omega
    refine thn (G.stops s (fun s1 => Inv X pins σ H s1) E (by rw [en]; exact ⟨he, hit, p⟩) fun h' tk k _ => ?_) fun r s1 h => h
    exact I.turnedL (ch := [e, it]) (fun q ob hb e' => k q ob hb e') hf
  self := fun A i s Q E st h => let ⟨_, ⟨_, he⟩, _⟩ := st; wpAny_pyIter_enum he h
def iEnumT (K : PySem.W.Frag) (ta : TA) : TI := fun σ H R => ta σ H fun vs H1 => ∃ a xs, vs = [.ref a] ∧ SqT K H1 a xs ∧ R (Itet K xs.length a) H1
theorem pi_enumT {X : Cx} {e : Expr} {ta : TA} {p pos tpos : Pos} {elts : List Expr} {kk : Nat} (hg : Gl X "enumerate") (hm : X.mg "enumerate" = none) (ha : PA X [e] ta) (hs : starEach [e] X.env = [(false, eval e X.env)] := by rfl) :
    PI X (.Tuple elts kk tpos) (.Call (.Name "enumerate" p) [e] [] pos) (iEnumT X.K ta) := by
  refine ⟨fun pins s σ H R I h => ?_⟩
  refine Call_ (ld_blt I hg hm boot_enumerate (PyProof.Rows.callWith_type1 (thn (ha.run pos pins s σ H _ I h) fun us s1 ⟨vs, H1, I1, r1, q1⟩ => ?_) hs rfl))
  obtain ⟨a, xs, ex, hq, q⟩ := q1
  subst ex
  cases r1 with
  | cons r rr =>
    cases rr
    cases r
    obtain ⟨its, rv, p', hz⟩ := I1.tuple hq
    have la : a < s1.heap.objs.size := by obtain ⟨_, q, _⟩ := p'; exact Heap.lt_size q
    refine call_enumerate_tup p' fun h' he hit hsz hk => wpAny_pyIter_enum he ?_
    have I2 : Inv X pins σ H1 { s1 with heap := h' } := I1.kept (t' := s1.toks) hk
    refine ⟨s1.heap.objs.size + 1, [s1.heap.objs.size + 1, s1.heap.objs.size], _, _, H1, rfl, I2, turn_enumT (a := a) (e := s1.heap.objs.size + 1) (it := s1.heap.objs.size) (Nat.ne_of_lt la) (Nat.succ_ne_self _) (Ne.symm (Nat.ne_of_lt (Nat.lt_succ_of_lt la))), ⟨Nat.zero_le _, ⟨.none, by simpa using he⟩, hit⟩, fun b hb => ?_, q⟩
    have e' : b = s1.heap.objs.size + 1 ∨ b = s1.heap.objs.size := by simpa using hb
    have hle : s1.heap.objs.size ≤ b := by
      rcases e' with z | z
      · rw [z]; exact Nat.le_add_right _ _
      · rw [z]; exact Nat.le_refl _
    exact I1.fpOk hle (I1.hok.fresh hle)
theorem wlk_enumT {K : PySem.W.Frag} {a : Addr} {xs : List V} {H1 : Hp} (h : SqT K H1 a xs) : WlkT (Itet K xs.length a) xs.length (fun i => [.int (i : Nat), xs.getD i .non]) H1 where
  go := fun i H hi e => ⟨hi, xs, xs[i], same_t e h, by simp [hi]⟩
  yld := fun i H v H' hi e y => by
    obtain ⟨T, x, ev, hT, eH, hx⟩ := y
    have := hx xs (same_t e h)
    exact ⟨T, ev, hT, by rw [eH, List.getD_eq_getElem?_getD, this]; rfl⟩
  stop := fun i H hi e => ⟨hi, xs, same_t e h, rfl⟩
section
variable {X : Cx} {N L S G B : List Str} {a : Expr} {σ : L2.St} {H : Hp} {R : It → Hp → Prop} {p pos : Pos}
theorem wi_enumT {elts : List Expr} {kk : Nat} {tpos : Pos} (c : Nm X N L S G B) (m : Mb "enumerate" B) (h : WE X a σ H fun x H1 => ∃ l xs, x = .ref l ∧ SqT X.K H1 l xs ∧ R (Itet X.K xs.length l) H1) (hs : starEach [a] X.env = [(false, eval a X.env)] := by with_unfolding_all rfl) :
    WI X (.Tuple elts kk tpos) (.Call (.Name "enumerate" p) [a] [] pos) σ H R :=
  (pi_enumT (c.bgl _ m.mem).1 (c.blt _ m.mem) (pa_cons pe_w pa_nil hs) hs).w (WE.imp h fun x H1 ⟨l, xs, e, h, q⟩ => ⟨l, xs, by rw [e], h, q⟩)
end
end Sv

/-! Errors of the program's own directly over a builtin kind (OverflowError, RuntimeError), their __init__ calling that of the kind. -/
namespace PySem
/-- what a builtin kind of errors brings -/
structure BaseF (B newId initId : String) (tl : List Value) : Prop where
  ex : ExcBaseFacts B newId initId tl
  st : StoreFacts B tl "object.__setattr__" "object"
  ob : tl.contains (.type "object") = true
abbrev ovTail : List Value := [.type "OverflowError", .type "ArithmeticError", .type "Exception", .type "BaseException", .type "object"]
abbrev rtTail : List Value := [.type "RuntimeError", .type "Exception", .type "BaseException", .type "object"]
theorem base_ov : BaseF "OverflowError" "OverflowError.__new__" "OverflowError.__init__" ovTail := ⟨F.excBase_OverflowError, F.store_OverflowError, by decide +kernel⟩
theorem base_rt : BaseF "RuntimeError" "RuntimeError.__new__" "RuntimeError.__init__" rtTail := ⟨F.excBase_RuntimeError, F.store_RuntimeError, by decide +kernel⟩
section
open Builtin Builtin.ObjectAttr HandSPX
variable {prog : Program} {w : World} {A : Around} {E : Value → Shared → Prop} {R : Result → Shared → Prop} {hp : Heap} {g : Array GenState} {d : Drawn} {t : Nat} {os : OsState}
theorem exc_osaB {B newId initId : String} {tl : List Value} (BF : BaseF B newId initId tl) {K : W.Frag} {name : Str} {tk : Tok} {v : Value} {x C : Addr} {fv : Array Value} {cd : ClassData}
    (X : K.In hp) (hx : hp.get? x = some { cls := .ref C, data := .fields fv }) (hcd : W.clsIn K C = some cd) (hm : cd.mro = .ref C :: tl) (hh : cd.hasDict = true) (ha : W.findIn K (.ref C) name = some none)
    (hq : ∀ h' tk' dx, (∀ b o, b ≠ x → hp.get? b = some o → h'.get? b = some o) → hp.objs.size ≤ dx → dx ≠ x → h'.get? x = some { cls := .ref C, dict := some dx, data := .fields fv } →
      h'.Ns1 dx (fun y => if y = name then some v else none) → R (.ok (.ret .none)) ⟨h', g, d, tk', os⟩) :
    codeAny (model prog w) A (.call (.builtin "object.__setattr__") ⟨[.ref x, .str name tk, v], []⟩) R ⟨hp, g, d, t, os⟩ := by
  have I : W.InstAt hp x { cls := .ref C, data := .fields fv } C none := ⟨hx, rfl, rfl, trivial⟩
  have SF := F.store_object
  have ne : cd.mro.isEmpty = false := by rw [hm]; rfl
  have hob : cd.mro.contains (.type "object") = true := by rw [hm, List.contains_cons, BF.ob, Bool.or_true]
  have hxs : x ≠ hp.objs.size := Nat.ne_of_lt (Heap.lt_size hx)
  have sub : W.Looks (model prog w) hp (isInstance (.ref x) (.type "object")) true := I.type.andThen (W.looks_mroIn X (by unfold W.mroIn; rw [hcd, Option.bind_some, if_neg (by rw [ne]; decide), hob]))
  refine codeAny_call_builtin SF.slot.plain SF.entry (@W.check_slot (model prog w) _ _ ⟨hp, g, d, t, os⟩ "object.__setattr__" "object" "__setattr__" (.ref x) [.str name tk, v] [] _ SF.kind SF.split sub (SF.args (.ref x) (.str name tk) v) ?_)
  have hmr : W.Looks (model prog w) hp (mroOf (.ref C)) cd.mro := (W.looks_clsIn X hcd).andThen .now
  have L3 : W.Looks (model prog w) hp (storeTaker? none) none := .now
  have hcls : W.Looks (model prog w) hp (classData C) cd := W.looks_clsIn X hcd
  have hpass : refuseLoop (.ref x) "__setattr__" cd.mro = pure () := by
    rw [hm, refuseLoop_ref]
    exact BF.st.passes _
  rw [W.osa_eq, refuse_eq]
  refine wpAny_bind (wpAny_bind (I.type.at (wpAny_bind (hmr.at ?_))))
  rw [hpass]
  refine wpAny_pure (wpAny_bind (I.type.at (wpAny_bind ((W.looks_findIn X ha).at (wpAny_bind (L3.at ?_))))))
  show wpAny _ _ (storeInOwnDict (.ref x) (.ref C) (.str name tk) name v false) _ _ _
  obtain ⟨nm, bs, mro, ns, qn, hd, sn, sb, ab, col, del⟩ := cd
  dsimp only at hh
  subst hh
  unfold storeInOwnDict ownDictForStores
  repeat (first | with_reducible refine store_in_new ?_ ?_ | with_reducible refine wpAny_loadPart_at hx ?_ | with_reducible refine hcls.at ?_ | wp_step)
  · exact ⟨_, #[], _, (Heap.get?_update_ne _ _ _ _ hxs.symm).trans (Heap.get?_push_at rfl rfl), rfl, fun e he => absurd he (by simp), fun _ => rfl⟩
  · intro h' tk' hn' hs
    have hx₁ : (hp.push { cls := .type "dict", data := .dict #[] }).get? x = some { cls := .ref C, data := .fields fv } := Heap.get?_push_of_some _ hx
    refine hq h' tk' hp.objs.size (fun b o hb ho => ?_) (Nat.le_refl _) hxs.symm ?_ hn'
    · exact (hs.2 b (Nat.ne_of_lt (Heap.lt_size ho))).trans ((Heap.get?_update_ne _ _ _ _ hb).trans (Heap.get?_push_of_some _ ho))
    · exact (hs.2 x hxs).trans (Heap.get?_update_self _ hx₁ rfl)
end
end PySem
namespace L2
open PySem PySem.Spec PyProof.Rows
/-- what the written part says of such a class -/
structure OexB (K : PySem.W.Frag) (C : Addr) (newId : String) (tl : List Value) : Prop where
  cls : ∃ nm q N bs sn sub ab col dd k0 k1 k2 k3 k5, K.lookup C = some (excClassObj nm q C N bs tl true sn sub ab col dd k0 k1 k2 k3 k5 newId)
  sa : PySem.W.findIn K (.ref C) "__setattr__" = some (some (.builtin "object.__setattr__"))
  exC : PySem.W.subIn K (.ref C) (.type "BaseException") = some true
  tyC : PySem.W.typeIn K (.ref C) = some (.type "type")
  kC : PySem.W.keepIn K (.ref C) = true
section
variable {X : Cx} {pins : List (Addr × Obj)} {σ : St} {H : Hp} {s : Shared} {a C dx : Addr} {f : Str} {y : V} {u : Value} {fs : List (Str × V)} {Q : Unit → Shared → Prop} {E : Value → Shared → Prop} {A : Around} {B newId initId : String} {tl : List Value}
theorem ost_newB (BF : BaseF B newId initId tl) (T : OexB X.K C newId tl) (I : Inv X pins σ H s) (e : H a = some (exo a C none)) (hno : PySem.W.findIn X.K (.ref C) f = some none) (ry : RelV y u)
    (h : ∀ dx s', H dx = none → dx ≠ a → Inv X pins σ (upd (upd H dx (exd dx [(f, y)])) a (exo a C (some dx))) s' → Q () s') : wpAny (model X.prog X.w) A (setAttr (.ref a) f u) Q E s := by
  obtain ⟨nm, q, N, bs, sn, sub, ab, col, dd, k0, k1, k2, k3, k5, hC⟩ := T.cls
  have hcl : PySem.W.clsIn X.K C = some { name := nm, bases := bs, mro := .ref C :: tl, ns := N, qualname := q, hasDict := true, slotNames := sn, subclasses := sub, abstract := ab, collection := col, hasDel := false } := by unfold PySem.W.clsIn; rw [hC] <;> rfl
  obtain ⟨t1, ho⟩ := exo_at I.hok e
  obtain ⟨hp, g, d, t, os⟩ := s
  refine PySem.W.set_plain I.kIn (ox := { cls := .ref C, dict := none, data := .fields #[.ref t1, .none, .none, .none, .bool false, .none] }) (od := none) ⟨ho, rfl, rfl, trivial⟩ T.sa ?_
  refine PySem.exc_osaB BF I.kIn ho hcl rfl rfl hno (fun h' tk' dx k dn dne hx hn => ?_)
  have hnd : H dx = none := I.hok.fresh dn
  have nd : ∀ {b : Addr} {o : Obj}, hp.get? b = some o → b ≠ dx := fun {b o} q => Nat.ne_of_lt (Nat.lt_of_lt_of_le (Heap.lt_size q) dn)
  have na : ∀ {b : Addr}, H b = none → b ≠ a := fun {b} n z => by
    rw [z, e] at n
    cases n
  have Un1 : Un X.fs [] H (upd (upd H dx (exd dx [(f, y)])) a (exo a C (some dx))) hp h' := {
    keep := fun b o q n _ _ => k b o (na n) q
    slot := fun b o q n _ _ => ⟨o.slots, k b o (na n) q⟩
    free := fun b o q n _ => by rw [upd_ne (na n), upd_ne (nd q)]; exact n
    there := fun b o q _ => by
      by_cases hb : b = a
      · exact ⟨_, by rw [hb]; exact hx⟩
      · exact ⟨o, k b o hb q⟩
    tups := fun b xs q => by rw [upd_ne (at_ne e q exo_tup), upd_ne (ne_of_none q hnd)]; exact q
    frzs := fun b o v q => by rw [upd_ne (at_ne e q exo_frz), upd_ne (ne_of_none q hnd)]; exact q
    tbls := fun b ps q => ⟨#[], by rw [upd_ne (at_ne e q exo_tbl), upd_ne (ne_of_none q hnd), q]; simp⟩ }
  refine h dx _ hnd dne (I.un (t' := tk') Un1 fun b o q => ?_)
  by_cases hb : b = a
  · subst hb
    rw [upd_same] at q
    cases q
    exact exo_ok hx
  · rw [upd_ne hb] at q
    by_cases hd : b = dx
    · subst hd
      rw [upd_same] at q
      cases q
      exact exd_ok hn (relO_put (fs := []) ry fun g => True.intro)
    · rw [upd_ne hd] at q
      exact (I.hok b o q).stay (fun c v hc z => k c v (by
          rcases hc with hc | hc
          · rw [hc]
            exact hb
          · exact at_ne e hc exo_own) z)
        (fun c hc => by rw [upd_ne (at_ne e hc exo_own), upd_ne (ne_of_none hc hnd)]; exact hc) (fun c xs hc => by rw [upd_ne (at_ne e hc exo_tup), upd_ne (ne_of_none hc hnd)]; exact hc)
theorem oinit_okB {us : List Value} {Q : Value → Shared → Prop} (BF : BaseF B newId initId tl) (T : OexB X.K C newId tl) (I : Inv X pins σ H s) (e : H a = some (exo a C none)) (hl : us.length ≤ sizeLine) (h : ∀ s', Inv X pins σ H s' → Q .none s') :
    wpAny (model X.prog X.w) A (call (.builtin initId) (.ref a :: us)) Q E s := by
  obtain ⟨nm, q, N, bs, sn, sub, ab, col, dd, k0, k1, k2, k3, k5, hC⟩ := T.cls
  obtain ⟨t1, ho⟩ := exo_at I.hok e
  obtain ⟨hp, g, d, t, os⟩ := s
  refine wpAny_call (PySem.HandSPX.init_base BF.ex (fun Y => rfl) (I.kIn _ _ hC) ho hl fun h' t2 k hx => ?_)
  have J := I.write (t' := t) (x := a) (e := a) (o := exo a C none) (by rw [e]; exact True.intro) (.inl rfl) k ⟨_, hx⟩ (exo_ok hx)
  have eu : upd H a (exo a C none) = H := by
    funext b
    by_cases hb : b = a
    · rw [hb, upd_same, e]
    · rw [upd_ne hb]
  rw [eu] at J
  exact h _ J
end
end L2
namespace Sv
open PySem PySem.Spec PyProof.Rows L2
section
open He
def oexOB (newId : String) (tl : List Value) (C : Addr) : Option Obj → Bool
  | some ⟨.type "type", _, .cls cd, sl⟩ => (match cd.mro, sl.toList with
    | .ref C' :: bm, [_, _, _, _, some (.builtin n), _] => C' == C && n == newId && !cd.hasDel && cd.hasDict && bm == tl
    | _, _ => false)
  | _ => false
theorem oexOB_ok {newId : String} {tl : List Value} {C : Addr} {oo : Option Obj} (h : oexOB newId tl C oo = true) : ∃ nm q N bs sn sub ab col dd k0 k1 k2 k3 k5, oo = some (excClassObj nm q C N bs tl true sn sub ab col dd k0 k1 k2 k3 k5 newId) := by
  unfold oexOB at h
  split at h
  · rename_i dd cd sl
    split at h
    · rename_i C' bm k0 k1 k2 k3 n k5 hm hs
      simp only [Bool.and_eq_true, beq_iff_eq, Bool.not_eq_true'] at h
      obtain ⟨⟨⟨⟨rfl, rfl⟩, hdel⟩, hdc⟩, rfl⟩ := h
      obtain ⟨nm, bs, mro, ns, qn, hd, sn, sub, ab, col, del⟩ := cd
      dsimp only at hm hdel hdc
      subst hm hdel hdc
      have hsl : sl = #[k0, k1, k2, k3, some (.builtin n), k5] := by
        obtain ⟨l⟩ := sl
        simp only at hs
        rw [hs]
      subst hsl
      exact ⟨nm, qn, ns, bs, sn, sub, ab, col, dd, k0, k1, k2, k3, k5, rfl⟩
    · cases h
  · cases h
def errOB (newId : String) (tl : List Value) (x fld : Str) (K : PySem.W.Frag) : Bool := oexOB newId tl (ga K x) (K.lookup (ga K x)) && (eqO (PySem.W.findIn K (.ref (ga K x)) "__setattr__") (some (some (.builtin "object.__setattr__"))) &&
  (decide (PySem.W.subIn K (.ref (ga K x)) (.type "BaseException") = some true) && (decide (PySem.W.typeIn K (.ref (ga K x)) = some (.type "type")) && (PySem.W.keepIn K (.ref (ga K x)) &&
  (eqO (PySem.W.findIn K (.ref (ga K x)) fld) (some none) && (xfB K (ga K x) && (eqO (PySem.W.findIn K (.ref (ga K x)) "__init__") (some (some (.ref (ma K (ga K x) "__init__")))) &&
  decide (PySem.W.typeIn K (.ref (ma K (ga K x) "__init__")) = some (.type "function")))))))))
/-- ErrC, over a builtin kind -/
structure ErrCB (K : PySem.W.Frag) (C : Addr) (fld : Str) (f : Addr) (newId : String) (tl : List Value) : Prop where
  T : OexB K C newId tl
  no : PySem.W.findIn K (.ref C) fld = some none
  xf : XfC K C
  iC : PySem.W.findIn K (.ref C) "__init__" = some (some (.ref f))
  tI : PySem.W.typeIn K (.ref f) = some (.type "function")
theorem errOB_ok {newId : String} {tl : List Value} {x fld : Str} {K : PySem.W.Frag} (h : errOB newId tl x fld K = true) : ErrCB K (ga K x) fld (ma K (ga K x) "__init__") newId tl := by
  obtain ⟨h1, h⟩ := ba h
  obtain ⟨h2, h⟩ := ba h
  obtain ⟨h3, h⟩ := ba h
  obtain ⟨h4, h⟩ := ba h
  obtain ⟨h5, h⟩ := ba h
  obtain ⟨h6, h⟩ := ba h
  obtain ⟨h7, h⟩ := ba h
  obtain ⟨h8, h9⟩ := ba h
  exact ⟨⟨oexOB_ok h1, eqO_ok h2, of_decide_eq_true h3, of_decide_eq_true h4, h5⟩, eqO_ok h6, xfB_ok h7, eqO_ok h8, of_decide_eq_true h9⟩
end
section
variable {X : Cx} {N L S G B : List Str} {x f : Str} {e o : Expr} {es : List Expr} {σ : L2.St} {H : Hp} {Q : VK} {D : Ends} {p p1 p2 p' pos : Pos} {nB newId initId : String} {tl : List Value}
/-- Kind.__init__(self, ..) of a builtin kind -/
theorem w_binit {pl : Sem Bool} (BF : BaseF nB newId initId tl) (c : Nm X N L S G B) (mm : Mb x B) (hv : bootBuiltins x = some (.type nB)) (ht : typeOf (.type nB) = pure (.type "type")) (hs : Manifest.isStub nB = false) (hh : PySem.W.handedIn (.builtin initId) = true) (vV : PySem.W.findCls X.K (.type nB) (.type "type") "__init__" = some (.val (.builtin initId)))
    (h : WA X (e :: es) σ H fun vs H1 => ∃ (a C : Addr) (ws : List V), vs = .ref a :: ws ∧ ws.length ≤ 1000 ∧ OexB X.K C newId tl ∧ H1 a = some (exo a C none) ∧ Q .non H1)
    (hn : x ≠ "__name__" := by decide) (hd : (x == ("__debug__" : Str)) = false := by decide)
    (hc : eval (.Call (.Attribute (.Name x p1) "__init__" p2) (e :: es) [] pos) X.env = (do
      let ov ← eval (.Name x p1) X.env
      standAt p2.atName
      let (f, first) ← holding [ov] (getMethod ov "__init__" pl)
      callWith pos f first (backTo pos (starEach (e :: es) X.env)) (backToKw pos (keywordEach [] X.env))) := by with_unfolding_all rfl)
    (he : starEach (e :: es) X.env = (false, eval e X.env) :: starEach es X.env := by with_unfolding_all rfl) (hpl : (backTo pos (starEach es X.env)).any (·.1) = false := by with_unfolding_all rfl) :
    WE X (.Call (.Attribute (.Name x p1) "__init__" p2) (e :: es) [] pos) σ H Q := by
  refine ⟨fun pins s I => ?_⟩
  refine PySem.W.methodCall_KW (ld_blt I (c.bgl _ mm.mem).1 (c.blt _ mm.mem) hv ?_ hn hd) hc
  obtain ⟨m, fr⟩ := I.fr
  refine PySem.W.method_type fr I.ok.mod.kin ht hs vV hh ?_
  show wpAny _ _ (callWith pos (Value.builtin initId) [] (backTo pos (starEach (e :: es) X.env)) []) _ _ _
  refine PyProof.Rows.callWith_method1 (thn (h.run pos pins _ (I.tok _)) fun us s1 ⟨vs, H1, I1, r1, a, C, ws, ev, hl, T, ea, q⟩ => ?_) he hpl
  subst ev
  cases r1 with
  | @cons _ u0 _ ur ra rw' =>
    obtain rfl : u0 = Value.ref a := ra
    have hlen : ur.length ≤ sizeLine := by
      rw [← Paired.length rw', sizeLine_eq]
      omega
    exact oinit_okB BF T I1 ea hlen fun s' J => ⟨.non, H1, J, rfl, q⟩
/-- self.f = e, self an error that is being made -/
theorem ws_ostB (BF : BaseF nB newId initId tl) (h : WE X e σ H fun y H1 => WE X o σ H1 fun x H2 => ∃ a C : Addr, x = .ref a ∧ OexB X.K C newId tl ∧ PySem.W.findIn X.K (.ref C) f = some none ∧ H2 a = some (exo a C none) ∧
      ∀ dx, H2 dx = none → dx ≠ a → D.nx σ (upd (upd H2 dx (exd dx [(f, y)])) a (exo a C (some dx))))
    (hs : swapsWith e (some (.Attribute o f p')) pos.line X.env = pure false := by with_unfolding_all rfl) : WS X (.Assign [.Attribute o f p'] e pos) D σ H := by
  refine ⟨fun pins s I => ?_⟩
  refine plainObj_wpAny_Assign_Attribute (thn (h.run pins s I) fun v s1 ⟨y, H1, I1, r1, q1⟩ => thn (q1.run pins s1 I1) fun u s2 ⟨x, H2, I2, r2, a, C, ex, T, hno, ea, q⟩ => ?_) hs
  subst ex
  obtain rfl : u = Value.ref a := r2
  exact ost_newB BF T I2 ea hno r1 fun dx s' n ne J => ⟨σ, _, J, q dx n ne⟩
end
/-- Err, over a builtin kind -/
structure ErrB (P : Program) (w : World) (K : PySem.W.Frag) (mg : Str → Option Value) (base : Heap) (C : Addr) (fld : Str) (k : Nat) (nB newId initId : String) (tl : List Value) : Prop where
  bf : BaseF nB newId initId tl
  ex : ∃ f, ErrCB K C fld f newId tl ∧ FnR P w K mg base (L2.CX P w) k f (spErrI K C fld)
section
variable {X : Cx} {N L S G B : List Str} {x : Str} {e : Expr} {σ : L2.St} {H : Hp} {p pos : Pos} {C : Addr} {fld : Str} {j k : Nat} {nB newId initId : String} {tl : List Value}
theorem wmk_errB {Q : XK} (c : Nm X N L S G B) (mm : Mb x G) (hm : X.mg x = some (.ref C)) (F0 : ErrB X.prog X.w X.K X.mg X.base C fld k nB newId initId tl) (hr : Room j X.A) (hj : k + 1 ≤ j) (h : WE X e σ H fun v H1 => ∀ d, H1 d = none → Q (.ref C) (some d) (upd H1 d (.xd [(fld, v)])))
    (he : starEach [e] X.env = (false, eval e X.env) :: starEach [] X.env := by with_unfolding_all rfl) (hpl : (backTo pos (starEach [] X.env)).any (·.1) = false := by with_unfolding_all rfl) : WMk X (.Call (.Name x p) [e] [] pos) σ H Q := by
  obtain ⟨fI, Er, F1⟩ := F0.ex
  have T := Er.T
  obtain ⟨nm, q, N', bs, sn, sub, ab, col, dd, k0, k1, k2, k3, k5, hC⟩ := T.cls
  obtain ⟨ag, b, d⟩ := c.glo x mm.mem
  refine ⟨fun pins s I => wpAny_Call_Name_kw (ld_glob I ag hm ?_ b)⟩
  have ha : WA X [e] σ H fun vs H1 => ∃ v, vs = [v] ∧ ∀ d, H1 d = none → Q (.ref C) (some d) (upd H1 d (.xd [(fld, v)])) := wa_cons (WE.imp h fun v H1 q => wa_nil ⟨v, rfl, q⟩) he
  refine PySem.W.callWith_K (h₀ := X.base) I.ok.mod.kin T.kC (thn (ha.run pos pins s I) fun us s1 ⟨vs, H1, I1, r1, v, ev, q1⟩ => ⟨I1.kIn, ?_⟩) he hpl
  subst ev
  show wpAny _ _ (call (.ref C) us) _ _ _
  have hus : us.length ≤ sizeLine := by
    rw [← Paired.length r1, sizeLine_eq]
    show 1 ≤ 16777216
    omega
  obtain ⟨hp, g, dr, tk, os⟩ := s1
  have hsz : hp.objs.size ≤ hp.objs.size + 1 := Nat.le_succ _
  have hn : H1 (hp.objs.size + 1) = none := I1.hok.fresh hsz
  have kk : ∀ b o, hp.get? b = some o → ((hp.push (PySem.W.kdv_tup us)).push (PySem.HandSPX.excO C hp.objs.size)).get? b = some o := fun b o e => Heap.get?_push_of_some _ (Heap.get?_push_of_some _ e)
  have hget : ((hp.push (PySem.W.kdv_tup us)).push (PySem.HandSPX.excO C hp.objs.size)).get? (hp.objs.size + 1) = some (PySem.HandSPX.excO C hp.objs.size) := by heap_get
  have I2 : Inv X pins σ (upd H1 (hp.objs.size + 1) (exo (hp.objs.size + 1) C none)) ⟨(hp.push (PySem.W.kdv_tup us)).push (PySem.HandSPX.excO C hp.objs.size), g, dr, tk, os⟩ :=
    I1.laid (t' := tk) (a := hp.objs.size + 1) (o := exo (hp.objs.size + 1) C none) (h' := (hp.push (PySem.W.kdv_tup us)).push (PySem.HandSPX.excO C hp.objs.size)) kk hsz (exo_ok hget)
  have r2 : Vals [V.ref (hp.objs.size + 1), v] (Value.ref (hp.objs.size + 1) :: us) := .cons rfl r1
  have hr2 : Room (k + 1) X.A := hr.mono hj
  have hq : spErrI X.K C fld [V.ref (hp.objs.size + 1), v] (upd H1 (hp.objs.size + 1) (exo (hp.objs.size + 1) C none)) (fun v' H2 => v' = .non ∧ ∃ (d : Addr), H2 (hp.objs.size + 1) = some (exo (hp.objs.size + 1) C (some d)) ∧ H2 d = some (exd d [(fld, v)]) ∧ H1 d = none ∧
      Q (.ref C) (some d) (upd (del H2 (hp.objs.size + 1)) d (.xd [(fld, v)]))) E0 := by
    refine ⟨_, v, rfl, upd_same, fun dx hdx hne => ⟨rfl, dx, upd_same, ?_, ?_, ?_⟩⟩
    · rw [upd_ne hne, upd_same]
    · rw [upd_ne hne] at hdx
      exact hdx
    · rw [upd_ne hne] at hdx
      have hH : upd (del (upd (upd (upd H1 (hp.objs.size + 1) (exo (hp.objs.size + 1) C none)) dx (exd dx [(fld, v)])) (hp.objs.size + 1) (exo (hp.objs.size + 1) C (some dx))) (hp.objs.size + 1)) dx (.xd [(fld, v)]) = upd H1 dx (.xd [(fld, v)]) := by
        funext b
        by_cases hb : b = dx
        · rw [hb, upd_same, upd_same]
        · rw [upd_ne hb, upd_ne hb]
          by_cases hb2 : b = hp.objs.size + 1
          · rw [hb2, del_same, hn]
          · rw [del_ne hb2, upd_ne hb2, upd_ne hb, upd_ne hb2]
      rw [hH]
      exact q1 dx hdx
  refine wpAny_call (PySem.HandSPX.call_own F0.bf.ex (fun Y => rfl) (I1.kIn _ _ hC) (PySem.W.looks_findIn I1.kIn Er.iC) (fun self => PySem.W.bind_fn I1.kIn self Er.tI) hus
    (codeAny_mono (F1 _ X.stack _ _ (Value.ref (hp.objs.size + 1) :: us) [V.ref (hp.objs.size + 1), v] _ E0 (hr2.make C us []) (I2.env0.make C us []) r2 hq) fun r s' hq' => ?_))
  cases r with
  | error er => exact (passL (X := X) pins σ _ _ er s' I2 hq')
  | ok fl =>
    cases fl with
    | ret u =>
      obtain ⟨v', H2, os2, bare2, un2, hok2, rv, ev, d', ea, ed, hd1, q2⟩ := hq'
      subst ev
      obtain ⟨h2, g2, d2, t2, os'⟩ := s'
      exact ⟨rv, mk_end (raises_own T.exC T.tyC) I1 hsz kk un2 hok2 os2 bare2 ea ed hd1 q2⟩
    | next => exact False.elim hq'
    | brk => exact False.elim hq'
    | cont => exact False.elim hq'
variable {Q : VK} {v : V} {a : Addr} {oe : Obj} {cls : Value} {d : Option Addr} {pn : List (Addr × Obj)} {fI : Addr}
/-- e.f of the caught one -/
theorem s_xfB (T : ErrCB X.K C fld fI newId tl) (hz : Zc cls d oe) (hf : ∃ vs, oe.data = .fields vs) (h : WE (X.suite a ((a, oe) :: pn)) e σ H fun y H1 => y = .ref a ∧ Cau X.K cls d H1 C fld v ∧ Q v H1) (hb : attributeBase e fld X.env (eval e X.env) = eval e X.env := by with_unfolding_all rfl) :
    WE (X.suite a ((a, oe) :: pn)) (.Attribute e fld pos) σ H Q :=
  (pe_xf T.xf T.no hz hf pe_w hb).w (WE.imp h fun y H1 ⟨e1, ⟨e2, dd, e3, e4⟩, q⟩ => ⟨e1, e2, dd, _, v, e3, e4, by simp [List.lookup], q⟩)
end
end Sv

/-! repr of an empty dict; builtin kinds as arguments inside except clauses. -/
namespace Sv
open PySem PySem.Spec PyProof.Rows L2
section
variable {X : Cx} {N L S G B : List Str} {σ : L2.St} {H : Hp} {Q : VK} {e : Expr} {p pos : Pos} {a : Addr}
theorem c_repr0 (hg : NoG X.A) (hu : X.A.units + 64 < cLine) (h : H a = some (.dK [])) (q : Q (.str "{}") H) : WC X (.builtin "repr") [.ref a] σ H Q := by
  refine ⟨fun pins s us I r => ?_⟩
  obtain ⟨u, rfl, hu1⟩ := vals1 r
  obtain rfl : u = Value.ref a := hu1
  obtain ⟨_, hsm, vs, kv, o, es, ep, ho, hx, hd, hk, hp, _⟩ := dk_of I.hok h
  cases kv
  have he : es.toList = [] := by
    have := hp.length
    exact List.length_eq_zero_iff.mp (by simpa using this)
  have hdp : (PyData.dict []).depth = 1 := by decide +kernel
  have hsh : (PyData.dict []).shown = ("{}" : Str) := by decide +kernel
  have rd : Reads s.heap (.ref a) (.dict []) (a :: [] ++ []) := .dict ho hx.1 hd (by rw [he]; exact .nil) (by rw [he]; exact .nil)
  exact repr_of_reads' rd (by decide +kernel) (fun _ z => by
    have z' : sysModules = a := by simpa using z
    rw [← z'] at hsm
    exact absurd hsm (by decide)) hg (by rw [hdp]; omega) (fun b o' z => z) (fun h' u' tk hk' => ⟨.str "{}", H, I.kept (t' := tk) hk', ⟨_, by rw [hsh]⟩, q⟩) (by rw [hsh, sizeLine_eq]; decide)
/-- repr shows v as the text z -/
def Shows (K : PySem.W.Frag) (H : Hp) (v : V) (z : Str) : Prop := (∃ d, Dp K H v d ∧ d.showable = true ∧ d.hasDict = false ∧ d.depth < 60 ∧ d.shown.length ≤ sizeLine ∧ z = d.shown) ∨ ∃ a, v = .ref a ∧ H a = some (.dK []) ∧ z = "{}"
theorem c_reprS {v : V} {z : Str} (hg : NoG X.A) (hu : X.A.units + 64 < cLine) (h : Shows X.K H v z) (q : Q (.str z) H) : WC X (.builtin "repr") [v] σ H Q := by
  rcases h with ⟨d, h1, h2, h3, h4, h5, rfl⟩ | ⟨a, rfl, h1, rfl⟩
  · exact c_reprD hg hu h1 h2 h3 h4 h5 q
  · exact c_repr0 hg hu h1 q
theorem x_reprS (c : Nm X N L S G B) (m : Mb "repr" B) (hg : NoG X.A) (hu : X.A.units + 64 < cLine) (h : WE X e σ H fun v H1 => ∃ z, Shows X.K H1 v z ∧ Q (.str z) H1)
    (hs : starEach [e] X.env = (false, eval e X.env) :: starEach [] X.env := by with_unfolding_all rfl) (hpl : (backTo pos (starEach [] X.env)).any (·.1) = false := by with_unfolding_all rfl) : WE X (.Call (.Name "repr" p) [e] [] pos) σ H Q :=
  w_callB c m bt_repr (wa_cons (WE.imp h fun v H1 ⟨z, h1, q⟩ => wa_nil (c_reprS hg hu h1 q)) hs) hs hpl
theorem s_reprS (c : NmS X N L S G B) (m : Mb "repr" B) (hg : NoG X.A) (hu : X.A.units + 64 < cLine) (h : WE X e σ H fun v H1 => ∃ z, Shows X.K H1 v z ∧ Q (.str z) H1)
    (hs : starEach [e] X.env = (false, eval e X.env) :: starEach [] X.env := by with_unfolding_all rfl) (hpl : (backTo pos (starEach [] X.env)).any (·.1) = false := by with_unfolding_all rfl) : WE X (.Call (.Name "repr" p) [e] [] pos) σ H Q :=
  s_callB c m bt_repr (wa_cons (WE.imp h fun v H1 ⟨z, h1, q⟩ => wa_nil (c_reprS hg hu h1 q)) hs) hs hpl
/-- a builtin kind by its name, in an except suite -/
theorem s_bty {x : Str} {T : String} (c : NmS X N L S G B) (m : Mb x B) (hv : bootBuiltins x = some (.type T)) (q : Q (.ty T) H) : WE X (.Name x pos) σ H Q := by
  obtain ⟨a, b, d⟩ := c.bgl x m.mem
  exact ⟨fun pins s I => ld_blt I a (c.blt x m.mem) hv ⟨.ty T, H, I, rfl, q⟩ d b⟩
end
theorem Shows.same {K : PySem.W.Frag} {H H' : Hp} {v : V} {z : Str} (h : Shows K H v z) (e : Same H H') (dp : ∀ (d : PyData) (v : V), Dp K H v d → Dp K H' v d) : Shows K H' v z := by
  rcases h with ⟨d, h1, h2⟩ | ⟨a, h0, h1, h2⟩
  · exact .inl ⟨d, dp d v h1, h2⟩
  · exact .inr ⟨a, h0, e _ _ h1, h2⟩
open He in
def kitXB (x : Str) (t : String) (b : Bool) (K : PySem.W.Frag) : Bool := decide (PySem.W.kitOne K (.ref (ga K x)) (.type t) = some b)
theorem bt_ovf : bootBuiltins "OverflowError" = some (.type "OverflowError") := by decide +kernel
theorem bt_rt : bootBuiltins "RuntimeError" = some (.type "RuntimeError") := by decide +kernel
theorem typ_ov : typeOf (.type "OverflowError") = pure (.type "type") := by kernel_rfl
theorem typ_rt : typeOf (.type "RuntimeError") = pure (.type "type") := by kernel_rfl
theorem fc_ov {K : PySem.W.Frag} : PySem.W.findCls K (.type "OverflowError") (.type "type") "__init__" = some (.val (.builtin "OverflowError.__init__")) := by kernel_rfl
theorem fc_rt {K : PySem.W.Frag} : PySem.W.findCls K (.type "RuntimeError") (.type "type") "__init__" = some (.val (.builtin "RuntimeError.__init__")) := by kernel_rfl
end Sv

/-! Comprehensions with two `for`s; d.setdefault; isinstance of a tuple of kinds. -/
namespace Sv
open PySem PySem.Spec PyProof.Rows L2
def WIb (X : Cx) (scope : Scope) (tg iter : Expr) (σ : L2.St) (H : Hp) (R : It → Hp → Prop) : Prop := ∀ X', Blk X scope X' → WI X' tg iter σ H R
/-- two walks, the inner one over what stood ahead of both -/
theorem lc2_of {X : Cx} {tg elt iter tg1 iter1 : Expr} {ifs ifs1 : List Expr} {scope : Scope} {vs vs1 : List Nat} {σ : L2.St} {H : Hp} {Q : VK} (P : Nat → List V → Prop)
    (h : WI X tg iter σ H fun J H1 => ∃ n it, Wlk J n it H1 ∧ P 0 [] ∧
      (∀ i acc H', i < n → P i acc → Same H1 H' → WGb X scope tg (it i) (wipe σ vs) H' fun σ2 H2 => H2 = H' ∧ wipe σ2 vs = wipe σ vs ∧ WTb X scope ifs σ2 H2 fun k H3 => Same H2 H3 ∧
        if k = true then WIb X scope tg1 iter1 σ2 H3 fun J1 H4 => Same H3 H4 ∧ ∃ n1 it1, Wlk J1 n1 it1 H1 ∧ ∃ P1 : Nat → List V → Prop, P1 0 acc ∧ (∀ acc', P1 n1 acc' → P (i + 1) acc') ∧
          ∀ j acc' H', j < n1 → P1 j acc' → Same H1 H' → WGb X scope tg1 (it1 j) (wipe σ2 vs1) H' fun σ3 H5 => H5 = H' ∧ wipe σ3 vs1 = wipe σ2 vs1 ∧ WTb X scope ifs1 σ3 H5 fun k H6 => Same H5 H6 ∧
            if k = true then WEb X scope elt σ3 H6 fun y H7 => Same H6 H7 ∧ acc'.length < sizeLine ∧ P1 (j + 1) (acc' ++ [y]) else P1 (j + 1) acc'
        else P (i + 1) acc) ∧
      ∀ acc D H', P n acc → H1 D = none → Same H1 H' → H' D = some (.lst acc) → Q (.ref D) H') :
    tLc2 (WI X tg iter) (WGb X scope tg) (WTb X scope ifs) (WIb X scope tg1 iter1) (WGb X scope tg1) (WTb X scope ifs1) (WEb X scope elt) vs vs1 σ H Q := by
  refine ⟨fun pins s I => thn (h.run pins s I) fun v s1 h1 => thn h1 fun itv s2 ⟨it, fp, tn, J, H1, e, I', T, t0, hf, n, itm, W, p0, hst, hd⟩ => ⟨it, fp, tn, J, H1, e, I', T, t0, hf, fun D hD => ?_⟩⟩
  refine ⟨fun i m H' => m = n - i ∧ i ≤ n ∧ ∃ acc, P i acc ∧ Same H1 H' ∧ H' D = some (.lst acc), ⟨n, by simp, Nat.zero_le _, [], p0, same_new hD, upd_same⟩, ?_⟩
  rintro i m H' ⟨rfl, hi, acc, hp, hsm, hDa⟩
  by_cases hlt : i < n
  · refine .inr ⟨W.go i H' hlt hsm, fun H2 => i + 1 ≤ n ∧ ∃ acc, P (i + 1) acc ∧ Same H1 H2 ∧ H2 D = some (.lst acc), fun H2 q => ⟨n - (i + 1), by omega, rfl, q⟩, fun x H3 y => ?_⟩
    obtain ⟨rfl, rfl⟩ := W.yld i H' x H3 hlt hsm y
    intro X' bX
    refine ⟨fun pins' s' u I' r => thn ((hst i acc H3 hlt hp hsm X' bX).run pins' s' u I' r) fun _ s2 ⟨σ2, H2, I2, e2, ew, q2⟩ => ⟨σ2, H2, I2, ew, fun X2 b2 => ?_⟩⟩
    subst e2
    refine ⟨fun pins3 s3 I3 => thn ((q2 X2 b2).run pins3 s3 I3) fun k s4 ⟨H4, I4, e4, q4⟩ => ⟨H4, I4, ?_⟩⟩
    cases k with
    | false =>
      rw [if_neg (by decide)] at q4 ⊢
      exact ⟨hlt, acc, q4, hsm.trans e4, e4 _ _ hDa⟩
    | true =>
      rw [if_pos rfl] at q4 ⊢
      intro X5 b5
      refine ⟨fun pins s I => thn ((q4 X5 b5).run pins s I) fun v s1 h1 => thn h1 fun itv s2 ⟨it', fp', tn', J1, H5, e', I'', T', t0', hf', e5, n1, it1, W1, P1, p1, hout, hst1⟩ => ⟨it', fp', tn', J1, H5, e', I'', T', t0', hf', ?_⟩⟩
      have s5 : Same H1 H5 := hsm.trans (e4.trans e5)
      have d5 : H5 D = some (.lst acc) := e5 _ _ (e4 _ _ hDa)
      refine ⟨fun j m H' => m = n1 - j ∧ j ≤ n1 ∧ ∃ acc', P1 j acc' ∧ Same H1 H' ∧ H' D = some (.lst acc'), ⟨n1, by simp, Nat.zero_le _, acc, p1, s5, d5⟩, ?_⟩
      rintro j m H6 ⟨rfl, hj, acc', hp1, hsm1, hDa1⟩
      by_cases hlt1 : j < n1
      · refine .inr ⟨W1.go j H6 hlt1 hsm1, fun H2 => j + 1 ≤ n1 ∧ ∃ acc, P1 (j + 1) acc ∧ Same H1 H2 ∧ H2 D = some (.lst acc), fun H2 q => ⟨n1 - (j + 1), by omega, rfl, q⟩, fun x H7 y => ?_⟩
        obtain ⟨rfl, rfl⟩ := W1.yld j H6 x H7 hlt1 hsm1 y
        intro X6 b6
        refine ⟨fun pins' s' u I' r => thn ((hst1 j acc' H7 hlt1 hp1 hsm1 X6 b6).run pins' s' u I' r) fun _ s2 ⟨σ3, H8, I2, e8, ew, q2⟩ => ⟨σ3, H8, I2, ew, fun X7 b7 => ?_⟩⟩
        subst e8
        refine ⟨fun pins3 s3 I3 => thn ((q2 X7 b7).run pins3 s3 I3) fun k s4 ⟨H9, I4, e9, q4⟩ => ⟨H9, I4, ?_⟩⟩
        cases k with
        | false =>
          rw [if_neg (by decide)] at q4 ⊢
          exact ⟨hlt1, acc', q4, hsm1.trans e9, e9 _ _ hDa1⟩
        | true =>
          rw [if_pos rfl] at q4 ⊢
          intro X8 b8
          refine WE.imp (q4 X8 b8) fun y H10 ⟨e10, hz, q5⟩ => ⟨acc', e10 _ _ (e9 _ _ hDa1), hz, hlt1, acc' ++ [y], q5, same_mut (hsm1.trans (e9.trans e10)) hD, upd_same⟩
      · have e : j = n1 := by omega
        subst e
        exact .inl ⟨W1.stop _ _ (Nat.le_refl _) hsm1, hlt, acc', hout acc' hp1, hsm1, hDa1⟩
  · have e : i = n := by omega
    subst e
    exact .inl ⟨W.stop _ _ (Nat.le_refl _) hsm, hd acc D H' hp hD hsm hDa⟩
section
variable {X : Cx} {N L S G B : List Str} {tg elt iter tg1 iter1 : Expr} {ifs ifs1 : List Expr} {scope : Scope} {own : List (Str × Nat)} {σ : L2.St} {H : Hp} {pos : Pos}
theorem w_lc2 {Q : VK} (c : Nm X N L S G B) (ok : blkC N X.env.scope scope own = true) (vs1 : List Nat) (hv : ∀ i ∈ vs1, i ∈ own.map (·.2)) (P : Nat → List V → Prop)
    (h : WI X tg iter σ H fun J H1 => ∃ n it, Wlk J n it H1 ∧ P 0 [] ∧
      (∀ i acc H', i < n → P i acc → Same H1 H' → WGb X scope tg (it i) (wipe σ (own.map (·.2))) H' fun σ2 H2 => H2 = H' ∧ wipe σ2 (own.map (·.2)) = wipe σ (own.map (·.2)) ∧ WTb X scope ifs σ2 H2 fun k H3 => Same H2 H3 ∧
        if k = true then WIb X scope tg1 iter1 σ2 H3 fun J1 H4 => Same H3 H4 ∧ ∃ n1 it1, Wlk J1 n1 it1 H1 ∧ ∃ P1 : Nat → List V → Prop, P1 0 acc ∧ (∀ acc', P1 n1 acc' → P (i + 1) acc') ∧
          ∀ j acc' H', j < n1 → P1 j acc' → Same H1 H' → WGb X scope tg1 (it1 j) (wipe σ2 vs1) H' fun σ3 H5 => H5 = H' ∧ wipe σ3 vs1 = wipe σ2 vs1 ∧ WTb X scope ifs1 σ3 H5 fun k H6 => Same H5 H6 ∧
            if k = true then WEb X scope elt σ3 H6 fun y H7 => Same H6 H7 ∧ acc'.length < sizeLine ∧ P1 (j + 1) (acc' ++ [y]) else P1 (j + 1) acc'
        else P (i + 1) acc) ∧
      ∀ acc D H', P n acc → H1 D = none → Same H1 H' → H' D = some (.lst acc) → Q (.ref D) H')
    (hs : ∀ x, foldedSetIterable iter X.env x = pure x := by intro _; with_unfolding_all rfl) (hs1 : ∀ env x, foldedSetIterable iter1 env x = pure x := by intro _ _; with_unfolding_all rfl) : WE X (.ListComp elt [⟨tg, iter, ifs, 0⟩, ⟨tg1, iter1, ifs1, 0⟩] scope pos) σ H Q := by
  have hN : X.N.Nodup := by rw [c.names]; exact c.nd
  have ok' : BlkOk X.N X.env.scope scope own := by rw [c.names]; exact blkOk_by ok
  have p := pe_lc2 (X := X) (pos := pos) (vs1 := vs1) (g := WGb X scope tg) (tt := WTb X scope ifs) (wi1 := WIb X scope tg1 iter1) (g1 := WGb X scope tg1) (tt1 := WTb X scope ifs1) (te := WEb X scope elt) c.calm hN (pi_w (X := X) (tg := tg) (iter := iter)) ok' hv
    (fun s H C cl fp => ⟨fun pins s1 σ1 H1 v u R I r q => (q _ ⟨s, H, C, cl, fp, rfl⟩).run pins s1 u I r⟩)
    (fun s H C cl fp => ⟨fun pins s1 σ1 H1 R I q => (q _ ⟨s, H, C, cl, fp, rfl⟩).run pins s1 I⟩)
    (fun s H C cl fp => ⟨fun pins s1 σ1 H1 R I q => (q _ ⟨s, H, C, cl, fp, rfl⟩).run pins s1 I⟩)
    (fun s H C cl fp => ⟨fun pins s1 σ1 H1 v u R I r q => (q _ ⟨s, H, C, cl, fp, rfl⟩).run pins s1 u I r⟩)
    (fun s H C cl fp => ⟨fun pins s1 σ1 H1 R I q => (q _ ⟨s, H, C, cl, fp, rfl⟩).run pins s1 I⟩)
    (fun s H C cl fp => ⟨fun pins s1 σ1 H1 R I q => (q _ ⟨s, H, C, cl, fp, rfl⟩).run pins s1 I⟩) hs hs1
  exact p.w (lc2_of P h)
theorem ws_setLc2 {y : Str} {py spos : Pos} {D0 : Ends} (c : Nm X N L S G B) (ok : blkC N X.env.scope scope own = true) (vs1 : List Nat) (hv : ∀ i ∈ vs1, i ∈ own.map (·.2)) (P : Nat → List V → Prop)
    (h : WI X tg iter σ H fun J H1 => ∃ n it, Wlk J n it H1 ∧ P 0 [] ∧
      (∀ i acc H', i < n → P i acc → Same H1 H' → WGb X scope tg (it i) (wipe σ (own.map (·.2))) H' fun σ2 H2 => H2 = H' ∧ wipe σ2 (own.map (·.2)) = wipe σ (own.map (·.2)) ∧ WTb X scope ifs σ2 H2 fun k H3 => Same H2 H3 ∧
        if k = true then WIb X scope tg1 iter1 σ2 H3 fun J1 H4 => Same H3 H4 ∧ ∃ n1 it1, Wlk J1 n1 it1 H1 ∧ ∃ P1 : Nat → List V → Prop, P1 0 acc ∧ (∀ acc', P1 n1 acc' → P (i + 1) acc') ∧
          ∀ j acc' H', j < n1 → P1 j acc' → Same H1 H' → WGb X scope tg1 (it1 j) (wipe σ2 vs1) H' fun σ3 H5 => H5 = H' ∧ wipe σ3 vs1 = wipe σ2 vs1 ∧ WTb X scope ifs1 σ3 H5 fun k H6 => Same H5 H6 ∧
            if k = true then WEb X scope elt σ3 H6 fun y H7 => Same H6 H7 ∧ acc'.length < sizeLine ∧ P1 (j + 1) (acc' ++ [y]) else P1 (j + 1) acc'
        else P (i + 1) acc) ∧
      ∀ acc D H', P n acc → H1 D = none → Same H1 H' → H' D = some (.lst acc) → ∃ σ', Put N σ y (.ref D) σ' ∧ D0.nx σ' H')
    (hyl : X.env.scope.names.lookup y = some .local) (hsw : swapsWith (.ListComp elt [⟨tg, iter, ifs, 0⟩, ⟨tg1, iter1, ifs1, 0⟩] scope pos) (some (.Name y py)) spos.line X.env = pure true)
    (hs : ∀ x, foldedSetIterable iter X.env x = pure x := by intro _; with_unfolding_all rfl) (hs1 : ∀ env x, foldedSetIterable iter1 env x = pure x := by intro _ _; with_unfolding_all rfl) (iy : ∃ i : Nat, N[i]? = some y) : WS X (.Assign [.Name y py] (.ListComp elt [⟨tg, iter, ifs, 0⟩, ⟨tg1, iter1, ifs1, 0⟩] scope pos) spos) D0 σ H := by
  have hN : X.N.Nodup := by rw [c.names]; exact c.nd
  have ok' : BlkOk X.N X.env.scope scope own := by rw [c.names]; exact blkOk_by ok
  obtain ⟨i, hi⟩ := iy
  have hi' : X.N[i]? = some y := by rw [c.names]; exact hi
  have p := ps_setLc2 (X := X) (pos := pos) (spos := spos) (py := py) (vs1 := vs1) (g := WGb X scope tg) (tt := WTb X scope ifs) (wi1 := WIb X scope tg1 iter1) (g1 := WGb X scope tg1) (tt1 := WTb X scope ifs1) (te := WEb X scope elt) c.calm hN hi' hyl hsw (pi_w (X := X) (tg := tg) (iter := iter)) ok' hv
    (fun s H C cl fp => ⟨fun pins s1 σ1 H1 v u R I r q => (q _ ⟨s, H, C, cl, fp, rfl⟩).run pins s1 u I r⟩)
    (fun s H C cl fp => ⟨fun pins s1 σ1 H1 R I q => (q _ ⟨s, H, C, cl, fp, rfl⟩).run pins s1 I⟩)
    (fun s H C cl fp => ⟨fun pins s1 σ1 H1 R I q => (q _ ⟨s, H, C, cl, fp, rfl⟩).run pins s1 I⟩)
    (fun s H C cl fp => ⟨fun pins s1 σ1 H1 v u R I r q => (q _ ⟨s, H, C, cl, fp, rfl⟩).run pins s1 u I r⟩)
    (fun s H C cl fp => ⟨fun pins s1 σ1 H1 R I q => (q _ ⟨s, H, C, cl, fp, rfl⟩).run pins s1 I⟩)
    (fun s H C cl fp => ⟨fun pins s1 σ1 H1 R I q => (q _ ⟨s, H, C, cl, fp, rfl⟩).run pins s1 I⟩) hs hs1
  refine p.w ?_
  refine lc2_of (Q := fun v H1 => D0.nx (σ.set i (some v)) H1) P ⟨fun pins s I => thn (h.run pins s I) fun v s1 h1 => thn h1 fun itv s2 ⟨it, fp, tn, J, H1, e, I', T, t0, hf, n, itm, W, p0, hst, hd⟩ => ⟨it, fp, tn, J, H1, e, I', T, t0, hf, n, itm, W, p0, hst, fun acc D H' h2 h3 h4 h5 => ?_⟩⟩
  obtain ⟨σ', hp, q⟩ := hd acc D H' h2 h3 h4 h5
  obtain ⟨i', hi2, rfl⟩ := hp.ix
  have ei : i' = i := nodup_ix hN (by rw [c.names]; exact hi2) hi'
  rw [← ei]
  exact q
end
section
variable {X : Cx} {N L S G B : List Str} {o e f : Expr} {σ : L2.St} {H : Hp} {Q : VK} {p p2 p3 apos pos : Pos}
/-- d.setdefault(k, v) of a dict of numbers or texts -/
theorem w_setd (h : WE X o σ H fun x H1 => ∃ a, x = .ref a ∧ IsD H1 a ∧ WE X e σ H1 fun y H2 => WE X f σ H2 fun z H3 => ∃ (kvs : List (Key × V)) (k : Key), H3 a = some (.dK kvs) ∧ y = kV k ∧ kvs.length < sizeLine ∧
      (∀ v, valV kvs k = some v → Q v H3) ∧ (valV kvs k = none → Q z (upd H3 a (.dK (putK kvs k z)))))
    (h1 : attributeBase o "setdefault" X.env (eval o X.env) = eval o X.env := by with_unfolding_all rfl)
    (h2 : ((backTo pos (starEach [e, f] X.env)).all (fun x => !x.1) && (backToKw pos (keywordEach [] X.env)).all (fun x => x.1.isSome) && decide (([e, f] : List Expr).length + ([] : List Keyword).length + (if ([] : List Keyword).isEmpty then 0 else 1) < 30)) = true := by with_unfolding_all rfl)
    (h3 : (apos.endLine == pos.line) = true := by with_unfolding_all rfl) (h4 : backTo pos (starEach [e, f] X.env) = [(false, eval e X.env), (false, eval f X.env)] := by with_unfolding_all rfl) :
    WE X (.Call (.Attribute o "setdefault" apos) [e, f] [] pos) σ H Q := (pe_dsetd pe_w pe_w pe_w ⟨h1, h2, h3, h4⟩).w h
/-- {} -/
theorem w_dnew (h : ∀ p H', H p = none → Same H H' → H' p = some (.dK []) → Q (.ref p) H') : WE X (.Dict [] [] pos) σ H Q := pe_dnewK.w (newly' (Q := fun p H' => Q (.ref p) H') h)
/-- d[k] -/
theorem w_dget (hu : X.A.units + 1 < cLine) (h : WE X o σ H fun x H1 => WE X e σ H1 fun y H2 => ∃ a v, x = .ref a ∧ DGet H2 a y (some v) ∧ Q v H2) (hs : NoSl e := by with_unfolding_all exact fun _ _ => rfl) : WE X (.Subscript o e pos) σ H Q := (pe_dget hu pe_w pe_w hs).w h
/-- a walk over a list or a tuple that a local name holds -/
theorem wi_seqN {x : Str} {tg : Expr} {a : Addr} {xs : List V} {R : It → Hp → Prop} (c : Nm X N L S G B) (h : At N σ x (.ref a)) (m : Mb x L) (hl : H a = some (.lst xs) ∨ H a = some (.tup xs)) (q : ∀ J, (∀ H0, H0 a = H a → Wlk J xs.length (fun i => xs.getD i .non) H0) → R J H) : WI X tg (.Name x pos) σ H R := by
  rcases hl with hl | hl
  · exact wi_list (w_name c h m ⟨a, xs, rfl, .inl (.inl hl), q _ fun H0 e => wlk_list (.inl (.inl (e.trans hl)))⟩)
  · exact wi_tup (w_name c h m ⟨a, xs, rfl, .inl (.inl hl), q _ fun H0 e => wlk_tup (.inl (.inl (e.trans hl)))⟩)
/-- isinstance(x, (T1, T2)) of built-in kinds -/
theorem c_isiT {x : V} {tp : Addr} {cs : List V} {t : Value} {us : List Value} {b : Bool} (h1 : H tp = some (.tup cs)) (h2 : Paired ClsV cs us) (ht : TyX X.K H x t) (hk : PySem.W.kitAny X.K t us = some b) (q : Q (.bl b) H) : WC X (.builtin "isinstance") [x, .ref tp] σ H Q := call_isiT.w ⟨x, tp, cs, t, us, b, rfl, h1, h2, ht, hk, q⟩
/-- tuple(xs) of a list -/
theorem x_tupleL (c : Nm X N L S G B) (m : Mb "tuple" B) (h : WE X e σ H fun x H1 => ∃ a xs, x = .ref a ∧ SqL X.K H1 a xs ∧ ∀ p H', H1 p = none → Same H1 H' → H' p = some (.tup xs) → Q (.ref p) H') (hs : starEach [e] X.env = (false, eval e X.env) :: starEach [] X.env := by with_unfolding_all rfl) (hpl : (backTo pos (starEach [] X.env)).any (·.1) = false := by with_unfolding_all rfl) : WE X (.Call (.Name "tuple" p) [e] [] pos) σ H Q :=
  w_callTy c m bt_tuple (wa_cons (WE.imp h fun x H1 ⟨a, xs, ex, l, q⟩ => wa_nil (by rw [ex]; exact call_tuple_of.w ⟨a, xs, rfl, .inl ⟨l, newly' (Q := fun p H' => Q (.ref p) H') q⟩⟩)) hs) hs hpl
theorem c_minL {a : Addr} {ns : List Int} (hc : X.calm = true) (h : SqL X.K H a (ns.map V.int)) (hne : 0 < ns.length) (q : ∀ m, m ∈ ns → (∀ x ∈ ns, m ≤ x) → Q (.int m) H) : WC X (.builtin "min") [.ref a] σ H Q := by
  refine ⟨fun pins s us I rv => ?_⟩
  obtain ⟨its, rw', hl, hzl⟩ := I.list h
  rw [Vals.ref1 rv]
  have hi := rw'.ints
  obtain ⟨xs, e⟩ := hi.allInts.items
  have hns : xs.toList.map (·.1) = ns := by
    have := hi.numsOf
    rw [← this, ← nums_intItems, ← e]
  have hsz : xs.size = ns.length := by rw [← hns]; simp
  refine min_intList (I.ok.hd hc) (by rw [← e]; exact hl.isList) (by omega) fun v h' tk hv hk => ?_
  obtain ⟨t, rfl⟩ := intItems_at hv
  obtain ⟨h1, h2⟩ := argBest_lt (numAt xs) (xs.size - 1)
  refine ⟨.int _, H, I.kept (t' := tk) hk, ⟨t, rfl⟩, q _ ?_ fun a ha => ?_⟩
  · rw [numAt_eq, hns, List.getD_eq_getElem?_getD, List.getElem?_eq_getElem (by omega)]
    exact List.getElem_mem _
  · obtain ⟨j, hj, rfl⟩ := List.getElem_of_mem ha
    have := h2 j (by omega)
    rw [numAt_eq xs j, hns, List.getD_eq_getElem?_getD, List.getElem?_eq_getElem hj] at this
    exact this
end
end Sv

namespace Sv
open PySem PySem.Spec PyProof.Rows L2
/-- sys.modules is known as a dict -/
def SysD (K : PySem.W.Frag) : Prop := ∃ o, K.lookup PySem.sysModules = some o ∧ o.cls = .type "dict"
def sysB (K : PySem.W.Frag) : Bool := match K.lookup PySem.sysModules with
  | some o => decide (o.cls = .type "dict")
  | none => false
theorem sysB_ok {K : PySem.W.Frag} (h : sysB K = true) : SysD K := by
  unfold sysB at h
  split at h
  · rename_i o e
    exact ⟨o, e, of_decide_eq_true h⟩
  · cases h
/-- t + u of tuples -/
theorem b_catT {X : Cx} {σ : L2.St} {H : Hp} {Q : VK} {l b : Addr} {xs zs : List V} (h1 : H l = some (.tup xs)) (h2 : H b = some (.tup zs)) (hz : xs.length + zs.length ≤ sizeLine) (hne : zs ≠ []) (q : ∀ p H', Same H H' → H' p = some (.tup (xs ++ zs)) → Q (.ref p) H') :
    WB X (binaryOp .Add) (.ref l) (.ref b) σ H Q := op_catA.w ⟨_, _, _, _, rfl, rfl, .inl (.inl h1), .inl (.inl h2), hz, fun e => q b H (Same.refl _) (by rw [e, List.nil_append]; exact h2), fun _ e => absurd e hne, fun _ _ p hp => q p _ (same_new hp) upd_same⟩
end Sv

/-! Plain mathematics of observations: all texts of a length, those that agree, those that fit. -/
namespace Sv
open PySem PySem.Spec PyProof.Rows L2
/-- all texts of n signs, + ahead of - -/
def txs : Nat → List (List Bool)
  | 0 => [[]]
  | n + 1 => (txs n).flatMap fun t => [t ++ [true], t ++ [false]]
def opt : Option Bool → List Bool
  | some b => [b]
  | none => [true, false]
/-- .. with some signs known -/
def agr (sg : Nat → Option Bool) : Nat → List (List Bool)
  | 0 => [[]]
  | n + 1 => (agr sg n).flatMap fun t => (opt (sg n)).map fun b => t ++ [b]
def fitsAt (sg : Nat → Option Bool) (t : List Bool) (i : Nat) : Bool := match sg i with
  | some b => t.getD i false == b
  | none => true
def agree (fs : List (Nat × Bool)) (t : List Bool) : Bool := fs.all fun f => kp t f.1 == f.2
def primB (t : List Bool) : Bool := (List.range t.length).all fun d => d == 0 || t.length % d != 0 || !((List.range t.length).all fun i => kp t (i + d) == kp t i)
def okB (t : List Bool) : Bool := t.contains true && primB t
def allp (L : Nat) : List (List Bool) := (List.range L).flatMap fun i => (txs (i + 1)).filter okB
def fits (fs : List (Nat × Bool)) (L : Nat) : List (List Bool) := (List.range L).flatMap fun i => ((txs (i + 1)).filter (agree fs)).filter okB
theorem txs_len {n : Nat} : ∀ {t : List Bool}, t ∈ txs n → t.length = n := by
  induction n with
  | zero => intro t h; rw [txs] at h; rw [List.mem_singleton.mp h]; rfl
  | succ n ih =>
    intro t h
    rw [txs, List.mem_flatMap] at h
    obtain ⟨u, hu, h⟩ := h
    have := ih hu
    simp only [List.mem_cons, List.not_mem_nil, or_false] at h
    rcases h with rfl | rfl <;> simp [this]
theorem txs_size (n : Nat) : (txs n).length = 2 ^ n := by
  induction n with
  | zero => rfl
  | succ n ih =>
    rw [txs, List.length_flatMap]
    have : (List.map (fun t => ([t ++ [true], t ++ [false]] : List (List Bool)).length) (txs n)) = (txs n).map fun _ => 2 := rfl
    rw [this, List.map_const', List.sum_replicate_nat, ih, Nat.pow_succ]
theorem mem_txs {n : Nat} : ∀ {t : List Bool}, t.length = n → t ∈ txs n := by
  induction n with
  | zero => intro t h; rw [txs, List.length_eq_zero_iff.mp h]; exact List.mem_singleton.mpr rfl
  | succ n ih =>
    intro t h
    have hne : t ≠ [] := fun z => by rw [z] at h; cases h
    rw [txs, List.mem_flatMap]
    refine ⟨t.dropLast, ih (by rw [List.length_dropLast]; omega), ?_⟩
    have e := List.dropLast_concat_getLast hne
    simp only [List.mem_cons, List.not_mem_nil, or_false]
    cases hb : t.getLast hne with
    | true => rw [hb] at e; exact .inl e.symm
    | false => rw [hb] at e; exact .inr e.symm
theorem flatMap_filter' {α β : Type} (p : α → Bool) (f : α → List β) : ∀ l : List α, (l.filter p).flatMap f = l.flatMap fun t => if p t = true then f t else []
  | [] => rfl
  | a :: l => by
    rw [List.filter_cons, List.flatMap_cons]
    by_cases h : p a = true
    · rw [if_pos h, if_pos h, List.flatMap_cons, flatMap_filter' p f l]
    · rw [if_neg h, if_neg h, flatMap_filter' p f l, List.nil_append]
theorem filter_flatMap' {α β : Type} (p : β → Bool) (f : α → List β) : ∀ l : List α, (l.flatMap f).filter p = l.flatMap fun t => (f t).filter p
  | [] => rfl
  | a :: l => by rw [List.flatMap_cons, List.flatMap_cons, List.filter_append, filter_flatMap' p f l]
theorem flatMap_congr' {α β : Type} {f g : α → List β} : ∀ {l : List α}, (∀ x ∈ l, f x = g x) → l.flatMap f = l.flatMap g
  | [], _ => rfl
  | a :: l, h => by rw [List.flatMap_cons, List.flatMap_cons, h a List.mem_cons_self, flatMap_congr' fun x hx => h x (List.mem_cons_of_mem _ hx)]
theorem agr_eq (sg : Nat → Option Bool) (n : Nat) : agr sg n = (txs n).filter fun t => (List.range n).all (fitsAt sg t) := by
  induction n with
  | zero => rfl
  | succ n ih =>
    rw [agr, txs, ih, flatMap_filter', filter_flatMap']
    refine flatMap_congr' fun t ht => ?_
    have hl := txs_len ht
    have key : ∀ b, ((List.range (n + 1)).all (fitsAt sg (t ++ [b]))) = ((List.range n).all (fitsAt sg t) && (match sg n with | some c => b == c | none => true)) := fun b => by
      rw [List.range_succ, List.all_append]
      congr 1
      · rw [Bool.eq_iff_iff, List.all_eq_true, List.all_eq_true]
        have : ∀ i, i ∈ List.range n → fitsAt sg (t ++ [b]) i = fitsAt sg t i := fun i hi => by
          unfold fitsAt
          rw [List.getD_eq_getElem?_getD, List.getElem?_append_left (by rw [hl]; exact List.mem_range.mp hi), ← List.getD_eq_getElem?_getD]
        exact ⟨fun h i hi => by rw [← this i hi]; exact h i hi, fun h i hi => by rw [this i hi]; exact h i hi⟩
      · rw [List.all_cons, List.all_nil, Bool.and_true]
        unfold fitsAt
        cases sg n with
        | none => rfl
        | some c => rw [List.getD_eq_getElem?_getD, ← hl]; simp
    cases hs : sg n with
    | none =>
      simp only [opt, List.map_cons, List.map_nil, List.filter_cons, List.filter_nil, key, hs, Bool.and_true]
      by_cases h : (List.range n).all (fitsAt sg t) = true
      · rw [if_pos h, if_pos h, if_pos h]
      · rw [if_neg h, if_neg h, if_neg h]
    | some c =>
      simp only [opt, List.map_cons, List.map_nil, List.filter_cons, List.filter_nil, key, hs]
      by_cases h : (List.range n).all (fitsAt sg t) = true
      · rw [if_pos h, h]; cases c <;> simp
      · rw [if_neg h, Bool.eq_false_iff.mpr h]; simp
/-- signs that say the facts modulo p -/
structure Signs (fs : List (Nat × Bool)) (p : Nat) (sg : Nat → Option Bool) : Prop where
  all : ∀ f ∈ fs, sg (f.1 % p) = some f.2
  only : ∀ r b, sg r = some b → ∃ n, (n, b) ∈ fs ∧ n % p = r
theorem fitsAt_agree {fs : List (Nat × Bool)} {p : Nat} {sg : Nat → Option Bool} (h : Signs fs p sg) (h0 : 0 < p) {t : List Bool} (ht : t.length = p) : ((List.range p).all (fitsAt sg t)) = agree fs t := by
  unfold agree
  rw [Bool.eq_iff_iff, List.all_eq_true, List.all_eq_true]
  constructor
  · intro k f hf
    have := k (f.1 % p) (List.mem_range.mpr (Nat.mod_lt _ h0))
    unfold fitsAt at this
    rw [h.all f hf] at this
    unfold kp
    rw [ht]
    exact this
  · intro k r hr
    unfold fitsAt
    cases hs : sg r with
    | none => rfl
    | some b =>
      obtain ⟨n, hn, e⟩ := h.only r b hs
      have := k (n, b) hn
      unfold kp at this
      rw [ht] at this
      show (t.getD r false == b) = true
      rw [← e]
      exact this
theorem agr_signs {fs : List (Nat × Bool)} {p : Nat} {sg : Nat → Option Bool} (h : Signs fs p sg) (h0 : 0 < p) : agr sg p = (txs p).filter (agree fs) := by
  rw [agr_eq]
  exact List.filter_congr fun t ht => fitsAt_agree h h0 (txs_len ht)
/-- facts that contradict each other modulo p -/
def Contra (fs : List (Nat × Bool)) (p : Nat) : Prop := ∃ a ∈ fs, ∃ b ∈ fs, a.1 % p = b.1 % p ∧ a.2 ≠ b.2
theorem contra_none {fs : List (Nat × Bool)} {p : Nat} (h : Contra fs p) : (txs p).filter (agree fs) = [] := by
  rw [List.filter_eq_nil_iff]
  intro t ht k
  obtain ⟨a, ha, b, hb, e, ne⟩ := h
  unfold agree at k
  rw [List.all_eq_true] at k
  have k1 := eq_of_beq (k a ha)
  have k2 := eq_of_beq (k b hb)
  refine ne ?_
  rw [← k1, ← k2]
  unfold kp
  rw [txs_len ht, e]
theorem primB_iff {t : List Bool} (h0 : 0 < t.length) : primB t = true ↔ Prim t := by
  have per : ∀ d, ((List.range t.length).all fun i => kp t (i + d) == kp t i) = true ↔ Per (kp t) d := fun d => by
    rw [List.all_eq_true]
    constructor
    · intro k i
      have hi := Nat.mod_lt i h0
      have := eq_of_beq (k (i % t.length) (List.mem_range.mpr hi))
      rw [(kp_per t).mod] at this
      rw [← this, ← (kp_per t).mod (i + d), ← (kp_per t).mod (i % t.length + d)]
      congr 1
      rw [Nat.mod_add_mod]
    · intro k i _
      exact beq_iff_eq.mpr (k i)
  unfold primB Prim
  rw [List.all_eq_true]
  constructor
  · intro k d d0 dl dd hp
    have := k d (List.mem_range.mpr dl)
    simp only [Bool.or_eq_true, beq_iff_eq, bne_iff_ne, Bool.not_eq_true'] at this
    rcases this with (z | z) | z
    · omega
    · exact z (Nat.mod_eq_zero_of_dvd dd)
    · have := (per d).mpr hp
      rw [z] at this
      cases this
  · intro k d hd
    have dl := List.mem_range.mp hd
    by_cases d0 : d = 0
    · simp [d0]
    by_cases dd : t.length % d = 0
    · have := k d (by omega) dl (Nat.dvd_of_mod_eq_zero dd)
      have : ((List.range t.length).all fun i => kp t (i + d) == kp t i) = false := by
        rw [Bool.eq_false_iff]
        exact fun z => this ((per d).mp z)
      rw [this]
      simp
    · simp [dd]
theorem okB_iff {t : List Bool} (h0 : 0 < t.length) (h1 : t.length ≤ 10000) : okB t = true ↔ Good t := by
  unfold okB
  rw [Bool.and_eq_true, List.contains_iff_mem, primB_iff h0]
  exact ⟨fun ⟨a, b⟩ => ⟨⟨h0, h1, a⟩, b⟩, fun g => ⟨g.plus, g.prim⟩⟩
theorem fits_allp (fs : List (Nat × Bool)) (L : Nat) : fits fs L = (allp L).filter (agree fs) := by
  unfold fits allp
  rw [filter_flatMap']
  refine flatMap_congr' fun i _ => ?_
  rw [List.filter_filter, List.filter_filter]
  exact List.filter_congr fun t _ => Bool.and_comm _ _
theorem allp_succ (L : Nat) : allp (L + 1) = allp L ++ (txs (L + 1)).filter okB := by
  unfold allp
  rw [List.range_succ, List.flatMap_append]
  simp
theorem fits_succ (fs : List (Nat × Bool)) (L : Nat) : fits fs (L + 1) = fits fs L ++ ((txs (L + 1)).filter (agree fs)).filter okB := by
  unfold fits
  rw [List.range_succ, List.flatMap_append]
  simp
theorem allp_len (L : Nat) : (allp L).length + 2 ≤ 2 ^ (L + 1) := by
  induction L with
  | zero => decide
  | succ L ih =>
    rw [allp_succ, List.length_append]
    have := List.length_filter_le okB (txs (L + 1))
    rw [txs_size] at this
    rw [Nat.pow_succ]
    omega
theorem fits_len (fs : List (Nat × Bool)) (L : Nat) : (fits fs L).length + 2 ≤ 2 ^ (L + 1) := by
  rw [fits_allp]
  have := List.length_filter_le (agree fs) (allp L)
  have := allp_len L
  omega
theorem mem_allp {L : Nat} {t : List Bool} (hL : L ≤ 10000) : t ∈ allp L ↔ Good t ∧ t.length ≤ L := by
  unfold allp
  rw [List.mem_flatMap]
  constructor
  · rintro ⟨i, hi, h⟩
    have hi := List.mem_range.mp hi
    obtain ⟨h1, h2⟩ := List.mem_filter.mp h
    have := txs_len h1
    exact ⟨(okB_iff (by omega) (by omega)).mp h2, by omega⟩
  · rintro ⟨g, hl⟩
    have := g.one
    refine ⟨t.length - 1, List.mem_range.mpr (by omega), List.mem_filter.mpr ⟨mem_txs (by omega), (okB_iff g.one g.most).mpr g⟩⟩
theorem mem_fits {fs : List (Nat × Bool)} {L : Nat} {t : List Bool} (hL : L ≤ 10000) : t ∈ fits fs L ↔ Good t ∧ t.length ≤ L ∧ agree fs t = true := by
  rw [fits_allp, List.mem_filter, mem_allp hL, and_assoc]
theorem pow_le_2048 {L : Nat} (h : L ≤ 10) : 2 ^ (L + 1) ≤ 2048 := Nat.le_trans (Nat.pow_le_pow_right (by decide) (by omega : L + 1 ≤ 11)) (by decide)
theorem txs_1024 {L : Nat} (h : L ≤ 10) : (txs L).length ≤ 1024 := by
  rw [txs_size]
  exact Nat.le_trans (Nat.pow_le_pow_right (by decide) h) (by decide)
end Sv

/-! A static method called through an instance; == and != of an instance with values of other kinds. -/
namespace Sv
open PySem PySem.Spec PyProof.Rows L2
structure SMi (K : PySem.W.Frag) (C : Addr) (m : Str) (p : Addr) : Prop where
  ha : PySem.W.findIn K (.ref C) m = some (some (.ref p))
  ht : PySem.W.typeIn K (.ref p) = some (.type "staticmethod")
  hg : PySem.W.specialIn K (.ref p) "__get__" = some (some (.builtin "staticmethod.__get__"))
  hts : PySem.W.takesIn K (.ref p) = some false
  hc : PySem.W.copiedNames.contains m = false
structure SMI (P : Program) (w : World) (K : PySem.W.Frag) (mg : Str → Option Value) (base : Heap) (C : Addr) (m : Str) (k : Nat) (sp : Sp) : Prop where
  ex : ∃ (p g : Addr) (rest : List Value), Cls K C ∧ SMi K C m p ∧ PySem.W.recIn K p "staticmethod" = some (.ref g :: rest) ∧ PySem.W.keepIn K (.ref g) = true ∧ FnR P w K mg base (L2.CX P w) k g sp
open He in
def smiB (x m : Str) (K : PySem.W.Frag) : Bool := decide (PySem.W.findIn K (.ref (ga K x)) m = some (some (.ref (ma K (ga K x) m)))) && (decide (PySem.W.typeIn K (.ref (ma K (ga K x) m)) = some (.type "staticmethod")) &&
  (decide (PySem.W.specialIn K (.ref (ma K (ga K x) m)) "__get__" = some (some (.builtin "staticmethod.__get__"))) && (decide (PySem.W.takesIn K (.ref (ma K (ga K x) m)) = some false) && !(PySem.W.copiedNames.contains m))))
open He in
theorem smiB_ok {x m : Str} {K : PySem.W.Frag} (h : smiB x m K = true) : SMi K (ga K x) m (ma K (ga K x) m) := by
  obtain ⟨h1, h⟩ := ba h
  obtain ⟨h2, h⟩ := ba h
  obtain ⟨h3, h⟩ := ba h
  obtain ⟨h4, h5⟩ := ba h
  exact ⟨of_decide_eq_true h1, of_decide_eq_true h2, of_decide_eq_true h3, of_decide_eq_true h4, by simpa using h5⟩
section
variable {X : Cx} {N L S G B : List Str} {m : Str} {e o : Expr} {es : List Expr} {σ : L2.St} {H : Hp} {Q : VK} {pos apos : Pos}
/-- o.m(e, ..), m a static method, o an instance -/
theorem w_smethI {C : Addr} {k j : Nat} {sp : Sp} {E : XK} {pl : Sem Bool} (F : SMI X.prog X.w X.K X.mg X.base C m k sp) (hr : Room j X.A) (hj : k ≤ j) (hx : Passes (L2.CX X.prog X.w) X E)
    (h : WE X o σ H fun x H1 => ∃ a dx fs, x = .ref a ∧ H1 a = some (.ins C dx fs) ∧ fs.lookup m = none ∧ WA X (e :: es) σ H1 fun vs H2 => sp vs H2 Q E)
    (hst : starEach (e :: es) X.env = (false, eval e X.env) :: starEach es X.env := by with_unfolding_all rfl) (hpl : (backTo pos (starEach es X.env)).any (·.1) = false := by with_unfolding_all rfl)
    (ht : eval (.Call (.Attribute o m apos) (e :: es) [] pos) X.env = (do
      let ov ← eval o X.env
      standAt apos.atName
      let (f, first) ← holding [ov] (getMethod ov m pl)
      callWith pos f first (backTo pos (starEach (e :: es) X.env)) (backToKw pos (keywordEach [] X.env))) := by with_unfolding_all rfl) : WE X (.Call (.Attribute o m apos) (e :: es) [] pos) σ H Q := by
  obtain ⟨p, g, rest, c, si, rc, kp, F⟩ := F.ex
  refine ⟨fun pins s I => PySem.W.methodCall_KW (pl := pl) (thn (h.run pins s I) fun u s1 ⟨x, H1, I1, rx, a, dx, fs, ex, ea, l, q⟩ => ?_) ht⟩
  subst ex
  obtain rfl : u = Value.ref a := rx
  obtain ⟨mA, O, r, _⟩ := ins_get I1.hok ea
  obtain ⟨od, J, hl⟩ := O.look
  have hno : mA m = none := RelO.none_of (by rw [← l]; exact r m)
  have pg := PySem.W.plainGet_of (c.get m)
  refine PySem.W.method_usual (r := some (.ref p)) I1.kIn J pg.1 pg.2 si.ha (by simp only [Option.all_some, si.ht, Option.any_some]; decide +kernel) ?_
  refine PySem.W.get_bind I1.kIn J pg.1 (PySem.W.findObj_fn c.hd si.ha si.hg si.hts si.hc (by rw [hl, hno])) pg.2 ?_
  refine wpAny_call (PySem.W.sm_get (s := { s1 with toks := s1.toks + 1 }) I1.kIn rc (PySem.W.handed_on rfl ?_))
  have I2 := I1.tok (s1.toks + 1)
  refine PySem.W.callWith_K (first := []) (h₀ := X.base) I.ok.mod.kin kp (thn (q.run pos pins _ I2) fun us s2 ⟨vs, H2, I3, rv, q2⟩ => ⟨I3.kIn, ?_⟩) hst hpl
  exact wpAny_call (run_fnR (us := us) (vs := vs) F (hr.mono hj) hx I3 rv q2)
end
/-! ### the other side is of another kind -/
/-- its kind, as the model tells it -/
inductive Kd (H : Hp) : V → String → Prop where
  | non : Kd H .non "NoneType"
  | int (i : Int) : Kd H (.int i) "int"
  | str (x : Str) : Kd H (.str x) "str"
  | lst {a : Addr} {xs : List V} (e : H a = some (.lst xs)) : Kd H (.ref a) "list"
theorem Kd.looks {X : Cx} {pins : List (Addr × Obj)} {σ : L2.St} {H : Hp} {s : Shared} {y : V} {T : String} {u : Value} (I : Inv X pins σ H s) (k : Kd H y T) (r : RelV y u) : PySem.W.Looks (model X.prog X.w) s.heap (typeOf u) (.type T) := by
  cases k with
  | non => obtain rfl : u = Value.none := r; exact fun A Q E s k q => wpAny_of_eq (show typeOf .none = pure (.type "NoneType") from rfl) q
  | int i => obtain ⟨t, rfl⟩ := r; exact fun A Q E s k q => wpAny_of_eq (show typeOf (.int i t) = pure (.type "int") from rfl) q
  | str x => obtain ⟨t, rfl⟩ := r; exact fun A Q E s k q => wpAny_of_eq (show typeOf (.str x t) = pure (.type "str") from rfl) q
  | @lst a xs e =>
    obtain rfl : u = Value.ref a := r
    obtain ⟨_, its, n, rv, eo⟩ := (show ObjOk X.prog X.w H s.heap a (.lst xs) from I.hok a _ e)
    exact fun A Q E s k q => wpAny_typeOf_ref (k _ _ eo) q
section
variable {X : Cx} {σ : L2.St} {H : Hp} {Q : VK} {a C dx : Addr} {fs : List (Str × V)} {k j : Nat} {sp : Sp} {y : V} {T : String}
theorem b_eqX (F : EqM X.prog X.w X.K X.mg X.base C k sp) (hr : Room j X.A) (hj : k + 1 ≤ j) (ha : H a = some (.ins C dx fs)) (hy : Kd H y T) (hn : PySem.W.subIn X.K (.type T) (.ref C) = some false) (q : sp [.ref a, y] H (fun v H' => ∃ r, v = .bl r ∧ Q (.bl r) H') E0) :
    WB X (compareOp .Eq) (.ref a) y σ H Q := by
  obtain ⟨f, c, F⟩ := F.ex
  refine ⟨fun pins s v u I rx ry => ?_⟩
  cases rx
  obtain ⟨mA, O, _⟩ := ins_get I.hok ha
  obtain ⟨od, J, _⟩ := O.look
  obtain ⟨m, hF⟩ := I.fr
  refine PySem.W.cmp_K (op := .Eq) (tb := .type T) hr.units0 hF I.ok.mod.kin J (hy.looks I ry) (by simp [PySem.W.notFirst, hn]) c.eq c.fn ?_
  refine wpAny_mono (wpAny_call (run_fnR (us := [.ref a, u]) (vs := [.ref a, y]) F (hr.mono (by omega)) passL I (.cons rfl (.cons ry .nil)) q)) (fun w s' z => ?_) fun _ _ x => x
  obtain ⟨z', H', I', rz, r, ez, qz⟩ := z
  subst ez
  cases rz
  exact ⟨.bl r, H', I', rfl, qz⟩
end
section
open PySem.Builtin
variable {P : Program} {wo : World} {A : Around} {E : Value → Shared → Prop} {h : Heap} {g : Array GenState} {dr : Drawn} {tk : Nat} {os : OsState} {C x f : Addr} {b : Value}
/-- object.__ne__ of an instance whose class has its own __eq__, any other side -/
theorem neOwn (X : h.OwnEqNoNe x C f "object" [.type "object"]) (hu : A.units < cLine) {Q : Fin → Shared → Prop}
    (hc : wpAny (model P wo) A (call (.ref f) [.ref x, b]) (fun v s' => ∃ r, v = .bool r ∧ Q (.done (.ret (.bool (!r)))) s') E ⟨h, g, dr, tk, os⟩) :
    wpAny (model P wo) A (Builtin.«object.__ne__» ⟨[.ref x, b], []⟩) Q E ⟨h, g, dr, tk, os⟩ := by
  have oe := X.ownEq
  have hc2 := wpAny_callSpecialIfBound?_own oe (args := [b]) (Q := fun o s' => ∃ r, o = some (.bool r) ∧ Q (.done (.ret (.bool (!r)))) s') (wpAny_mono hc (fun r s' ⟨z, e, q⟩ => ⟨z, by rw [e], q⟩) fun _ _ e => e)
  delta Builtin.«object.__ne__»
  repeat (first
    | (with_reducible refine wpAny_cRoomFor hu ?_)
    | (refine wpAny_bind (m := callSpecialIfBound? (.ref x) (Str.ofString "__eq__") [b]) (wpAny_mono hc2 (fun r s' z => ?_) fun _ _ e => e); obtain ⟨z, rfl, hq⟩ := z)
    | exact hq
    | exact wpAny_pure hq
    | exact wpAny_truthy_bool hq
    | (refine wpAny_bind (m := truthy (.bool _)) (wpAny_truthy_bool ?_))
    | wp_step)
theorem tryNe (X : h.OwnEqNoNe x C f "object" [.type "object"]) (hu : A.units + 1 < cLine) {Q : Option Value → Shared → Prop}
    (hc : wpAny (model P wo) A.in1 (call (.ref f) [.ref x, b]) (fun v s' => ∃ r, v = .bool r ∧ Q (some (.bool (!r))) s') E ⟨h, g, dr, tk, os⟩) :
    wpAny (model P wo) A (tryCompare (.ref x) "__ne__" b) Q E ⟨h, g, dr, tk, os⟩ := by
  have FB := PySem.F.cmp_object
  obtain ⟨o, _, nm, q, N, bs, hdct, sn, sub, ab, col, dd, k0, k1, k2, k3, k5, newId, mN, _, hx, hcl, hC, hn, _, _, _, _, _, hne⟩ := id X
  delta tryCompare
  refine wpAny_bind (wpAny_callSpecialIfBound?_inst hx hcl hC hn hne FB.mro FB.ne (wpAny_call ?_))
  refine codeAny_call_builtin FB.ne.plain F.cmpEntry_ne ?_
  refine wpAny_check_slot_inst F.cmpKind_ne F.cmpSplit_ne (F.cmpArgs_ne _ _) FB.hasObject hx hcl hC ?_
  refine neOwn (A := A.in1) X hu (wpAny_mono hc (fun v s' z => ?_) fun _ _ e => e)
  obtain ⟨r, rfl, hq⟩ := z
  first | exact ⟨r, rfl, wpAny_pure hq⟩ | exact ⟨r, rfl, wpAny_pure (wpAny_pure hq)⟩ | exact ⟨r, rfl, hq⟩
end
section
variable {X : Cx} {σ : L2.St} {H : Hp} {Q : VK} {a C dx : Addr} {fs : List (Str × V)} {k j : Nat} {sp : Sp} {y : V} {T : String}
theorem b_neX (F : EqM X.prog X.w X.K X.mg X.base C k sp) (hr : Room j X.A) (hj : k + 1 ≤ j) (ha : H a = some (.ins C dx fs)) (hy : Kd H y T) (hn : PySem.W.subIn X.K (.type T) (.ref C) = some false) (q : sp [.ref a, y] H (fun v H' => ∃ r, v = .bl r ∧ Q (.bl (!r)) H') E0) :
    WB X (compareOp .NotEq) (.ref a) y σ H Q := by
  obtain ⟨f, c, F⟩ := F.ex
  refine ⟨fun pins s v u I rx ry => ?_⟩
  cases rx
  obtain ⟨mA, O, _⟩ := ins_get I.hok ha
  obtain ⟨od, J, _⟩ := O.look
  obtain ⟨nm, qn, N, bs, hdct, sn, sub, ab, col, dd, k0, k1, k2, k3, k5, newId, oN, es, ep, of, lC, lN, dN, hk, he, hne, lf, cf⟩ := c.ne
  have X1 := I.kIn
  have own : s.heap.OwnEqNoNe a C f "object" [.type "object"] := ⟨_, of, nm, qn, N, bs, hdct, sn, sub, ab, col, dd, k0, k1, k2, k3, k5, newId, fun z => nsFind es z, some (.builtin "object.__eq__"), O.obj, rfl, X1 _ _ lC, ⟨oN, es, ep, X1 _ _ lN, dN, hk, fun _ => rfl⟩, he, X1 _ _ lf, cf, PySem.F.cmp_object.mro, PySem.F.cmp_object.eq.lookup, hne⟩
  have hr1 : Room k X.A.in1 := (hr.mono hj).in1
  have hu : X.A.units + 1 < cLine := by have := hr.un; omega
  have one : wpAny (model X.prog X.w) X.A (tryCompare (.ref a) "__ne__" u) (fun r s' => ∃ v, r = some v ∧ ∃ z H', Inv X pins σ H' s' ∧ RelV z v ∧ Q z H') (fun _ _ => False) s := by
    refine tryNe own hu ?_
    refine wpAny_mono (wpAny_call (codeAny_mono (F X.A.in1 X.stack s H [.ref a, u] [.ref a, y] _ E0 hr1 I.env0.in1 (.cons rfl (.cons ry .nil)) q) fun r s' hq => ?_)) (fun v s' z => z) fun _ _ x => x
    cases r with
    | error er => exact False.elim (passL (X := X.nox) pins σ H s er s' (I.wish _) hq)
    | ok fl =>
      cases fl with
      | ret u =>
        obtain ⟨v, H', I3, rv, r, ev, q3⟩ := I.after hq
        subst ev
        cases rv
        exact ⟨r, rfl, _, rfl, .bl (!r), H', I3, rfl, q3⟩
      | next => exact False.elim hq
      | brk => exact False.elim hq
      | cont => exact False.elim hq
  delta compareOp
  dsimp only
  delta richCompare
  simp only [oneThing_ref]
  refine wpAny_holding (wpAny_bind (wpAny_cRoomFor (by omega) ?_))
  rw [cmpInfo_NotEq]
  dsimp only
  refine wpAny_bind (J.type.here (wpAny_bind ((hy.looks I ry).here ?_)))
  rw [if_pos (show (Value.ref C != Value.type T) = true by simp)]
  refine wpAny_bind ((PySem.W.looks_subIn X1 hn).here ?_)
  simp only [if_false, Bool.false_eq_true]
  refine wpAny_bind (wpAny_mono one (fun r s' z => ?_) fun _ _ e => False.elim e)
  obtain ⟨v, rfl, hq⟩ := z
  exact wpAny_pure hq
end
open He in
def subB (T : String) (x : Str) (K : PySem.W.Frag) : Bool := decide (PySem.W.subIn K (.type T) (.ref (ga K x)) = some false)
end Sv

/-! super().m(..) in the defs of a class: the statements at the running code -/
namespace Sv
open PySem PySem.Spec PyProof.Rows L2

/-! ### at the running code -/
structure WEat (X : Cx) (c : Code) (e : Expr) (σ : L2.St) (H : Hp) (Q : VK) : Prop where
  run : ∀ (pins : List (Addr × Obj)) (s : Shared), Inv X pins σ H s → _root_.PySem.wpAt (model X.prog X.w) X.A c (eval e X.env) (EP X pins σ Q) X.xe s
structure WAat (X : Cx) (c : Code) (es : List Expr) (σ : L2.St) (H : Hp) (Q : List V → Hp → Prop) : Prop where
  run : ∀ (pos : Pos) (pins : List (Addr × Obj)) (s : Shared), Inv X pins σ H s → _root_.PySem.wpAt (model X.prog X.w) X.A c (spliced (backTo pos (starEach es X.env))) (AP X pins σ Q) X.xe s
structure WSat (X : Cx) (c : Code) (st : Stmt) (D : Ends) (σ : L2.St) (H : Hp) : Prop where
  run : ∀ (pins : List (Addr × Obj)) (s : Shared), Inv X pins σ H s → _root_.PySem.wpAt (model X.prog X.w) X.A c (exec st X.env) (SP X pins D) X.xe s
structure WLat (X : Cx) (c : Code) (sts : List Stmt) (D : Ends) (σ : L2.St) (H : Hp) : Prop where
  run : ∀ (pins : List (Addr × Obj)) (s : Shared), Inv X pins σ H s → _root_.PySem.wpAt (model X.prog X.w) X.A c (execs sts X.env) (SP X pins D) X.xe s
section
variable {X : Cx} {c : Code} {e : Expr} {es : List Expr} {st : Stmt} {sts : List Stmt} {D : Ends} {σ : L2.St} {H : Hp} {Q : VK} {pos : Pos}
theorem wla_of (h : WL X sts D σ H) : WLat X c sts D σ H := ⟨fun pins s I => _root_.PySem.wpAt_of_wpAny (h.run pins s I)⟩
theorem wsa_of (h : WS X st D σ H) : WSat X c st D σ H := ⟨fun pins s I => _root_.PySem.wpAt_of_wpAny (h.run pins s I)⟩
theorem wea_of (h : WE X e σ H Q) : WEat X c e σ H Q := ⟨fun pins s I => _root_.PySem.wpAt_of_wpAny (h.run pins s I)⟩
theorem wla_cons (h : WSat X c st { D with nx := fun σ' H' => WLat X c sts D σ' H' } σ H) : WLat X c (st :: sts) D σ H :=
  ⟨fun pins s I => ks_wpAt_execs_cons (ks_wpAt_mono (h.run pins s I) (fun f s1 h1 => by
    cases f with
    | next =>
      obtain ⟨σ', H', I1, q⟩ := h1
      exact q.run pins s1 I1
    | ret v => exact h1
    | brk => exact h1
    | cont => exact h1) fun _ _ z => z)⟩
theorem wsa_expr (h : WEat X c e σ H fun _ H1 => D.nx σ H1) (hi : interactive X.env = false := by with_unfolding_all rfl) (hs : swapsWith e none pos.line X.env = pure false := by with_unfolding_all rfl) : WSat X c (.Expr e pos) D σ H :=
  ⟨fun pins s I => ks_wpAt_Expr_any (ks_wpAt_mono (h.run pins s I) (fun v s1 ⟨x, H1, I1, r, q⟩ => ⟨σ, H1, I1, q⟩) fun _ _ z => z) hi hs⟩
theorem wsa_ret (h : WEat X c e σ H D.rt) : WSat X c (.Return (some e) pos) D σ H :=
  ⟨fun pins s I => ks_wpAt_Return_some (ks_wpAt_mono (h.run pins s I) (fun v s1 ⟨x, H1, I1, r, q⟩ => ⟨x, σ, H1, I1, r, q⟩) fun _ _ z => z)⟩
variable {R : List V → Hp → Prop}
theorem waa_of (h : WA X es σ H R) : WAat X c es σ H R := ⟨fun pos pins s I => _root_.PySem.wpAt_of_wpAny (h.run pos pins s I)⟩
theorem waa_cons (h : WEat X c e σ H fun x H1 => WAat X c es σ H1 fun xs H2 => R (x :: xs) H2) (hs : starEach (e :: es) X.env = (false, eval e X.env) :: starEach es X.env := by with_unfolding_all rfl) : WAat X c (e :: es) σ H R := by
  refine ⟨fun pos pins s I => ?_⟩
  rw [hs]
  show _root_.PySem.wpAt _ _ _ (spliced ((false, eval e X.env) :: backTo pos (starEach es X.env))) _ _ s
  rw [spliced]
  refine _root_.PySem.wpAt_bind (ks_wpAt_mono (h.run pins s I) (fun u s1 ⟨x, H1, I1, r1, q1⟩ => ?_) fun _ _ z => z)
  simp only [Bool.false_eq_true, if_false]
  refine _root_.PySem.wpAt_bind (_root_.PySem.wpAt_of_wpAny (wpAny_pure ?_))
  refine _root_.PySem.wpAt_bind (ks_wpAt_holding (ks_wpAt_mono (q1.run pos pins s1 I1) (fun us s2 ⟨xs, H2, I2, r2, q2⟩ => ?_) fun _ _ z => z))
  exact _root_.PySem.wpAt_of_wpAny (wpAny_pure ⟨x :: xs, H2, I2, .cons r1 r2, q2⟩)
theorem waa_star {p} (h : WEat X c e σ H fun x H1 => ∃ a xs, x = .ref a ∧ (SqT X.K H1 a xs ∨ SqL X.K H1 a xs) ∧ WAat X c es σ H1 fun ys H2 => R (xs ++ ys) H2) (hs : starEach (.Starred e p :: es) X.env = (true, eval e X.env) :: starEach es X.env := by with_unfolding_all rfl) :
    WAat X c (.Starred e p :: es) σ H R := by
  refine ⟨fun pos pins s I => ?_⟩
  rw [hs]
  show _root_.PySem.wpAt _ _ _ (spliced ((true, (do let v ← eval e X.env; standAt pos; pure v)) :: backTo pos (starEach es X.env))) _ _ s
  rw [spliced]
  refine _root_.PySem.wpAt_bind (_root_.PySem.wpAt_bind (ks_wpAt_mono (h.run pins s I) (fun u s1 ⟨x, H1, I1, r1, a, xs, ex, hx, q1⟩ => ?_) fun _ _ z => z))
  refine _root_.PySem.wpAt_bind (_root_.PySem.wpAt_of_wpAny (wpAny_standAt (_root_.PySem.wpAt_of_wpAny (wpAny_pure ?_))))
  subst ex
  obtain rfl : u = Value.ref a := r1
  have S := StX.star_any (E := X.xe) (Q := fun us s' => Inv X pins σ H1 s' ∧ Vals xs us) I1 hx fun us s' I' r => ⟨I', r⟩
  unfold PySem.W.StarOf at S
  simp only [if_true]
  refine _root_.PySem.wpAt_bind (m := notIterableAtAll (Value.ref a)) (_root_.PySem.wpAt_of_wpAny (wpAny_mono S (fun b s2 h2 => ?_) fun _ _ z => z))
  obtain ⟨rfl, h2⟩ := h2
  simp only [Bool.false_eq_true, if_false]
  refine _root_.PySem.wpAt_bind (_root_.PySem.wpAt_of_wpAny (wpAny_mono h2 (fun us s3 ⟨I3, r3⟩ => ?_) fun _ _ z => z))
  refine _root_.PySem.wpAt_bind (ks_wpAt_holding (ks_wpAt_mono (q1.run pos pins s3 I3) (fun ws s4 ⟨ys, H2, I4, r4, q4⟩ => ?_) fun _ _ z => z))
  exact _root_.PySem.wpAt_of_wpAny (wpAny_pure ⟨xs ++ ys, H2, I4, r3.append r4, q4⟩)
theorem wea_tup {k} (h : WAat X c es σ H fun xs H1 => xs.length ≤ sizeLine ∧ ∀ p H2, H1 p = none → Same H1 H2 → H2 p = some (.tup xs) → Q (.ref p) H2) : WEat X c (.Tuple es k pos) σ H Q := by
  refine ⟨fun pins s I => ?_⟩
  rw [arm_eval_Tuple]
  refine _root_.PySem.wpAt_bind (_root_.PySem.wpAt_of_wpAny (wpAny_standAt (_root_.PySem.wpAt_bind (ks_wpAt_mono (h.run pos pins s I) (fun us s1 ⟨xs, H1, I1, r, z, q⟩ => _root_.PySem.wpAt_of_wpAny (wpAny_newTuple ?_ (by rw [← r.length]; exact z))) fun _ _ z => z))))
  have hf : H1 s1.heap.objs.size = none := I1.hok.fresh (Nat.le_refl _)
  refine ⟨.ref s1.heap.objs.size, upd H1 s1.heap.objs.size (.tup xs), I1.laid (t' := s1.toks) (fun b u e => Heap.get?_push_of_some _ e) (Nat.le_refl _) ?_, rfl, newly' (Q := fun p H' => Q (.ref p) H') q _ hf⟩
  exact ⟨z, us, r, ⟨_, Heap.get?_push_size _ rfl, rfl, _, rfl⟩⟩
end

/-! ### what of the text a class must have that super().m is found behind D for an instance of C -/
structure SupF (K : PySem.W.Frag) (C D : Addr) (m : Str) (g : Addr) : Prop where
  isD : (PySem.W.clsIn K D).isSome = true
  sub : PySem.W.mroIn K C (.ref D) = some true
  nx : PySem.W.ks_superIn K C D m = some (some (.ref g))
  ty : PySem.W.typeIn K (.ref g) = some (.type "function")
  fi : PySem.W.fnIn K g = true
  op : PySem.W.nsIn K PySem.cStatics "thirdparty.any" = some none
  nm : (m == ("__class__" : Str)) = false
/-- the running def stands in the class at D, its first parameter is `self` -/
structure SupX (X : Cx) (D : Addr) (me : Str) : Prop where
  ks : X.env.kindOf "super" = some .globalImplicit
  kc : X.env.kindOf "__class__" = some .free
  fn : ∃ (f : Addr) (of : Obj) (fd : FuncData) (ar : Arg), X.env.func = some f ∧ X.K.lookup f = some of ∧ of.data = .func fd ∧ (fd.params.posonlyargs ++ fd.params.args).head? = some ar ∧ ar.arg = me
  code : ∃ (cc : Addr) (oc : Obj) (vs : Array Value) (file : Str) (tf : Tok), X.env.code = .ref cc ∧ X.K.lookup cc = some oc ∧ oc.data = .fields vs ∧ vs[2]? = some (.str file tf) ∧ ((X.prog.main.file : Str) == file) = true
  top : (X.prog.main.scope.names.lookup ("super" : Str)).isSome = false
  cell : ∃ (cc : Addr) (oc : Obj), X.env.cells.lookup ("__class__" : Str) = some cc ∧ X.K.lookup cc = some oc ∧ oc.data = .cell (some (.ref D))
section
variable {X : Cx} {N L S G B : List Str} {pins : List (Addr × Obj)} {σ : L2.St} {H : Hp} {s : Shared} {D C a dx g : Addr} {fs : List (Str × V)} {self m : Str} {p0 p1 : Pos} {body : List Stmt} {whole : Sem Value} {pl : Sem Bool}
/-- super() made, its method bound: a new record of the method, pinned -/
theorem super_bound {Q : Value × List Value → Shared → Prop} {E : Value → Shared → Prop} (c : Nm X N L S G B) (U : SupX X D self) (F : SupF X.K C D m g) (cC : Cls X.K C) (mB : Mb "super" B) (mL : Mb self L) (ha : At N σ self (.ref a)) (ea : H a = some (.ins C dx fs)) (I : Inv X pins σ H s)
    (h : ∀ q s', Inv X ((q, PySem.W.methodObj (.ref g) (.ref a)) :: pins) σ H s' → X.base.get? q = none → Q (.ref q, []) s') :
    _root_.PySem.wpAt (model X.prog X.w) X.A (.func body X.env) (attributeBase (.Call (.Name "super" p0) [] [] p1) m X.env whole) (fun ov s1 => wpAny (model X.prog X.w) X.A (getMethod ov m pl) Q E s1) E s := by
  obtain ⟨f, of, fd, ar, e1, e2, e3, e4, e5⟩ := U.fn
  obtain ⟨cd, oc, vs, file, tf, k1, k2, k3, k4, k5⟩ := U.code
  obtain ⟨cc, oc', j1, j2, j3⟩ := U.cell
  have XK := I.kIn
  obtain ⟨mA, O, _⟩ := ins_get I.hok ea
  obtain ⟨od, J, _⟩ := O.look
  obtain ⟨cdD, hD⟩ := Option.isSome_iff_exists.mp F.isD
  obtain ⟨oD, hD1, hD2⟩ : ∃ oD, s.heap.get? D = some oD ∧ oD.data = .cls cdD := by
    unfold PySem.W.clsIn at hD
    split at hD
    · rename_i c d cd' sl ho
      cases hD
      exact ⟨_, XK _ _ ho, rfl⟩
    · cases hD
  have hmB : X.mg "super" = none := c.blt _ mB.mem
  have hboot : bootBuiltins "super" = some (.type "super") := by decide +kernel
  obtain ⟨mb, h1, h2⟩ := I.mod.blt
  obtain ⟨i, n1, n2⟩ := ha.ix
  obtain ⟨mm, hn, hl⟩ := I.loc
  obtain ⟨vis, _, _⟩ := c.vis self mL.mem
  obtain ⟨u, ru, lk⟩ := hl i self _ (by rw [c.names]; exact n1) n2 vis
  obtain rfl : u = Value.ref a := ru
  refine ks_wpAt_super_base U.ks U.kc F.nm e1 (XK _ _ e2) e3 e4 k1 (XK _ _ k2) k3 k4 k5 U.top ?_
  refine PySem.W.ks_loadName_global I.ok.kind U.ks (Calls.loadGlobal_builtin (by rw [I.ok.glob]; exact I.mod.glob.keeps I.bk) hmB (by rw [I.ok.blt]; exact h1.keeps I.bk) ((h2 "super" (by decide)).trans hboot) ⟨rfl, ?_⟩)
  refine wpAny_loadName_free I.ok.kind U.kc j1 ⟨_, XK _ _ j2, j3⟩ ?_
  rw [e5]
  have go : wpAny (model X.prog X.w) X.A (isType (.ref D)) (fun b s₄ => b = true ∧ wpAny (model X.prog X.w) X.A (call (.type "super") [.ref D, .ref a]) (fun ov s1 => wpAny (model X.prog X.w) X.A (getMethod ov m pl) Q E s1) E s₄) E s := by
    refine ks_wpAny_isType_cls hD1 hD2 ⟨rfl, ?_⟩
    refine ks_wpAny_call_super hD1 hD2 J.at_ J.cls (fun c e => ?_) (PySem.W.looks_mroIn XK F.sub) (fun h' e k => ?_)
    · have z := J.no
      unfold PySem.W.notCls at z
      rw [e] at z
      exact Bool.noConfusion z
    · have I1 : Inv X pins σ H { s with heap := h' } := I.kept (t' := s.toks) k
      have XK1 := I1.kIn
      cases hc : PySem.W.clsIn X.K C with
      | none =>
        have z := F.nx
        unfold PySem.W.ks_superIn at z
        rw [hc] at z
        cases z
      | some cdC =>
        have z := F.nx
        unfold PySem.W.ks_superIn at z
        rw [hc] at z
        obtain ⟨og, hog, hogc⟩ : ∃ og, h'.get? g = some og ∧ og.cls = .type "function" := by
          have ht' : (X.K.lookup g).map (·.cls) = some (.type "function") := F.ty
          cases z : X.K.lookup g with
          | none => rw [z] at ht'; cases ht'
          | some og => rw [z] at ht'; exact ⟨og, XK1 _ _ z, Option.some.inj ht'⟩
        refine ks_wpAny_getMethod_super e (PySem.W.looks_opaque XK1 F.op) (l₀ := cdC.mro) ?_ rfl XK1 z hog hogc (PySem.W.ks_ne XK J hc) F.nm ?_
        · exact fun A Q E s k q => wpAny_bind ((PySem.W.looks_clsIn XK1 hc) A _ E s k (wpAny_pure q))
        · exact h _ _ (ClX.met_new I1) (ClX.base_none I1 (Nat.le_refl _))
  rcases lk with ⟨hk, hm⟩ | ⟨hk, c', hc, hcell⟩
  · exact wpAny_loadName_local I.ok.kind hk hn hm go
  · rcases hk with hk | hk
    · exact wpAny_loadName_cell I.ok.kind hk hc hcell go
    · refine wpAny_loadName_free I.ok.kind hk hc hcell go ?_
      exact (c.vis self mL.mem).2.2
end
section
variable {X : Cx} {N L S G B : List Str} {σ : L2.St} {H : Hp} {Q : VK} {D C a dx g : Addr} {fs : List (Str × V)} {self m : Str} {e : Expr} {es : List Expr} {p0 p1 apos pos : Pos} {body : List Stmt} {k j : Nat} {sp : Sp} {E : XK} {pl : Sem Bool}
/-- super().m(e, ..) -/
theorem wea_super (c : Nm X N L S G B) (U : SupX X D self) (F : SupF X.K C D m g) (cC : Cls X.K C) (G' : FnR X.prog X.w X.K X.mg X.base (L2.CX X.prog X.w) k g sp) (hr : Room j X.A) (hj : k ≤ j) (hx : Passes (L2.CX X.prog X.w) X E) (mB : Mb "super" B) (mL : Mb self L)
    (ha : At N σ self (.ref a)) (ea : H a = some (.ins C dx fs)) (h : WA X (e :: es) σ H fun vs H1 => sp (.ref a :: vs) H1 Q E)
    (hst : starEach (e :: es) X.env = (false, eval e X.env) :: starEach es X.env := by with_unfolding_all rfl) (hpl : (backTo pos (starEach es X.env)).any (·.1) = false := by with_unfolding_all rfl)
    (ht : eval (.Call (.Attribute (.Call (.Name "super" p0) [] [] p1) m apos) (e :: es) [] pos) X.env = (do
      let ov ← attributeBase (.Call (.Name "super" p0) [] [] p1) m X.env (eval (.Call (.Name "super" p0) [] [] p1) X.env)
      standAt apos.atName
      let (f, first) ← holding [ov] (getMethod ov m pl)
      callWith pos f first (backTo pos (starEach (e :: es) X.env)) []) := by with_unfolding_all rfl) : WEat X (.func body X.env) (.Call (.Attribute (.Call (.Name "super" p0) [] [] p1) m apos) (e :: es) [] pos) σ H Q := by
  refine ⟨fun pins s I => ks_wpAt_MethodCall (pl := pl) (super_bound c U F cC mB mL ha ea I fun q s2 I2 hb => ?_) ht⟩
  refine ClX.callwith_cm (C := a) I2 hb F.fi (thn (h.run pos _ s2 I2) fun us s3 ⟨vs, H2, I3, rv, q2⟩ => ⟨⟨ClX.pin_at I3, I3.kIn⟩, ?_⟩) hst hpl
  exact ClX.run_cm (C := a) G' (hr.mono hj) hx I3 rv q2
/-- super().m() -/
theorem wea_super0 (c : Nm X N L S G B) (U : SupX X D self) (F : SupF X.K C D m g) (cC : Cls X.K C) (G' : FnR X.prog X.w X.K X.mg X.base (L2.CX X.prog X.w) k g sp) (hr : Room j X.A) (hj : k ≤ j) (hx : Passes (L2.CX X.prog X.w) X E) (mB : Mb "super" B) (mL : Mb self L)
    (ha : At N σ self (.ref a)) (ea : H a = some (.ins C dx fs)) (h : sp [.ref a] H Q E)
    (ht : eval (.Call (.Attribute (.Call (.Name "super" p0) [] [] p1) m apos) [] [] pos) X.env = (do
      let ov ← attributeBase (.Call (.Name "super" p0) [] [] p1) m X.env (eval (.Call (.Name "super" p0) [] [] p1) X.env)
      standAt apos.atName
      let (f, first) ← holding [ov] (getMethod ov m pl)
      callWith pos f first (backTo pos (starEach [] X.env)) []) := by with_unfolding_all rfl) : WEat X (.func body X.env) (.Call (.Attribute (.Call (.Name "super" p0) [] [] p1) m apos) [] [] pos) σ H Q := by
  refine ⟨fun pins s I => ks_wpAt_MethodCall (pl := pl) (super_bound c U F cC mB mL ha ea I fun q s2 I2 hb => ?_) ht⟩
  exact PySem.W.callWith_M0 (first := []) ⟨ClX.pin_at I2, I2.kIn⟩ F.fi (ClX.run_cm (C := a) (us := []) (vs := []) G' (hr.mono hj) hx I2 .nil h)
end

/-! ### the def -/
/-- a def that says super(), in the class at D -/
structure FunX (P : Program) (K : PySem.W.Frag) (x qual : Str) (params : Arguments) (body : List Stmt) (scope : Scope) (D f : Addr) : Prop where
  ex : ∃ (oc : Value) (od : Option Addr) (kV doc pm : Value) (an : Option Addr) (cda : Addr) (ct : Value) (osl : Array (Option Value)) (cc : Addr) (ocd : Obj) (vs : Array Value) (file : Str) (tf : Tok) (occ : Obj),
    K.lookup f = some ⟨oc, od, .func (PySem.W.ksFn x qual params body scope .none kV doc pm an (.ref cda) ct cc), osl⟩ ∧ PySem.W.codeIn K (.ref cda) qual = true ∧ K.lookup cda = some ocd ∧ ocd.data = .fields vs ∧ vs[2]? = some (.str file tf) ∧
    ((P.main.file : Str) == file) = true ∧ K.lookup cc = some occ ∧ occ.data = .cell (some (.ref D))
  kp : PySem.W.keepIn K (.ref f) = true
/-- the context of its body -/
abbrev xcx (P : Program) (w : World) (K : PySem.W.Frag) (mg : Str → Option Value) (base : Heap) (N : List Str) (x qual : Str) (params : Arguments) (body : List Stmt) (sc : Scope) (f cda cc : Addr) (A : Around) (outer : List Env) (s : Shared) (H : Hp) (E : XK) : Cx :=
  NdefX.ncx (L2.CX P w) P w K mg base N ⟨x, qual, params, body, sc, [("__class__", cc)], cda⟩ f A outer s H E
section
variable {P : Program} {w : World} {K : PySem.W.Frag} {mg : Str → Option Value} {base : Heap} {N ps L G B : List Str} {k : Nat} {x qual : Str} {params : Arguments} {body : List Stmt} {sc : Scope} {f cda cc D : Addr} {sp : Sp}
theorem takes_xcx {A : Around} {outer : List Env} {s : Shared} {H : Hp} {E : XK} : Takes (xcx P w K mg base N x qual params body sc f cda cc A outer s H E) (fun cls d _ H' => E cls d H') := takes_of rfl rfl rfl rfl
theorem owns_xcx {A : Around} {outer : List Env} {s : Shared} {H : Hp} {E : XK} : PassesOwn (model P w) (xcx P w K mg base N x qual params body sc f cda cc A outer s H E).A (xcx P w K mg base N x qual params body sc f cda cc A outer s H E).env (xcx P w K mg base N x qual params body sc f cda cc A outer s H E).xe :=
  passes_of (X := xcx P w K mg base N x qual params body sc f cda cc A outer s H E) rfl
/-- names of such a def: parameters, the class's cell, its own -/
def xscB (N ps L G B : List Str) (sc : Scope) : Bool :=
  NdefX.nscB N ps ["__class__"] sc && (L.all fun x => decide (sc.names.lookup x = some .local) && !(x == ("__debug__" : Str)) && !(x == ("__classdict__" : Str))) && (G.all fun x => gloB sc x && !(x == ("__debug__" : Str)) && decide (x ≠ "__name__")) &&
  (B.all fun x => gloB sc x && !(x == ("__debug__" : Str)) && decide (x ≠ "__name__")) && gloB sc "super"
theorem nm_xcx {A : Around} {outer : List Env} {s : Shared} {H : Hp} {E : XK} (h : xscB N ps L G B sc = true) (hb : ∀ x ∈ B, mg x = none) : Nm (xcx P w K mg base N x qual params body sc f cda cc A outer s H E) N L L G B := by
  unfold xscB at h
  simp only [Bool.and_eq_true, List.all_eq_true, decide_eq_true_eq, Bool.not_eq_true'] at h
  obtain ⟨⟨⟨⟨h0, h8⟩, h9⟩, h10⟩, h11⟩ := h
  have S := NdefX.nscope_by h0
  exact ⟨rfl, S.nd, fun x hx => ⟨.inl (h8 x hx).1.1, (h8 x hx).1.2, (h8 x hx).2⟩, fun x hx => ⟨.inl (h8 x hx).1.1, .inr (h8 x hx).1.1⟩, fun x hx => ⟨gloB_ok (h9 x hx).1.1, (h9 x hx).1.2, (h9 x hx).2⟩, hb, fun x hx => ⟨gloB_ok (h10 x hx).1.1, (h10 x hx).1.2, (h10 x hx).2⟩, rfl⟩
/-- THE RULE for such a def -/
theorem fnr_x {self : Str} (F : FunX P K x qual params body sc D f) (S : xscB N ps L G B sc = true) (htop : (P.main.scope.names.lookup ("super" : Str)).isSome = false) (hself : ((params.posonlyargs ++ params.args).head?.map (·.arg)) = some self)
    (len : ∀ vs H Q E, sp vs H Q E → vs.length = ps.length)
    (hbind : ∀ (kV doc pm : Value) (an : Option Addr) (cdv ct : Value) (cc : Addr) (us : List Value), us.length = ps.length → bindArgs (PySem.W.ksFn x qual params body sc .none kV doc pm an cdv ct cc) ⟨us, []⟩ = pure (ps.zip us))
    (hb : ∀ x ∈ B, mg x = none)
    (hbody : ∀ (cda cc : Addr) (A : Around) (outer : List Env) (s : Shared) (H : Hp) (vs : List V) (Q : VK) (E : XK), Room k (xcx P w K mg base N x qual params body sc f cda cc A outer s H E).A → Nm (xcx P w K mg base N x qual params body sc f cda cc A outer s H E) N L L G B →
      SupX (xcx P w K mg base N x qual params body sc f cda cc A outer s H E) D self → sp vs H Q E →
      WLat (xcx P w K mg base N x qual params body sc f cda cc A outer s H E) (.func body (xcx P w K mg base N x qual params body sc f cda cc A outer s H E).env) body { nx := fun _ H' => Q .non H', rt := Q } (NdefX.startF N vs [none]) H) :
    FnR P w K mg base (L2.CX P w) (k + 1) f sp := by
  intro A outer s H us vs Q E hr e0 r hsp
  obtain ⟨oc, od, kV, doc, pm, an, cda, ct, osl, cc, ocd, cvs, file, tf, occ, lk, hcd, l1, l2, l3, l4, l5, l6⟩ := F.ex
  have S' := S
  unfold xscB at S'
  simp only [Bool.and_eq_true, List.all_eq_true, decide_eq_true_eq, Bool.not_eq_true'] at S'
  obtain ⟨⟨⟨⟨h0, h8⟩, h9⟩, h10⟩, h11⟩ := S'
  have Sc := NdefX.nscope_by h0
  have hl := len _ _ _ _ hsp
  have KX : K.In s.heap := e0.mod.kin.keeps fun b o e => (e0.bs b o e).1
  have KB : K.In base := e0.mod.kin
  have lim : s.heap.NoLimit := e0.mod.nolimit.keeps fun b o e => (e0.bs b o e).1
  refine ks_codeAny_call_defAt hr.depth (KX _ _ lk) rfl lim (PySem.W.codeRec_of KX hcd) rfl (.of_eq (hbind _ _ _ _ _ _ _ us (by rw [← r.length]; exact hl))) Sc.nocell (fun ⟨n, _⟩ hy => Sc.par n (List.of_mem_zip hy).1) (fun h₁ hns kp => ?_) Sc.co Sc.gen Sc.kind
  have C : NdefX.CellsAt [("__class__", cc)] ["__class__"] [none] s.heap H := by
    refine ⟨rfl, fun y c e => ?_, fun y z c e1 e2 => ?_, fun i y e => ?_⟩
    · simp only [List.lookup] at e
      split at e
      · cases e
        exact ⟨(e0.bs _ _ (KB _ _ l5)).2, _, _, KX _ _ l5, l6⟩
      · cases e
    · simp only [List.lookup] at e1 e2
      split at e1
      · rename_i q1
        split at e2
        · rename_i q2
          rw [beq_iff_eq.mp q1, beq_iff_eq.mp q2]
        · cases e2
      · cases e1
    · match i, e with
      | 0, e =>
        cases e
        exact ⟨cc, by simp [List.lookup], fun v z => by simp at z⟩
  have Ix : Inv (xcx P w K mg base N x qual params body sc f cda cc A outer s H E) [] (NdefX.startF N vs [none]) H { s with heap := h₁, toks := s.toks + (ps.zip us).length } := NdefX.inv_startN (fr := ["__class__"]) Sc hr.hd e0 hl r C hns kp
  obtain ⟨ar, har, ear⟩ : ∃ ar, (params.posonlyargs ++ params.args).head? = some ar ∧ ar.arg = self := by
    cases q : (params.posonlyargs ++ params.args).head? with
    | none => rw [q] at hself; cases hself
    | some ar => rw [q] at hself; exact ⟨ar, rfl, Option.some.inj hself⟩
  have U : SupX (xcx P w K mg base N x qual params body sc f cda cc A outer s H E) D self :=
    ⟨gloB_ok h11, Sc.frk _ (by simp), ⟨f, _, _, ar, rfl, lk, rfl, har, ear⟩, ⟨cda, ocd, cvs, file, tf, rfl, l1, l2, l3, l4⟩, htop, ⟨cc, occ, rfl, l5, l6⟩⟩
  refine ks_wpAt_mono ((hbody cda cc A outer s H vs Q E (hr.deeper _) (nm_xcx S hb) U hsp).run [] _ Ix) (fun fl s' hs => ?_) fun e s' hs => hs
  have fin : ∀ {σ' : L2.St} {H' : Hp} {v : V} {u : Value}, Inv (xcx P w K mg base N x qual params body sc f cda cc A outer s H E) [] σ' H' s' → L2.RelV v u → Q v H' → CE outer P w H s Q u s' :=
    fun {σ' H' v u} J rv q => ⟨v, H', J.os, J.bare, J.base, J.hok, rv, q⟩
  cases fl with
  | ret u =>
    obtain ⟨v, σ', H', J, rv, q⟩ := hs
    exact fin J rv q
  | next =>
    obtain ⟨σ', H', J, q⟩ := hs
    exact fin (v := V.non) (u := Value.none) J rfl q
  | brk =>
    obtain ⟨_, _, _, q⟩ := hs
    exact False.elim q
  | cont =>
    obtain ⟨_, _, _, q⟩ := hs
    exact False.elim q
end

/-- a property of the class at C -/
structure PrP (P : Program) (w : World) (K : PySem.W.Frag) (mg : Str → Option Value) (base : Heap) (C : Addr) (m : Str) (sp : Sp) : Prop where
  ex : ∃ p g, PropOf K C m p g ∧ FnR P w K mg base (L2.CX P w) 3 g sp
theorem a_prp {X : Cx} {m : Str} {σ : L2.St} {H : Hp} {Q : VK} {sp : Sp} {j : Nat} {C a dx : Addr} {fs : List (Str × V)} (cC : Cls X.K C) (F : PrP X.prog X.w X.K X.mg X.base C m sp) (hr : Room j X.A) (hj : 4 ≤ j) (ha : H a = some (.ins C dx fs)) (q : sp [.ref a] H Q E0) : WAt X (.ref a) m σ H Q := by
  obtain ⟨p, g, c, F⟩ := F.ex
  exact a_prop (E := E0) cC c F (hr.mono hj) ha q
theorem wla_start {X : Cx} {c : Code} {sts : List Stmt} {D : Ends} {σ σ' : L2.St} {H : Hp} (e : σ = σ') (h : WLat X c sts D σ' H) : WLat X c sts D σ H := e ▸ h
/-! ### facts -/
open He in
/-- a def of the class D: its cell holds D, its code is of the main file, it has no defaults -/
def supB (pf : Str) (D : Str) (a : PySem.W.Frag → Addr) (K : PySem.W.Frag) : Bool := match K.lookup (a K) with
  | some ⟨_, _, .func fd, _⟩ => (match fd.code with
      | .ref cda => (match K.lookup cda with
        | some ⟨_, _, .fields vs, _⟩ => (match vs[2]? with | some (Value.str file _) => pf == file | _ => false)
        | _ => false)
      | _ => false) && ((match fd.closure with
      | [(_, cc)] => (match K.lookup cc with
        | some ⟨_, _, .cell (some (.ref d)), _⟩ => decide (d = ga K D)
        | _ => false)
      | _ => false) && (match fd.defaults with | .none => true | _ => false))
  | _ => false
open He in
theorem funX_ok {P : Program} {K : PySem.W.Frag} {d : DefY} {D : Str} {pf : Str} (hpf : P.main.file = pf) (hcl : d.cells = [("__class__" : Str)]) (e : fnY K (d.at_ K) = d.val ∧ d.ok K = true) (s : supB pf D d.at_ K = true) : FunX P K d.name d.qual d.params d.body d.scope (ga K D) (d.at_ K) := by
  obtain ⟨e, c⟩ := e
  obtain ⟨kp, c2⟩ := ba c
  unfold fnY at e
  unfold supB at s
  cases q : K.lookup (d.at_ K) with
  | none =>
    rw [q] at c2
    cases c2
  | some o =>
    obtain ⟨oc, od, dt, osl⟩ := o
    rw [q] at c2 e s
    cases dt with
    | func fd =>
      obtain ⟨n1, n2, n3, n4, n5, n6, n7, n8, n9, n10, n11, n12, n13, n14, n15⟩ := fd
      have e2 : (some (n1, n2, n3, n4, n5, n6, n7.map (fun p => (p.1, 0)), n15) : FnW) = some (d.name, d.qual, d.params, .stmts d.body, d.scope, mainGlobals, d.cells.map (fun x => (x, 0)), builtinsNs) := e
      rw [hcl] at e2
      simp only [Option.some.injEq, Prod.mk.injEq, List.map_cons, List.map_nil] at e2
      obtain ⟨h1, h2, h3, h4, h5, h6, h7, h8⟩ := e2
      have c3 : (PySem.W.codeIn K n13 d.qual && dflB K n8 (d.dfl.map (Dv.v K))) = true := c2
      obtain ⟨k1, k2⟩ := ba c3
      obtain ⟨s1, s23⟩ := ba s
      obtain ⟨s2, s3⟩ := ba s23
      clear s s23
      dsimp only at s1 s2 s3
      split at s1
      case h_2 => cases s1
      rename_i cda
      split at s1
      case h_2 => cases s1
      rename_i x1 x2 vs x3 qc
      split at s1
      case h_2 => cases s1
      rename_i file tf qv
      split at s2
      case h_2 => cases s2
      rename_i ql nm cc
      split at s2
      case h_2 => cases s2
      rename_i y1 y2 dd y3 qd
      split at s3
      case h_2 => cases s3
      have e4 : dd = ga K D := of_decide_eq_true s2
      subst e4
      have e5 : nm = ("__class__" : Str) := by simpa using h7
      subst h1 h2 h3 h4 h5 h6 h8 e5 hpf
      exact ⟨⟨oc, od, _, _, _, _, cda, _, osl, cc, _, vs, file, tf, _, q, k1, qc, rfl, qv, s1, qd, rfl⟩, kp⟩
    | _ => cases c2
open He in
/-- super().m in a def of the class D, for an instance of C: what stands behind is the def of the class B -/
def supF (C D m B : Str) (K : PySem.W.Frag) : Bool := (PySem.W.clsIn K (ga K D)).isSome && (decide (PySem.W.mroIn K (ga K C) (.ref (ga K D)) = some true) && (decide (PySem.W.ks_superIn K (ga K C) (ga K D) m = some (some (.ref (ma K (ga K B) m)))) &&
  (decide (PySem.W.typeIn K (.ref (ma K (ga K B) m)) = some (.type "function")) && (PySem.W.fnIn K (ma K (ga K B) m) && (decide (PySem.W.nsIn K PySem.cStatics "thirdparty.any" = some none) && !(m == ("__class__" : Str)))))))
open He in
theorem supF_ok {C D m B : Str} {K : PySem.W.Frag} (h : supF C D m B K = true) : SupF K (ga K C) (ga K D) m (ma K (ga K B) m) := by
  obtain ⟨h1, h⟩ := ba h
  obtain ⟨h2, h⟩ := ba h
  obtain ⟨h3, h⟩ := ba h
  obtain ⟨h4, h⟩ := ba h
  obtain ⟨h5, h⟩ := ba h
  obtain ⟨h6, h7⟩ := ba h
  exact ⟨h1, of_decide_eq_true h2, of_decide_eq_true h3, of_decide_eq_true h4, h5, of_decide_eq_true h6, by simpa using h7⟩
open He in
/-- a property of C is that of the class B above it -/
def inhB (C B f : Str) (K : PySem.W.Frag) : Bool := decide (rcA "property" C f K = rcA "property" B f K)
end Sv

namespace Sv
open PySem PySem.Spec PyProof.Rows L2
/-! ### `if` in a generator -/
theorem gws_if {X : Cx} {c : Expr} {a b : List Stmt} {D : GEnds} {ys : List V} {σ : L2.St} {H : Hp} {pos : Pos} (h : WT X c σ H fun t H1 => if t = true then GWL X a D ys σ H1 else GWL X b D ys σ H1) : GWS X (.If c a b pos) D ys σ H := by
  refine ⟨fun A S ip R n s₀ cc fs K J gd lv s g hn k hI => ?_⟩
  obtain ⟨acc, c0, r, I⟩ := hI
  rw [exec_If]
  refine seg_bw (wpAny_standAt ?_)
  refine seg_bw ?_
  rw [g.over]
  refine wpAny_mono (h.run _ s I) (fun t s1 h1 => ?_) fun x s' hx => k.exc n s₀ x s' hx
  obtain ⟨H1, I1, q⟩ := h1
  cases t with
  | true =>
    have q' : GWL X a D ys σ H1 := q
    exact q'.run A S ip R n s₀ cc fs K J gd lv s1 g hn k ⟨acc, c0, r, I1⟩
  | false =>
    have q' : GWL X b D ys σ H1 := q
    exact q'.run A S ip R n s₀ cc fs K J gd lv s1 g hn k ⟨acc, c0, r, I1⟩
/-! ### list(f(..)) of a generator def -/
structure GFt (P : Program) (w : World) (K : PySem.W.Frag) (mg : Str → Option Value) (base : Heap) (x : Str) (k : Nat) (sp : SpG) : Prop where
  ex : ∃ f fd ps, mg x = some (.ref f) ∧ PySem.W.keepIn K (.ref f) = true ∧ GFn P w K mg base k f fd ps sp ∧ Binds K fd ps []
theorem x_listF {X : Cx} {N L S G B : List Str} {e : Expr} {es : List Expr} {x : Str} {k j : Nat} {sp : SpG} {σ : L2.St} {H : Hp} {Q : VK} {p p' pos' pos : Pos} (c : Nm X N L S G B) (mm : Mb "list" B) (mx : Mb x G) (F : GFt X.prog X.w X.K X.mg X.base x k sp) (hr : Room j X.A) (hj : k + 3 ≤ j)
    (h : WA X (e :: es) σ H fun vs H2 => sp vs H2 (fun out H3 => ∀ q, H3 q = none → Q (.ref q) (upd H3 q (.lst out))) E0)
    (hst : starEach (e :: es) X.env = (false, eval e X.env) :: starEach es X.env := by with_unfolding_all rfl) (hpl : (backTo pos' (starEach es X.env)).any (·.1) = false := by with_unfolding_all rfl)
    (he : starEach [.Call (.Name x p') (e :: es) [] pos'] X.env = (false, eval (.Call (.Name x p') (e :: es) [] pos') X.env) :: starEach [] X.env := by with_unfolding_all rfl) :
    WE X (.Call (.Name "list" p) [.Call (.Name x p') (e :: es) [] pos'] [] pos) σ H Q := by
  obtain ⟨f, fd, ps, hm, hk, F, hB⟩ := F.ex
  obtain ⟨ga, gb, gd⟩ := c.glo x mx.mem
  refine (pe_listG (E := E0) (pgen_call (E := E0) F (hr.mono (by omega)) ga hm hk hB .nil pa_w gb hst hpl) passL (fun _ _ _ z => z.elim) (hr.mono hj) (c.bgl _ mm.mem).1 (c.blt _ mm.mem) bt_list (he := he)).w ?_
  refine WA.imp h fun vs H2 q2 => ?_
  rw [List.append_nil]
  exact q2
/-! ### t[::-1] -/
theorem fm_congr {α β : Type} {f g : α → Option β} : ∀ {l : List α}, (∀ x ∈ l, f x = g x) → l.filterMap f = l.filterMap g
  | [], _ => rfl
  | x :: l, h => by
    rw [List.filterMap_cons, List.filterMap_cons, h x List.mem_cons_self, fm_congr fun y hy => h y (List.mem_cons_of_mem _ hy)]
theorem pick_all : ∀ (l : List Value) (n : Nat), l.length = n → (List.range n).filterMap (fun m => l[m]?) = l := by
  intro l
  induction l with
  | nil => intro n h; subst h; rfl
  | cons a l ih =>
    intro n h
    subst h
    rw [List.length_cons, List.range_succ_eq_map, List.filterMap_cons, List.filterMap_map]
    show a :: (List.range l.length).filterMap ((fun m => (a :: l)[m]?) ∘ Nat.succ) = a :: l
    congr 1
    exact (fm_congr fun m _ => rfl).trans (ih l.length rfl)
theorem pick_rev (xs : Array Value) : ((List.range xs.size).filterMap fun (m : Nat) => xs[((xs.size : Int) - 1 + (m : Int) * (-1)).toNat]?).toArray = xs.toList.reverse.toArray := by
  congr 1
  have e1 : (List.range xs.size).filterMap (fun (m : Nat) => xs[((xs.size : Int) - 1 + (m : Int) * (-1)).toNat]?) = (List.range xs.size).filterMap (fun m => xs.toList.reverse[m]?) := by
    refine fm_congr fun m hm => ?_
    have hm := List.mem_range.mp hm
    rw [List.getElem?_reverse (by rw [Array.length_toList]; exact hm), Array.length_toList, Array.getElem?_toList]
    congr 1
    omega
  rw [e1]
  exact pick_all _ _ (by rw [List.length_reverse, Array.length_toList])
section
variable {prog : Program} {w : World} {A : Around} {E : Value → Shared → Prop} {s : Shared}
theorem applied_rev {sl : Addr} {vs : Value} {n : Nat} {Q : Int × Int × Nat → Shared → Prop} (hs : s.heap.IsSliceOf sl .none .none vs) (ps : IsPart vs (some (-1)))
    (h : Q ((n : Int) - 1, -1, n) s) : wpAny (model prog w) A (Builtin.Slice.sliceApplied (.ref sl) (pure (n : Int))) Q E s := by
  obtain ⟨os, hos, hcs, hds⟩ := id hs
  unfold Builtin.Slice.sliceApplied Builtin.Slice.sliceFields
  refine wpAny_bind (wpAny_bind (wpAny_field hos hds (x := .none) rfl (wpAny_bind (wpAny_field hos hds (x := .none) rfl (wpAny_bind (wpAny_field hos hds (x := vs) rfl (wpAny_pure ?_)))))))
  refine wpAny_bind (HT.slicePart_ ps ?_)
  show wpAny _ _ (if ((-1 : Int) == 0) = true then _ else _) _ _ s
  rw [if_neg (by decide)]
  refine wpAny_bind (slicePart_none (wpAny_bind (slicePart_none (wpAny_bind (wpAny_pure ?_)))))
  have e1 : Builtin.Slice.sliceAdjust none none (-1) (n : Int) = ((n : Int) - 1, -1) := by
    unfold Builtin.Slice.sliceAdjust
    rfl
  have e2 : Builtin.Slice.slicePlaces ((n : Int) - 1) (-1) (-1) = n := by
    unfold Builtin.Slice.slicePlaces
    rw [if_neg (by decide)]
    by_cases h0 : n = 0
    · subst h0; rfl
    · rw [if_pos (by omega), show (-(-1) : Int) = 1 from rfl, Int.ediv_one]; omega
  show wpAny _ _ (match Builtin.Slice.sliceAdjust none none (-1) (n : Int) with | (lo, hi) => pure (lo, (-1 : Int), Builtin.Slice.slicePlaces lo hi (-1))) _ _ s
  rw [e1]
  show wpAny _ _ (pure (((n : Int) - 1), (-1 : Int), Builtin.Slice.slicePlaces ((n : Int) - 1) (-1) (-1))) _ _ s
  rw [e2]
  exact wpAny_pure h
theorem getItem_tuple_rev {t sl : Addr} {items : Array Value} {vs : Value} {Q : Value → Shared → Prop} (ht : IsTup s.heap t items) (hs : s.heap.IsSliceOf sl .none .none vs) (ps : IsPart vs (some (-1)))
    (h : Q (.ref s.heap.objs.size) { s with heap := s.heap.push { cls := .type "tuple", data := .seq items.toList.reverse.toArray } })
    (hsz : items.size ≤ sizeLine) : wpAny (model prog w) A (getItem (.ref t) (.ref sl)) Q E s := by
  have htake : sizeOk (.seq items.toList.reverse.toArray) := by
    show (items.toList.reverse.toArray).size ≤ sizeLine
    rw [List.size_toArray, List.length_reverse, Array.length_toList]
    exact hsz
  obtain ⟨os, hos, hcs, hds⟩ := id hs
  have hTs : s.TypeIs (.ref sl) "slice" := ⟨os, hos, hcs⟩
  unfold getItem
  try with_reducible refine wpAny_holding ?_
  first | refine wpAny_bind (wpAny_pure ?_) | skip
  refine wpAny_bind (wpAny_sequenceKey ht.typeIs (by decide) ?_)
  refine wpAny_bind (wpAny_callSpecial?_slot (name := Str.ofString "__getitem__") ht.typeIs PyProof.Rows.slot_tuple_getitem
    (wpAny_call_entry PyProof.Rows.slot_tuple_getitem ht.typeIs entry_tuple_getitem ?_ (args_tuple_getitem _ _)))
  show wpAny _ _ (Builtin.Tuple.tupleItemsOf (.ref t) >>= _) _ _ s
  refine wpAny_bind (tupleItemsOf_ ht ?_)
  refine wpAny_bind (wpAny_typeOf hTs ?_)
  rw [if_pos (by decide)]
  refine wpAny_bind (applied_rev hs ps ?_)
  show wpAny _ _ (if ((items.size : Int) - 1 == 0 && (-1 : Int) == 1 && items.size == items.size) = true then _ else _) _ _ s
  rw [if_neg (by rw [show ((-1 : Int) == 1) = false from rfl, Bool.and_false, Bool.false_and]; decide), pick_rev]
  first
    | exact wpAny_bind (m := Builtin.Tuple.tupleExact _) (wpAny_newObj_type (wpAny_pure ⟨_, rfl, wpAny_pure h⟩) htake)
    | exact wpAny_bind (m := Builtin.Tuple.tupleExact _) (wpAny_newObj_type (wpAny_bind (wpAny_pure (wpAny_pure ⟨_, rfl, wpAny_pure h⟩))) htake)
    | exact wpAny_bind (wpAny_bind (m := Builtin.Tuple.tupleExact _) (wpAny_newObj_type (wpAny_pure (wpAny_pure ⟨_, rfl, wpAny_pure h⟩)) htake))
    | exact wpAny_bind (wpAny_bind (m := Builtin.Tuple.tupleExact _) (wpAny_newObj_type (wpAny_pure ⟨_, rfl, wpAny_pure h⟩) htake))
end
theorem w_revT {X : Cx} {e : Expr} {σ : L2.St} {H : Hp} {Q : VK} {k : Nat} {p1 p2 p3 pos : Pos} (h : WE X e σ H fun x H1 => ∃ a xs, x = .ref a ∧ SqT X.K H1 a xs ∧ ∀ p H', H1 p = none → Same H1 H' → H' p = some (.tup xs.reverse) → Q (.ref p) H') :
    WE X (.Subscript e (.Slice none none (some (.UnaryOp .USub (.Constant (.int 1) k p1) p2)) p3) pos) σ H Q := by
  refine ⟨fun pins s I => ?_⟩
  refine Subscript_ (thn (h.run pins s I) fun v s1 ⟨x, H1, I1, r1, q1⟩ => ?_)
  obtain ⟨a, xs, ex, hx, q⟩ := q1
  subst ex
  cases r1
  have hst : PO X (some (.UnaryOp .USub (.Constant (.int 1) k p1) p2)) (tPart (tUn (rU fun i => .int (-i)) (tC (.int 1)))) := po_some (pe_un un_neg pe_int)
  refine wpAny_Slice (thn (po_none.run pins s1 σ H1 (fun o H2 => o = none ∧ H2 = H1) I1 ⟨rfl, rfl⟩) fun vl s2 ⟨l, H2, I2, pl, el, e2⟩ => ?_)
  subst el e2
  refine thn (po_none.run pins s2 σ H2 (fun o H3 => o = none ∧ H3 = H2) I2 ⟨rfl, rfl⟩) fun vu s3 ⟨u, H3, I3, pu, eu, e3⟩ => ?_
  subst eu e3
  refine thn (hst.run pins s3 σ H3 (fun o H4 => o = some (-1) ∧ H4 = H3) I3 ⟨1, rfl, -1, rfl, rfl, rfl⟩) fun vs s4 ⟨o, H4, I4, ps, eo, e4⟩ => ?_
  subst eo e4
  cases pl
  cases pu
  have I5 : Inv X pins σ H4 { s4 with heap := s4.heap.push { cls := .type "slice", data := .fields #[.none, .none, vs] } } := I4.kept (t' := s4.toks) fun b ob q => Heap.get?_push_of_some _ q
  obtain ⟨its, r, ht, hz⟩ := I5.tuple hx
  have hlen := r.length
  show wpAny (model X.prog X.w) X.A (subscriptTail e (.Slice none none (some (.UnaryOp .USub (.Constant (.int 1) k p1) p2)) p3) (.ref a) (.ref s4.heap.objs.size)) (EP X pins σ Q) X.xe { s4 with heap := s4.heap.push { cls := .type "slice", data := .fields #[.none, .none, vs] } }
  refine tail_any (ops := [.ref a, .ref s4.heap.objs.size]) ht.typeIs PyProof.Rows.slot_tuple_getitem.lookup ?_ (by with_unfolding_all rfl)
  refine getItem_tuple_rev ht (Heap.IsSliceOf.new _ .none .none vs) ps ?_ (by rw [List.size_toArray]; omega)
  have hn := I5.hok.fresh (Nat.le_refl _)
  refine ⟨.ref _, _, I5.laid (t' := s4.toks) (o := .tup xs.reverse) (fun b ob q => Heap.get?_push_of_some _ q) (Nat.le_refl _) ?_, rfl, q _ _ hn (same_new hn) upd_same⟩
  exact ⟨by rw [List.length_reverse]; exact hz, _, r.reverse, _, Heap.get?_push_size _ rfl, rfl, 0, rfl⟩
end Sv

namespace Sv
open PySem PySem.Spec PyProof.Rows L2
/-! ### != of instances of a class that has no __eq__ and no __ne__ of its own -/
structure PlC (K : PySem.W.Frag) (C : Addr) : Prop where
  ex : ∃ (nm q : Str) (N : Addr) (bs : List Value) (hdct : Bool) (sn : List Str) (sub : List Value) (ab : Bool) (col : Option Bool) (dd : Option Addr) (k0 k1 k2 k3 k5 : Option Value) (newId : String) (oN : Obj) (es : Array DictEntry) (ep : Nat),
    K.lookup C = some (excClassObj nm q C N bs [.type "object"] hdct sn sub ab col dd k0 k1 k2 k3 k5 newId) ∧ K.lookup N = some oN ∧ oN.data = .dict es ep ∧ StrKeys es ∧ nsFind es "__eq__" = none ∧ nsFind es "__ne__" = none
open He in
def plcB (C : Str) (K : PySem.W.Frag) : Bool := (match K.lookup (ga K C) with
  | some ⟨.type t, _, .cls cd, sl⟩ => (match sl.toList with | [_, _, _, _, some (.builtin _), _] => true | _ => false) && decide (t = "type") && decide (cd.mro = [.ref (ga K C), .type "object"]) && !cd.hasDel && (match K.lookup cd.ns with
    | some ⟨_, _, .dict es _, _⟩ => (es.toList.all fun e => match e.key with | .str _ _ => true | _ => false) && decide (nsFind es "__eq__" = none) && decide (nsFind es "__ne__" = none)
    | _ => false)
  | _ => false)
open He in
theorem plcB_ok {C : Str} {K : PySem.W.Frag} (h3 : plcB C K = true) : PlC K (ga K C) := by
  unfold plcB at h3
  refine ⟨?_⟩
  split at h3
  · rename_i t dd cd sl q
    obtain ⟨h3, h8⟩ := ba h3
    obtain ⟨h3, h7⟩ := ba h3
    obtain ⟨h3, h6⟩ := ba h3
    obtain ⟨h12, h5⟩ := ba h3
    obtain ⟨sl⟩ := sl
    split at h12
    case h_2 => cases h12
    rename_i k0 k1 k2 k3 nid k5 es
    have es' : sl = [k0, k1, k2, k3, some (.builtin nid), k5] := es
    subst es'
    split at h8
    · rename_i oc od es ep osl qn
      obtain ⟨h8, h11⟩ := ba h8
      obtain ⟨h9, h10⟩ := ba h8
      refine ⟨cd.name, cd.qualname, cd.ns, cd.bases, cd.hasDict, cd.slotNames, cd.subclasses, cd.abstract, cd.collection, dd, k0, k1, k2, k3, k5, nid, _, es, ep, ?_, qn, rfl, ?_, of_decide_eq_true h10, of_decide_eq_true h11⟩
      · rw [q]
        obtain ⟨n1, n2, n3, n4, n5, n6, n7, n8, n9, n10, n11⟩ := cd
        have e1 : n3 = [.ref (ga K C), .type "object"] := of_decide_eq_true h6
        have e2 : n11 = false := by
          have z : (!n11) = true := h7
          simpa using z
        have e3 : t = "type" := of_decide_eq_true h5
        subst e1 e2 e3
        rfl
      · intro e he
        have z := List.all_eq_true.mp h9 e (Array.mem_toList_iff.mpr he)
        split at z
        · rename_i n tk qk
          exact ⟨n, tk, qk⟩
        · cases z
    · cases h8
  · cases h3
section
variable {X : Cx} {N L S G B : List Str} {σ : L2.St} {H : Hp} {Q : VK} {a b C dx dy : Addr} {fs gs : List (Str × V)} {k j : Nat} {sp : Sp} {E : XK} {x : Str} {e f o : Expr} {p pos apos spos : Pos}
theorem PlC.inst {pins : List (Addr × Obj)} {s : Shared} (c : PlC X.K C) (I : Inv X pins σ H s) (ha : H a = some (.ins C dx fs)) : s.heap.CmpInst a C [.type "object"] := by
  obtain ⟨mA, O, _⟩ := ins_get I.hok ha
  obtain ⟨nm, qn, N, bs, hdct, sn, sub, ab, col, dd, k0, k1, k2, k3, k5, newId, oN, es, ep, lC, lN, dN, hk, he, hne⟩ := c.ex
  have X1 := I.kIn
  exact ⟨_, nm, qn, N, bs, hdct, sn, sub, ab, col, dd, k0, k1, k2, k3, k5, newId, fun z => nsFind es z, O.obj, rfl, X1 _ _ lC, ⟨oN, es, ep, X1 _ _ lN, dN, hk, fun _ => rfl⟩, he, hne⟩
theorem b_neObj (c : PlC X.K C) (hu : X.A.units + 1 < cLine) (ha : H a = some (.ins C dx fs)) (hb : H b = some (.ins C dy gs)) (q : Q (.bl (decide (a ≠ b))) H) : WB X (compareOp .NotEq) (.ref a) (.ref b) σ H Q := by
  refine ⟨fun pins s v u I rx ry => ?_⟩
  cases rx
  cases ry
  have ia := c.inst I ha
  have ib := c.inst I hb
  by_cases hab : a = b
  · subst hab
    rw [decide_eq_false (by simp)] at q
    exact compareOp_ne_same PySem.F.cmp_object ia hu ⟨.bl false, H, I, rfl, q⟩
  · rw [decide_eq_true hab] at q
    exact compareOp_ne_other PySem.F.cmp_object PySem.F.cmp_object ia ib hab hu ⟨.bl true, H, I, rfl, q⟩
/-! ### == of a list with the empty list -/
theorem b_eqNil {xs : List V} (hu : X.A.units + 64 < cLine) (ha : H a = some (.lst xs)) (hb : H b = some (.lst [])) (q : Q (.bl (decide (xs = []))) H) : WB X (compareOp .Eq) (.ref a) (.ref b) σ H Q := by
  by_cases hx : xs = []
  · subst hx
    rw [decide_eq_true rfl] at q
    exact (op_eqD hu).w ⟨.list [], .list [], .lst (.inl (.inl ha)) .nil, .lst (.inl (.inl hb)) .nil, by decide +kernel, by decide +kernel, by rw [show PyData.eqv (.list []) (.list []) = true by decide +kernel]; exact q⟩
  · rw [decide_eq_false hx] at q
    refine ⟨fun pins s v u I rx ry => ?_⟩
    cases rx
    cases ry
    obtain ⟨_, its, n, rv, ea⟩ := (show ObjOk X.prog X.w H s.heap a (.lst xs) from I.hok a _ ha)
    obtain ⟨_, its2, n2, rv2, eb⟩ := (show ObjOk X.prog X.w H s.heap b (.lst []) from I.hok b _ hb)
    cases rv2
    have hl := rv.length
    have hne : xs.length ≠ 0 := fun z => hx (List.length_eq_zero_iff.mp z)
    exact P.eq_list_lengths ea eb (by simp; intro z; rw [z] at hl; exact hne hl) (by omega) ⟨.bl false, H, I, rfl, q⟩
/-! ### C( *e) -/
theorem w_makeS (c : Nm X N L S G B) (mm : Mb x G) (hm : X.mg x = some (.ref C)) (F : Mkr X.prog X.w X.K X.mg X.base C k sp) (hr : Room j X.A) (hj : k + 1 ≤ j) (hx : Passes (L2.CX X.prog X.w) X E)
    (h : WE X e σ H fun y H1 => ∃ a xs, y = .ref a ∧ (SqT X.K H1 a xs ∨ SqL X.K H1 a xs) ∧ Made C sp xs H1 Q E)
    (hst : starEach [.Starred e spos] X.env = [(true, eval e X.env)] := by with_unfolding_all rfl) : WE X (.Call (.Name x p) [.Starred e spos] [] pos) σ H Q := by
  have kp := F.ex
  obtain ⟨f, M, _⟩ := kp
  obtain ⟨ga, gb, gd⟩ := c.glo x mm.mem
  refine ⟨fun pins s I => wpAny_Call_Name_kw (ld_glob I ga hm ?_ gb)⟩
  refine PySem.W.callWith_S (first := []) (h₀ := X.base) I.ok.mod.kin M.kp (thn (h.run pins s I) fun v s1 ⟨y, H1, I1, ry, a, xs, ey, hxs, q⟩ => ?_) hst
  subst ey
  obtain rfl : v = Value.ref a := ry
  exact StX.star_any I1 hxs fun us s2 I2 rv => ⟨I2.kIn, run_mkr F hr hj hx I2 rv q⟩
/-! ### len(o) by an own __len__ -/
structure LenM (P : Program) (w : World) (K : PySem.W.Frag) (mg : Str → Option Value) (base : Heap) (C : Addr) (k : Nat) (sp : Sp) : Prop where
  ex : ∃ f, PySem.W.findIn K (.ref C) "__len__" = some (some (.ref f)) ∧ PySem.W.typeIn K (.ref f) = some (.type "function") ∧ FnR P w K mg base (L2.CX P w) k f sp
def lenB (C : Str) (K : PySem.W.Frag) : Bool := He.eqO (PySem.W.findIn K (.ref (He.ga K C)) "__len__") (some (some (.ref (He.ma K (He.ga K C) "__len__")))) && decide (PySem.W.typeIn K (.ref (He.ma K (He.ga K C) "__len__")) = some (.type "function"))
theorem lenB_ok {C : Str} {K : PySem.W.Frag} (h : lenB C K = true) : PySem.W.findIn K (.ref (He.ga K C)) "__len__" = some (some (.ref (He.ma K (He.ga K C) "__len__"))) ∧ PySem.W.typeIn K (.ref (He.ma K (He.ga K C) "__len__")) = some (.type "function") := by
  unfold lenB at h
  rw [Bool.and_eq_true] at h
  exact ⟨He.eqO_ok h.1, of_decide_eq_true h.2⟩
theorem c_lenO (F : LenM X.prog X.w X.K X.mg X.base C k sp) (hr : Room j X.A) (hj : k + 1 ≤ j) (ha : H a = some (.ins C dx fs)) (q : sp [.ref a] H (fun v H' => ∃ n : Nat, v = .int (n : Nat) ∧ n < 16777216 ∧ Q (.int (n : Nat)) H') E0) : WC X (.builtin "len") [.ref a] σ H Q := by
  obtain ⟨f, h1, h2, F⟩ := F.ex
  refine ⟨fun pins s us I r => ?_⟩
  obtain ⟨u, rfl, hu1⟩ := vals1 r
  obtain rfl : u = Value.ref a := hu1
  obtain ⟨mA, O, _⟩ := ins_get I.hok ha
  obtain ⟨od, J, _⟩ := O.look
  refine Calls.call_function_entry kind_len plain_len entry_len (args_len1 _) ?_
  unfold Builtin.«len»
  refine wpAny_bind (m := oneArg "len" _) (wpAny_pure ?_)
  refine wpAny_bind (m := callSpecial? (.ref a) (PySem.Str.ofString "__len__")) (PySem.W.special_fn I.kIn J h1 h2 ?_)
  have hr1 : Room k X.A.in1 := (hr.mono hj).in1
  refine wpAny_mono (wpAny_call (codeAny_mono (F X.A.in1 X.stack s H [.ref a] [.ref a] _ E0 hr1 I.env0.in1 (.cons rfl .nil) q) fun r s' hq => ?_)) (fun v s' z => z) fun _ _ x => x
  cases r with
  | error er => exact False.elim (passL (X := X.nox) pins σ H s er s' (I.wish _) hq)
  | ok fl =>
    cases fl with
    | ret u =>
      obtain ⟨v, H', I3, rv, n, ev, hn, q3⟩ := I.after hq
      subst ev
      obtain ⟨t, rfl⟩ := rv
      refine wpAny_bind (wpAny_holding (wpAny_of_eq (a := ((n : Nat) : Int)) rfl ?_))
      refine wpAny_bind (wpAny_letGo ?_)
      show wpAny _ _ (if ((n : Nat) : Int) < 0 then _ else _) _ _ _
      rw [if_neg (by omega)]
      show wpAny _ _ (if ((n : Nat) : Int) ≥ 2 ^ 63 then _ else _) _ _ _
      rw [if_neg (by omega)]
      exact wpAny_bind (wpAny_mkInt (wpAny_pure ⟨_, rfl, .int _, H', I3.tok _, ⟨_, rfl⟩, q3⟩))
    | next => exact False.elim hq
    | brk => exact False.elim hq
    | cont => exact False.elim hq
theorem x_lenO (c : Nm X N L S G B) (m : Mb "len" B) (F : LenM X.prog X.w X.K X.mg X.base C k sp) (hr : Room j X.A) (hj : k + 1 ≤ j) (h : WE X e σ H fun y H1 => ∃ a dx fs, y = .ref a ∧ H1 a = some (.ins C dx fs) ∧ sp [.ref a] H1 (fun v H' => ∃ n : Nat, v = .int (n : Nat) ∧ n < 16777216 ∧ Q (.int (n : Nat)) H') E0)
    (hs : starEach [e] X.env = (false, eval e X.env) :: starEach [] X.env := by with_unfolding_all rfl) (hpl : (backTo pos (starEach [] X.env)).any (·.1) = false := by with_unfolding_all rfl) : WE X (.Call (.Name "len" p) [e] [] pos) σ H Q :=
  w_callB c m bt_len (wa_cons (WE.imp h fun y H1 ⟨a, dx, fs, ey, ha, q⟩ => wa_nil (by rw [ey]; exact c_lenO F hr hj ha q)) hs) hs hpl
/-! ### d.get(k, x), d[k] = v of an attribute, l.index(x) -/
theorem w_dget2 (hu : X.A.units + 1 < cLine) (h : WE X o σ H fun x H1 => ∃ a, x = .ref a ∧ IsD H1 a ∧ WE X e σ H1 fun y H2 => WE X f σ H2 fun z H3 => ∃ r, DGet H3 a y r ∧ Q (r.getD z) H3)
    (hbase : attributeBase o "get" X.env (eval o X.env) = eval o X.env := by with_unfolding_all rfl)
    (hfew : ((backTo pos (starEach [e, f] X.env)).all (fun x => !x.1) && (backToKw pos (keywordEach [] X.env)).all (fun x => x.1.isSome)
      && decide (([e, f] : List Expr).length + ([] : List Keyword).length + (if ([] : List Keyword).isEmpty then 0 else 1) < 30)) = true := by with_unfolding_all rfl)
    (hline : (apos.endLine == pos.line) = true := by with_unfolding_all rfl) (hs : backTo pos (starEach [e, f] X.env) = [(false, eval e X.env), (false, eval f X.env)] := by with_unfolding_all rfl) : WE X (.Call (.Attribute o "get" apos) [e, f] [] pos) σ H Q :=
  (pe_dget2 hu pe_w pe_w pe_w ⟨hbase, hfew, hline, hs⟩).w h
end
end Sv

namespace Sv
open PySem PySem.Spec PyProof.Rows L2
/-! the text: each def by its place -/
def topS (i : Nat) : Stmt := PySem.Challenge.pw_sieverows_k02_kept_numbers_and_ranks.main.body.getD i (.Pass ⟨0, 0, 0, 0⟩)
abbrev s_InvalidPattern___init__ : Stmt := inClass (topS 3) 0
abbrev s_InvalidNumber___init__ : Stmt := inClass (topS 4) 0
abbrev s_NothingKept___init__ : Stmt := inClass (topS 5) 0
abbrev s_is_integer : Stmt := topS 7
abbrev s_check_number : Stmt := topS 8
abbrev s_least_pattern : Stmt := topS 9
abbrev s_pattern_of : Stmt := topS 10
abbrev s_Sieve___init__ : Stmt := inClass (topS 11) 1
abbrev s_Sieve_is_pattern : Stmt := inClass (topS 11) 2
abbrev s_Sieve_of : Stmt := inClass (topS 11) 4
abbrev s_Sieve_pattern : Stmt := inClass (topS 11) 5
abbrev s_Sieve_period : Stmt := inClass (topS 11) 6
abbrev s_Sieve_is_kept : Stmt := inClass (topS 11) 8
abbrev s_Sieve_nth : Stmt := inClass (topS 11) 9
abbrev s_Sieve_rank : Stmt := inClass (topS 11) 10
abbrev s_Sieve_survivors : Stmt := inClass (topS 11) 11
abbrev s_Sieve___eq__ : Stmt := inClass (topS 11) 12
abbrev s__law_pool : Stmt := topS 13
abbrev s__law_take : Stmt := topS 14
abbrev s__law_pattern : Stmt := topS 15
abbrev s__law_kept : Stmt := topS 16
abbrev s__law_caught : Stmt := topS 17
abbrev s__law_errors_right : Stmt := topS 18
abbrev s_law : Stmt := topS 19
abbrev N_InvalidPattern___init__ : List Str := ["self", "value"]
abbrev L_InvalidPattern___init__ : List Str := ["self", "value"]
abbrev G_InvalidPattern___init__ : List Str := ["SieveError"]
abbrev B_InvalidPattern___init__ : List Str := []
theorem sc_InvalidPattern___init__ : scB N_InvalidPattern___init__ ["self", "value"] L_InvalidPattern___init__ G_InvalidPattern___init__ B_InvalidPattern___init__ (defScope s_InvalidPattern___init__) = true := by decide +kernel
abbrev N_InvalidNumber___init__ : List Str := ["self", "value"]
abbrev L_InvalidNumber___init__ : List Str := ["self", "value"]
abbrev G_InvalidNumber___init__ : List Str := ["SieveError"]
abbrev B_InvalidNumber___init__ : List Str := []
theorem sc_InvalidNumber___init__ : scB N_InvalidNumber___init__ ["self", "value"] L_InvalidNumber___init__ G_InvalidNumber___init__ B_InvalidNumber___init__ (defScope s_InvalidNumber___init__) = true := by decide +kernel
abbrev N_NothingKept___init__ : List Str := ["self", "value"]
abbrev L_NothingKept___init__ : List Str := ["self", "value"]
abbrev G_NothingKept___init__ : List Str := ["SieveError"]
abbrev B_NothingKept___init__ : List Str := []
theorem sc_NothingKept___init__ : scB N_NothingKept___init__ ["self", "value"] L_NothingKept___init__ G_NothingKept___init__ B_NothingKept___init__ (defScope s_NothingKept___init__) = true := by decide +kernel
abbrev N_is_integer : List Str := ["value", "minimum"]
abbrev L_is_integer : List Str := ["value", "minimum"]
abbrev G_is_integer : List Str := []
abbrev B_is_integer : List Str := ["isinstance", "int", "bool"]
theorem sc_is_integer : scB N_is_integer ["value", "minimum"] L_is_integer G_is_integer B_is_integer (defScope s_is_integer) = true := by decide +kernel
abbrev N_check_number : List Str := ["value"]
abbrev L_check_number : List Str := ["value"]
abbrev G_check_number : List Str := ["is_integer", "InvalidNumber"]
abbrev B_check_number : List Str := []
theorem sc_check_number : scB N_check_number ["value"] L_check_number G_check_number B_check_number (defScope s_check_number) = true := by decide +kernel
abbrev N_least_pattern : List Str := ["pattern", "length", "period"]
abbrev L_least_pattern : List Str := ["pattern", "length", "period"]
abbrev G_least_pattern : List Str := []
abbrev B_least_pattern : List Str := ["len", "range"]
theorem sc_least_pattern : scB N_least_pattern ["pattern"] L_least_pattern G_least_pattern B_least_pattern (defScope s_least_pattern) = true := by decide +kernel
abbrev N_pattern_of : List Str := ["kept", "period", "marks", "number"]
abbrev L_pattern_of : List Str := ["kept", "period", "marks"]
abbrev G_pattern_of : List Str := []
abbrev B_pattern_of : List Str := ["set", "range"]
theorem sc_pattern_of : scB N_pattern_of ["kept", "period"] L_pattern_of G_pattern_of B_pattern_of (defScope s_pattern_of) = true := by decide +kernel
abbrev bL_pattern_of_0 : List Str := ["number", "marks"]
abbrev bS_pattern_of_0 : List Str := ["number"]
abbrev bG_pattern_of_0 : List Str := []
abbrev bB_pattern_of_0 : List Str := []
abbrev bO_pattern_of_0 : List (Str × Nat) := [("number", 3)]
abbrev N_Sieve___init__ : List Str := ["self", "pattern", "number", "sign"]
abbrev L_Sieve___init__ : List Str := ["self", "pattern"]
abbrev G_Sieve___init__ : List Str := ["least_pattern", "InvalidPattern", "Sieve"]
abbrev B_Sieve___init__ : List Str := ["enumerate"]
theorem sc_Sieve___init__ : scB N_Sieve___init__ ["self", "pattern"] L_Sieve___init__ G_Sieve___init__ B_Sieve___init__ (defScope s_Sieve___init__) = true := by decide +kernel
abbrev bL_Sieve___init___0 : List Str := ["number", "sign"]
abbrev bS_Sieve___init___0 : List Str := ["number", "sign"]
abbrev bG_Sieve___init___0 : List Str := []
abbrev bB_Sieve___init___0 : List Str := []
abbrev bO_Sieve___init___0 : List (Str × Nat) := [("number", 2), ("sign", 3)]
abbrev N_Sieve_is_pattern : List Str := ["value", "sign"]
abbrev L_Sieve_is_pattern : List Str := ["value"]
abbrev G_Sieve_is_pattern : List Str := ["Sieve"]
abbrev B_Sieve_is_pattern : List Str := ["all", "isinstance", "str", "len"]
theorem sc_Sieve_is_pattern : scB N_Sieve_is_pattern ["value"] L_Sieve_is_pattern G_Sieve_is_pattern B_Sieve_is_pattern (defScope s_Sieve_is_pattern) = true := by decide +kernel
abbrev bL_Sieve_is_pattern_0 : List Str := ["sign"]
abbrev bS_Sieve_is_pattern_0 : List Str := ["sign"]
abbrev bG_Sieve_is_pattern_0 : List Str := []
abbrev bB_Sieve_is_pattern_0 : List Str := []
abbrev bO_Sieve_is_pattern_0 : List (Str × Nat) := [("sign", 1)]
abbrev N_Sieve_of : List Str := ["cls", "period", "numbers", "number"]
abbrev L_Sieve_of : List Str := ["cls", "period", "numbers", "number"]
abbrev G_Sieve_of : List Str := ["InvalidNumber", "check_number", "NothingKept", "pattern_of", "is_integer"]
abbrev B_Sieve_of : List Str := ["len"]
theorem sc_Sieve_of : scB N_Sieve_of ["cls", "period", "numbers"] L_Sieve_of G_Sieve_of B_Sieve_of (defScope s_Sieve_of) = true := by decide +kernel
abbrev bL_Sieve_of_0 : List Str := ["number", "period"]
abbrev bS_Sieve_of_0 : List Str := ["number"]
abbrev bG_Sieve_of_0 : List Str := []
abbrev bB_Sieve_of_0 : List Str := []
abbrev bO_Sieve_of_0 : List (Str × Nat) := [("number", 3)]
abbrev N_Sieve_pattern : List Str := ["self"]
abbrev L_Sieve_pattern : List Str := ["self"]
abbrev G_Sieve_pattern : List Str := []
abbrev B_Sieve_pattern : List Str := []
theorem sc_Sieve_pattern : scB N_Sieve_pattern ["self"] L_Sieve_pattern G_Sieve_pattern B_Sieve_pattern (defScope s_Sieve_pattern) = true := by decide +kernel
abbrev N_Sieve_period : List Str := ["self"]
abbrev L_Sieve_period : List Str := ["self"]
abbrev G_Sieve_period : List Str := []
abbrev B_Sieve_period : List Str := ["len"]
theorem sc_Sieve_period : scB N_Sieve_period ["self"] L_Sieve_period G_Sieve_period B_Sieve_period (defScope s_Sieve_period) = true := by decide +kernel
abbrev N_Sieve_is_kept : List Str := ["self", "value"]
abbrev L_Sieve_is_kept : List Str := ["self", "value"]
abbrev G_Sieve_is_kept : List Str := ["is_integer"]
abbrev B_Sieve_is_kept : List Str := ["len"]
theorem sc_Sieve_is_kept : scB N_Sieve_is_kept ["self", "value"] L_Sieve_is_kept G_Sieve_is_kept B_Sieve_is_kept (defScope s_Sieve_is_kept) = true := by decide +kernel
abbrev N_Sieve_nth : List Str := ["self", "index", "rounds", "place"]
abbrev L_Sieve_nth : List Str := ["self", "index", "rounds", "place"]
abbrev G_Sieve_nth : List Str := ["check_number"]
abbrev B_Sieve_nth : List Str := ["divmod", "len"]
theorem sc_Sieve_nth : scB N_Sieve_nth ["self", "index"] L_Sieve_nth G_Sieve_nth B_Sieve_nth (defScope s_Sieve_nth) = true := by decide +kernel
abbrev N_Sieve_rank : List Str := ["self", "number", "rounds", "place"]
abbrev L_Sieve_rank : List Str := ["self", "number", "rounds", "place"]
abbrev G_Sieve_rank : List Str := ["check_number"]
abbrev B_Sieve_rank : List Str := ["divmod", "len"]
theorem sc_Sieve_rank : scB N_Sieve_rank ["self", "number"] L_Sieve_rank G_Sieve_rank B_Sieve_rank (defScope s_Sieve_rank) = true := by decide +kernel
abbrev N_Sieve_survivors : List Str := ["self", "start", "stop", "index"]
abbrev L_Sieve_survivors : List Str := ["self", "start", "stop", "index"]
abbrev G_Sieve_survivors : List Str := ["check_number"]
abbrev B_Sieve_survivors : List Str := ["range", "max"]
theorem sc_Sieve_survivors : gscB N_Sieve_survivors ["self", "start", "stop"] L_Sieve_survivors G_Sieve_survivors B_Sieve_survivors (defScope s_Sieve_survivors) = true := by decide +kernel
abbrev N_Sieve___eq__ : List Str := ["self", "other"]
abbrev L_Sieve___eq__ : List Str := ["self", "other"]
abbrev G_Sieve___eq__ : List Str := ["Sieve"]
abbrev B_Sieve___eq__ : List Str := ["isinstance"]
theorem sc_Sieve___eq__ : scB N_Sieve___eq__ ["self", "other"] L_Sieve___eq__ G_Sieve___eq__ B_Sieve___eq__ (defScope s_Sieve___eq__) = true := by decide +kernel
abbrev N__law_pool : List Str := ["_law_script", "_law_k", "_law_cell", "_law_mixed"]
abbrev L__law_pool : List Str := ["_law_script", "_law_k", "_law_cell", "_law_mixed"]
abbrev G__law_pool : List Str := []
abbrev B__law_pool : List Str := ["len", "abs", "int"]
theorem sc__law_pool : scB N__law_pool ["_law_script", "_law_k"] L__law_pool G__law_pool B__law_pool (defScope s__law_pool) = true := by decide +kernel
abbrev N__law_take : List Str := ["_law_pool_here", "_law_many", "_law_found"]
abbrev L__law_take : List Str := ["_law_pool_here", "_law_many", "_law_found"]
abbrev G__law_take : List Str := []
abbrev B__law_take : List Str := []
theorem sc__law_take : scB N__law_take ["_law_pool_here", "_law_many"] L__law_take G__law_take B__law_take (defScope s__law_take) = true := by decide +kernel
abbrev N__law_pattern : List Str := ["_law_pool_here", "_law_most", "_law_signs", "_law_text", "_law_at", "_law_length", "_law_way", "_law_turn", "_law_sign"]
abbrev L__law_pattern : List Str := ["_law_pool_here", "_law_most", "_law_signs", "_law_text", "_law_at", "_law_length", "_law_way"]
abbrev G__law_pattern : List Str := ["_law_take"]
abbrev B__law_pattern : List Str := ["len", "range"]
theorem sc__law_pattern : scB N__law_pattern ["_law_pool_here", "_law_most"] L__law_pattern G__law_pattern B__law_pattern (defScope s__law_pattern) = true := by decide +kernel
abbrev bL__law_pattern_0 : List Str := ["_law_pool_here", "_law_way", "_law_turn"]
abbrev bS__law_pattern_0 : List Str := ["_law_turn"]
abbrev bG__law_pattern_0 : List Str := ["_law_take"]
abbrev bB__law_pattern_0 : List Str := []
abbrev bO__law_pattern_0 : List (Str × Nat) := [("_law_turn", 7)]
abbrev bL__law_pattern_1 : List Str := ["_law_sign"]
abbrev bS__law_pattern_1 : List Str := ["_law_sign"]
abbrev bG__law_pattern_1 : List Str := []
abbrev bB__law_pattern_1 : List Str := []
abbrev bO__law_pattern_1 : List (Str × Nat) := [("_law_sign", 8)]
abbrev N__law_kept : List Str := ["_law_pattern_here", "_law_stop", "_law_number"]
abbrev L__law_kept : List Str := ["_law_pattern_here", "_law_stop"]
abbrev G__law_kept : List Str := []
abbrev B__law_kept : List Str := ["range"]
theorem sc__law_kept : scB N__law_kept ["_law_pattern_here", "_law_stop"] L__law_kept G__law_kept B__law_kept (defScope s__law_kept) = true := by decide +kernel
abbrev bL__law_kept_0 : List Str := ["_law_number", "_law_pattern_here"]
abbrev bS__law_kept_0 : List Str := ["_law_number"]
abbrev bG__law_kept_0 : List Str := []
abbrev bB__law_kept_0 : List Str := ["len"]
abbrev bO__law_kept_0 : List (Str × Nat) := [("_law_number", 2)]
abbrev N__law_caught : List Str := ["_law_way", "_law_sieve", "_law_one", "_law_two", "e"]
abbrev L__law_caught : List Str := ["_law_way", "_law_sieve", "_law_one", "_law_two", "e"]
abbrev G__law_caught : List Str := ["InvalidNumber"]
abbrev B__law_caught : List Str := ["list", "repr"]
theorem sc__law_caught : scB N__law_caught ["_law_way", "_law_sieve", "_law_one", "_law_two"] L__law_caught G__law_caught B__law_caught (defScope s__law_caught) = true := by decide +kernel
abbrev N__law_errors_right : List Str := ["_law_sieve", "_law_odd", "_law_way"]
abbrev L__law_errors_right : List Str := ["_law_sieve", "_law_odd"]
abbrev G__law_errors_right : List Str := ["InvalidNumber", "_law_caught"]
abbrev B__law_errors_right : List Str := ["list", "zip", "range", "repr"]
theorem sc__law_errors_right : scB N__law_errors_right ["_law_sieve"] L__law_errors_right G__law_errors_right B__law_errors_right (defScope s__law_errors_right) = true := by decide +kernel
abbrev bL__law_errors_right_0 : List Str := ["_law_way", "_law_sieve", "_law_odd"]
abbrev bS__law_errors_right_0 : List Str := ["_law_way"]
abbrev bG__law_errors_right_0 : List Str := ["_law_caught"]
abbrev bB__law_errors_right_0 : List Str := []
abbrev bO__law_errors_right_0 : List (Str × Nat) := [("_law_way", 2)]
abbrev N_law : List Str := ["_law_script", "_law_k", "_law_pool_here", "_law_text", "_law_signs", "_law_ranks", "_law_turn", "_law_sieve", "_law_kept_here", "_law_start", "_law_stop", "_law_number", "_law_index", "_law_one"]
abbrev L_law : List Str := ["_law_script", "_law_k", "_law_pool_here", "_law_text", "_law_signs", "_law_ranks", "_law_turn", "_law_sieve", "_law_kept_here", "_law_start", "_law_stop"]
abbrev G_law : List Str := ["_law_pool", "_law_pattern", "Sieve", "_law_kept", "_law_errors_right", "_law_take"]
abbrev B_law : List Str := ["range", "max", "min", "repr", "len", "list", "zip"]
theorem sc_law : scB N_law ["_law_script"] L_law G_law B_law (defScope s_law) = true := by decide +kernel
abbrev bL_law_0 : List Str := ["_law_number", "_law_sieve"]
abbrev bS_law_0 : List Str := ["_law_number"]
abbrev bG_law_0 : List Str := []
abbrev bB_law_0 : List Str := []
abbrev bO_law_0 : List (Str × Nat) := [("_law_number", 11)]
abbrev bL_law_1 : List Str := ["_law_number", "_law_kept_here"]
abbrev bS_law_1 : List Str := ["_law_number"]
abbrev bG_law_1 : List Str := []
abbrev bB_law_1 : List Str := []
abbrev bO_law_1 : List (Str × Nat) := [("_law_number", 11)]
abbrev bL_law_2 : List Str := ["_law_index", "_law_sieve"]
abbrev bS_law_2 : List Str := ["_law_index"]
abbrev bG_law_2 : List Str := []
abbrev bB_law_2 : List Str := []
abbrev bO_law_2 : List (Str × Nat) := [("_law_index", 12)]
abbrev bL_law_3 : List Str := ["_law_index", "_law_sieve"]
abbrev bS_law_3 : List Str := ["_law_index"]
abbrev bG_law_3 : List Str := []
abbrev bB_law_3 : List Str := []
abbrev bO_law_3 : List (Str × Nat) := [("_law_index", 12)]
abbrev bL_law_4 : List Str := ["_law_one", "_law_kept_here", "_law_number"]
abbrev bS_law_4 : List Str := ["_law_number"]
abbrev bG_law_4 : List Str := []
abbrev bB_law_4 : List Str := ["len"]
abbrev bO_law_4 : List (Str × Nat) := [("_law_number", 11)]
abbrev bL_law_5 : List Str := ["_law_one", "_law_number"]
abbrev bS_law_5 : List Str := ["_law_one"]
abbrev bG_law_5 : List Str := []
abbrev bB_law_5 : List Str := []
abbrev bO_law_5 : List (Str × Nat) := [("_law_one", 13)]
abbrev bL_law_6 : List Str := ["_law_number", "_law_sieve"]
abbrev bS_law_6 : List Str := ["_law_number"]
abbrev bG_law_6 : List Str := []
abbrev bB_law_6 : List Str := []
abbrev bO_law_6 : List (Str × Nat) := [("_law_number", 11)]
abbrev bL_law_7 : List Str := ["_law_one", "_law_start", "_law_stop"]
abbrev bS_law_7 : List Str := ["_law_one"]
abbrev bG_law_7 : List Str := []
abbrev bB_law_7 : List Str := []
abbrev bO_law_7 : List (Str × Nat) := [("_law_one", 13)]
abbrev bL_law_8 : List Str := ["_law_one"]
abbrev bS_law_8 : List Str := ["_law_one"]
abbrev bG_law_8 : List Str := []
abbrev bB_law_8 : List Str := []
abbrev bO_law_8 : List (Str × Nat) := [("_law_one", 13)]
abbrev BB : List Str := ["isinstance", "int", "bool", "str", "list", "tuple", "set", "len", "range", "enumerate", "zip", "all", "any", "sum", "min", "max", "abs", "divmod", "sorted", "type", "ValueError", "OverflowError", "RuntimeError", "super", "next", "ord", "chr", "repr", "dict"]
def fnL : List DefY := [
  ⟨fun K => He.ma K (He.ga K "InvalidNumber") "__init__", "__init__", "InvalidNumber.__init__", defArgs s_InvalidNumber___init__, defBody s_InvalidNumber___init__, defScope s_InvalidNumber___init__, [], []⟩,
  ⟨fun K => He.ga K "is_integer", "is_integer", "is_integer", defArgs s_is_integer, defBody s_is_integer, defScope s_is_integer, [.int 0], []⟩,
  ⟨fun K => He.ga K "check_number", "check_number", "check_number", defArgs s_check_number, defBody s_check_number, defScope s_check_number, [], []⟩,
  ⟨fun K => He.ga K "least_pattern", "least_pattern", "least_pattern", defArgs s_least_pattern, defBody s_least_pattern, defScope s_least_pattern, [], []⟩,
  ⟨fun K => He.ga K "pattern_of", "pattern_of", "pattern_of", defArgs s_pattern_of, defBody s_pattern_of, defScope s_pattern_of, [], []⟩,
  ⟨fun K => He.ma K (He.ga K "Sieve") "__init__", "__init__", "Sieve.__init__", defArgs s_Sieve___init__, defBody s_Sieve___init__, defScope s_Sieve___init__, [], []⟩,
  ⟨rcA "staticmethod" "Sieve" "is_pattern", "is_pattern", "Sieve.is_pattern", defArgs s_Sieve_is_pattern, defBody s_Sieve_is_pattern, defScope s_Sieve_is_pattern, [], []⟩,
  ⟨rcA "classmethod" "Sieve" "of", "of", "Sieve.of", defArgs s_Sieve_of, defBody s_Sieve_of, defScope s_Sieve_of, [], []⟩,
  ⟨rcA "property" "Sieve" "pattern", "pattern", "Sieve.pattern", defArgs s_Sieve_pattern, defBody s_Sieve_pattern, defScope s_Sieve_pattern, [], []⟩,
  ⟨rcA "property" "Sieve" "period", "period", "Sieve.period", defArgs s_Sieve_period, defBody s_Sieve_period, defScope s_Sieve_period, [], []⟩,
  ⟨fun K => He.ma K (He.ga K "Sieve") "is_kept", "is_kept", "Sieve.is_kept", defArgs s_Sieve_is_kept, defBody s_Sieve_is_kept, defScope s_Sieve_is_kept, [], []⟩,
  ⟨fun K => He.ma K (He.ga K "Sieve") "nth", "nth", "Sieve.nth", defArgs s_Sieve_nth, defBody s_Sieve_nth, defScope s_Sieve_nth, [], []⟩,
  ⟨fun K => He.ma K (He.ga K "Sieve") "rank", "rank", "Sieve.rank", defArgs s_Sieve_rank, defBody s_Sieve_rank, defScope s_Sieve_rank, [], []⟩,
  ⟨fun K => He.ma K (He.ga K "Sieve") "survivors", "survivors", "Sieve.survivors", defArgs s_Sieve_survivors, defBody s_Sieve_survivors, defScope s_Sieve_survivors, [], []⟩,
  ⟨fun K => He.ma K (He.ga K "Sieve") "__eq__", "__eq__", "Sieve.__eq__", defArgs s_Sieve___eq__, defBody s_Sieve___eq__, defScope s_Sieve___eq__, [], []⟩,
  ⟨fun K => He.ga K "_law_pool", "_law_pool", "_law_pool", defArgs s__law_pool, defBody s__law_pool, defScope s__law_pool, [], []⟩,
  ⟨fun K => He.ga K "_law_take", "_law_take", "_law_take", defArgs s__law_take, defBody s__law_take, defScope s__law_take, [], []⟩,
  ⟨fun K => He.ga K "_law_pattern", "_law_pattern", "_law_pattern", defArgs s__law_pattern, defBody s__law_pattern, defScope s__law_pattern, [], []⟩,
  ⟨fun K => He.ga K "_law_kept", "_law_kept", "_law_kept", defArgs s__law_kept, defBody s__law_kept, defScope s__law_kept, [], []⟩,
  ⟨fun K => He.ga K "_law_caught", "_law_caught", "_law_caught", defArgs s__law_caught, defBody s__law_caught, defScope s__law_caught, [], []⟩,
  ⟨fun K => He.ga K "_law_errors_right", "_law_errors_right", "_law_errors_right", defArgs s__law_errors_right, defBody s__law_errors_right, defScope s__law_errors_right, [], []⟩,
  ⟨fun K => He.ga K "law", "law", "law", defArgs s_law, defBody s_law, defScope s_law, [], []⟩]
def fs1 : List (PySem.W.Frag → Bool) := [
  fun K => (He.Fa.glo "SieveError").ok K,
  fun K => (He.Fa.glo "is_integer").ok K,
  fun K => (He.Fa.glo "InvalidNumber").ok K,
  fun K => (He.Fa.glo "least_pattern").ok K,
  fun K => (He.Fa.glo "InvalidPattern").ok K,
  fun K => (He.Fa.glo "Sieve").ok K,
  fun K => (He.Fa.glo "check_number").ok K,
  fun K => (He.Fa.glo "NothingKept").ok K,
  fun K => (He.Fa.glo "pattern_of").ok K,
  fun K => (He.Fa.glo "_law_take").ok K,
  fun K => (He.Fa.glo "_law_caught").ok K,
  fun K => (He.Fa.glo "_law_pool").ok K,
  fun K => (He.Fa.glo "_law_pattern").ok K,
  fun K => (He.Fa.glo "_law_kept").ok K,
  fun K => (He.Fa.glo "_law_errors_right").ok K,
  fun K => (He.Fa.glo "law").ok K,
  fun K => (He.Fa.cls "Sieve").ok K,
  fun K => (He.Fa.mkr "Sieve").ok K,
  creadB "Sieve",
  tyB "Sieve",
  fun K => (He.Fa.noat "Sieve" "text").ok K,
  fun K => (He.Fa.noat "Sieve" "marks").ok K,
  getB "Sieve" "is_pattern" "staticmethod" "staticmethod.__get__",
  keepB (rcA "staticmethod" "Sieve" "is_pattern"),
  getB "Sieve" "of" "classmethod" "classmethod.__get__",
  keepB (rcA "classmethod" "Sieve" "of"),
  fnInB (rcA "classmethod" "Sieve" "of"),
  propB "Sieve" "pattern",
  propB "Sieve" "period",
  fun K => (He.Fa.meth "Sieve" "is_kept").ok K,
  fun K => (He.Fa.meth "Sieve" "nth").ok K,
  fun K => (He.Fa.meth "Sieve" "rank").ok K,
  fun K => (He.Fa.meth "Sieve" "survivors").ok K,
  eqcB "Sieve",
  cvalB "Sieve" "LONGEST" (.int 10000),
  fun K => (He.Fa.keep "SieveError").ok K,
  fun K => (He.Fa.keep "NothingKept").ok K,
  fun K => (He.Fa.keep "InvalidNumber").ok K,
  fun K => (He.Fa.keep "InvalidPattern").ok K,
  kitC (fun K => .ref (He.ga K "Sieve")) "Sieve" true,
  kitC (fun _ => .type "int") "Sieve" false,
  kitC (fun _ => .type "bool") "Sieve" false,
  kitC (fun _ => .type "str") "Sieve" false,
  kitC (fun _ => .type "NoneType") "Sieve" false,
  kitC (fun _ => .type "list") "Sieve" false,
  kitC (fun _ => .type "tuple") "Sieve" false,
  errB "InvalidNumber" "value",
  excCB "InvalidNumber",
  vbaseB "SieveError",
  creadB "SieveError",
  exmB "InvalidNumber" "InvalidNumber" true,
  kitC (fun K => .ref (He.ga K "InvalidNumber")) "InvalidNumber" true,
  kitC (fun K => .ref (He.ga K "InvalidNumber")) "InvalidPattern" false,
  kitC (fun K => .ref (He.ga K "InvalidNumber")) "NothingKept" false,
  kitC (fun K => .ref (He.ga K "InvalidNumber")) "SieveError" true,
  fun K => decide (PySem.W.subIn K (.ref (He.ga K "InvalidNumber")) (.type "StopIteration") = some false)]
def fsL : List (PySem.W.Frag → Bool) := fs1 ++ BB.map fun x K => (He.Fa.free x).ok K
abbrev RwL : PySem.W.OpenRow := PySem.W.OpenLaw.row PySem.Challenge.rw_sieverows_k02_kept_numbers_and_ranks
/-! the addresses that the globals reach: level by level, the seen ones in one number -/
def newsB : List Addr → Nat → List Addr
  | [], _ => []
  | a :: as, m => match a, m with
    | 0, m => newsB as m
    | a + 1, 0 => (a + 1) :: newsB as (1 <<< (a + 1))
    | a + 1, k + 1 => if Nat.beq (((k + 1) >>> (a + 1)) % 2) 1 then newsB as (k + 1) else (a + 1) :: newsB as ((k + 1) ||| (1 <<< (a + 1)))
def maskB : List Addr → Nat → Nat
  | [], m => m
  | a :: as, m => match m with
    | 0 => maskB as (1 <<< a)
    | k + 1 => maskB as ((k + 1) ||| (1 <<< a))
def refsB (g : Addr → Option Obj) (as : List Addr) : List Addr := as.flatMap fun a => match g a with
  | some o => He.refsD o
  | none => []
def bfsB (g : Addr → Option Obj) : Nat → List Addr → Nat → List Addr
  | 0, fr, _ => fr
  | n + 1, fr, m => fr ++ bfsB g n (newsB (refsB g fr) m) (maskB (newsB (refsB g fr) m) m)
def asB (g : Addr → Option Obj) (n : Nat) : List Addr := bfsB g n [mainGlobals] (1 <<< mainGlobals)
def obsBG (n : Nat) (fs : List (PySem.W.Frag → Bool)) (fn : List DefY) (g : Addr → Option Obj) : AlY := obsY fs fn (He.frG g (PySem.sysModules :: PySem.cStatics :: asB g n))
def hookB (n : Nat) (fs : List (PySem.W.Frag → Bool)) (fn : List DefY) : PySem.W.Hook where
  α := AlY
  obs := fun s => obsBG n fs fn s.heap.get?
  val := fun _ => valY fn
  says := fun _ h => ∃ K : PySem.W.Frag, K.In h ∧ SaysY fs fn K
  of := fun _ _ e => ⟨_, He.frG_in, e⟩
  keeps := fun _ _ _ ⟨K, hK, c⟩ k => ⟨K, PySem.W.Frag.In.keeps hK k, c⟩
theorem obsBG_eq {n : Nat} {fs : List (PySem.W.Frag → Bool)} {fn : List DefY} {g : Addr → Option Obj} {s : Shared} (h : ∀ a, g a = s.heap.get? a) : obsBG n fs fn g = (hookB n fs fn).obs s := by
  have e : g = s.heap.get? := funext h
  rw [e] <;> rfl
abbrev hkL : PySem.W.Hook := hookB 6 fsL fnL
def obL (s : PySem.W.SharedT) : He.AlD := obsBG 6 fsL fnL (HandSHeadRun.getT s)
theorem obL_eq (s : PySem.W.SharedT) : obL s = hkL.obs s.abs := obsBG_eq (HandSHeadRun.getT_eq s)
--@run
open HandSHeadRun PySem.W PySem.Calls in
def RunA (r : PySem.W.OpenRow) (M : Nat) (w : World) : Prop := ∀ os : OsState, (endF (stepQ (denQ tabQ) r.prog w) M r.prog w os).map (fun s => looksF r.prog (boot_heap w.params) s.abs) = some true
open HandSHeadRun PySem.W PySem.Calls in
def RunB (r : PySem.W.OpenRow) (q : Program) (M : Nat) (loose : List PySem.Str) (w : World) : Prop := ∀ os : OsState, (endF (stepQ (denQ tabQ) r.prog w) M r.prog w os).map (fun s => seenQ q loose (importedModules r.prog.main.body) (fun s => xlAt q [] s && recOk r.toRowW.records s) s.abs) = some (openGood q loose)
open HandSHeadRun PySem.W PySem.Calls in
def RunC (r : PySem.W.OpenRow) (H : PySem.W.Hook) (ob : PySem.W.SharedT → H.α) (M : Nat) (w : World) : Prop := ∀ os : OsState, (endF (stepQ (denQ tabQ) r.prog w) M r.prog w os).map ob = some (H.val w)
open HandSHeadRun PySem.W PySem.Calls in
theorem runEq_of {r : PySem.W.OpenRow} {q : Program} {H : PySem.W.Hook} {ob : PySem.W.SharedT → H.α} {M : Nat} {loose : List PySem.Str} {w : World} (a : RunA r M w) (b : RunB r q M loose w) (c : RunC r H ob M w) : RunEq r q H ob M loose w := fun os => by
  obtain ⟨s, hs, ha⟩ := Option.map_eq_some_iff.mp (a os)
  have hb := b os
  have hc := c os
  rw [hs] at hb hc ⊢
  exact congrArg some (Prod.ext ha (Prod.ext (Option.some.inj hb) (Option.some.inj hc)))
theorem runLc (w : World) : RunC RwL hkL obL 20000 w := by
  intro os
  kernel_rfl
theorem runLa (w : World) : RunA RwL 20000 w := by
  intro os
  kernel_rfl
theorem runLb (w : World) : RunB RwL (PySem.W.view RwL.prog [19]) 20000 ["_wall", "SieveError", "InvalidPattern", "InvalidNumber", "NothingKept", "is_integer", "check_number", "least_pattern", "pattern_of", "Sieve", "_law_pool", "_law_take", "_law_pattern", "_law_kept", "_law_caught", "_law_errors_right"] w := by
  intro os
  kernel_rfl
theorem runL (w : World) : HandSHeadRun.RunEq RwL (PySem.W.view RwL.prog [19]) hkL obL 20000 ["_wall", "SieveError", "InvalidPattern", "InvalidNumber", "NothingKept", "is_integer", "check_number", "least_pattern", "pattern_of", "Sieve", "_law_pool", "_law_take", "_law_pattern", "_law_kept", "_law_caught", "_law_errors_right"] w := runEq_of (runLa w) (runLb w) (runLc w)
--@endrun
end Sv
/-! ranges of any whole numbers -/
namespace Sv
open PySem PySem.Spec PyProof.Rows L2
theorem turn_long {P : Program} {w : World} {K : PySem.W.Frag} {tg : Expr} (it : Addr) (lo : Int) (n : Nat) : Turn P w K tg (Itr lo n) [it] it (fun i h => IsLongIter h it (lo + (i : Nat) * 1) ((n : Int) - (i : Nat)) 1) where
  mem := by simp
  obj := fun i h st b hb => by
    have e : b = it := by simpa using hb
    subst e
    exact ⟨_, st, fun v z => by
      have z' : Data.fields _ = Data.cell v := z
      cases z'⟩
  keep := fun i h h' st k => k it (by simp) _ st
  item := by
    intro X hP hw hK hc i pins s σ H E I hf st hg
    subst hP hw hK
    obtain ⟨f0, f1, f2, f3, f4, f5⟩ := hf it (by simp)
    have W := Walks.longrange (prog := X.prog) (w := X.w) (I.ok.hd hc) it lo 1 n
    refine W.item i s _ _ hg st fun v h' tk hv st' kk => ?_
    obtain ⟨t, rfl⟩ := hv
    have I1 : Inv X pins σ H { s with heap := h', toks := tk } := I.turned (fun b o hb e => kk b o (by simpa using hb) e) f0 f1 f3 f4 f5
    refine ⟨_, rfl, go_of (s := { s with heap := h', toks := tk }) (n := "longrange_iterator") st' rfl rfl (by decide) ⟨.int (lo + i), H, I1, ⟨t, ?_⟩, ⟨rfl, rfl⟩, st', fun b hb => (hf b hb).1⟩⟩
    rw [Int.mul_one]
  done := by
    intro X hP hw hK hc i pins s σ H E I hf st hg
    subst hP hw hK
    obtain ⟨f0, f1, f2, f3, f4, f5⟩ := hf it (by simp)
    exact wpAny_pyNext_long_end (I.ok.hd hc) st (by have : n ≤ i := hg; omega) fun h' eb => ⟨rfl, I.turned (t' := s.toks) (fun b o hb e => eb b o hb e) f0 f1 f3 f4 f5⟩
  self := fun _ _ _ _ _ st h => wpAny_pyIter_longiter st h
section
variable {X : Cx} {tg : Expr} {N L S G B : List Str} {a b : Expr} {σ : L2.St} {H : Hp}
theorem range_itB {pins : List (Addr × Obj)} {σ : L2.St} {H : Hp} {s : Shared} {R : It → Hp → Prop} {E : Value → Shared → Prop} {lo hi : Int} {t u v : Tok} {tk : Nat} (I : Inv X pins σ H s)
    (q : R (Itr lo (hi - lo).toNat) H) : wpAny (model X.prog X.w) X.A (pyIter (.ref s.heap.objs.size)) (PIE X pins σ tg R) E { s with heap := s.heap.push { cls := .type "range", data := .fields #[.int lo t, .int hi u, .int 1 v] }, toks := tk } := by
  have I1 : Inv X pins σ H { s with heap := s.heap.push { cls := .type "range", data := .fields #[.int lo t, .int hi u, .int 1 v] }, toks := tk } := I.kept fun b o e => Heap.get?_push_of_some _ e
  have e1 : lo + ((0 : Nat) : Int) * 1 = lo := by simp
  have e2 : (((hi - lo).toNat : Nat) : Int) - ((0 : Nat) : Int) = Builtin.Range.rangeSize lo hi 1 := by rw [rangeSize_one]; split <;> omega
  have fpq : ∀ b ∈ [(s.heap.push { cls := .type "range", data := .fields #[.int lo t, .int hi u, .int 1 v] }).objs.size], FpOk X pins H b := fun b hb => by
    have e : b = (s.heap.push { cls := .type "range", data := .fields #[.int lo t, .int hi u, .int 1 v] }).objs.size := by simpa using hb
    subst e
    exact I1.fpOk (Nat.le_refl _) (I1.hok.fresh (Nat.le_refl _))
  cases hs : Builtin.Range.small lo hi 1 with
  | true =>
    refine wpAny_pyIter_range (IsRange.new ..) hs ?_
    refine ⟨(s.heap.push { cls := .type "range", data := .fields #[.int lo t, .int hi u, .int 1 v] }).objs.size, [(s.heap.push { cls := .type "range", data := .fields #[.int lo t, .int hi u, .int 1 v] }).objs.size], _, _, H, rfl,
      I1.kept (t' := tk) fun b o e => Heap.get?_push_of_some _ e, turn_range _ lo (hi - lo).toNat, ?_, fpq, q⟩
    show IsRangeIter _ _ (lo + ((0 : Nat) : Int) * 1) ((((hi - lo).toNat : Nat) : Int) - ((0 : Nat) : Int)) 1
    rw [e1, e2]
    exact Heap.get?_push_size _ rfl
  | false =>
    refine wpAny_pyIter_longrange (IsRange.new ..) hs ?_
    refine ⟨(s.heap.push { cls := .type "range", data := .fields #[.int lo t, .int hi u, .int 1 v] }).objs.size, [(s.heap.push { cls := .type "range", data := .fields #[.int lo t, .int hi u, .int 1 v] }).objs.size], _, _, H, rfl,
      I1.kept (t' := tk) fun b o e => Heap.get?_push_of_some _ e, turn_long _ lo (hi - lo).toNat, ?_, fpq, q⟩
    show IsLongIter _ _ (lo + ((0 : Nat) : Int) * 1) ((((hi - lo).toNat : Nat) : Int) - ((0 : Nat) : Int)) 1
    rw [e1, e2]
    exact Heap.get?_push_size _ rfl
def iRng2B (ta : TA) : TI := fun σ H R => ta σ H fun vs H1 => ∃ i j : Int, vs = [.int i, .int j] ∧ R (Itr i (j - i).toNat) H1
theorem pi_range2B {ta : TA} {p pos : Pos} (hg : Gl X "range") (hm : X.mg "range" = none) (ha : PA X [a, b] ta) (hs : starEach [a, b] X.env = [(false, eval a X.env), (false, eval b X.env)] := by rfl) (hs2 : starEach [b] X.env = [(false, eval b X.env)] := by rfl) :
    PI X tg (.Call (.Name "range" p) [a, b] [] pos) (iRng2B ta) := by
  refine ⟨fun pins s σ H R I h => ?_⟩
  refine Call_ (ld_blt I hg hm boot_range (PyProof.Rows.callWith_type1 (thn (ha.run pos pins s σ H _ I h) fun us s1 ⟨vs, H1, I1, r1, q1⟩ => ?_) (by rw [hs, hs2]) (by rw [hs2]; rfl)))
  obtain ⟨i, j, e, q⟩ := q1
  subst e
  cases r1 with
  | cons r rr =>
    cases rr with
    | cons r' rr =>
      cases rr
      obtain ⟨t, rfl⟩ := r
      obtain ⟨t', rfl⟩ := r'
      exact call_range_2 (range_itB I1 q)
theorem wi_range2B {R : It → Hp → Prop} {p pos : Pos} (c : Nm X N L S G B) (m : Mb "range" B) (h : WE X a σ H fun x H1 => WE X b σ H1 fun y H2 => ∃ i j : Int, x = .int i ∧ y = .int j ∧ R (Itr i (j - i).toNat) H2) (hs : starEach [a, b] X.env = [(false, eval a X.env), (false, eval b X.env)] := by with_unfolding_all rfl) (hs2 : starEach [b] X.env = [(false, eval b X.env)] := by with_unfolding_all rfl) :
    WI X tg (.Call (.Name "range" p) [a, b] [] pos) σ H R :=
  (pi_range2B (c.bgl _ m.mem).1 (c.blt _ m.mem) (pa_cons pe_w (pa_cons pe_w pa_nil hs2) (hs.trans (by rw [hs2]))) hs hs2).w (WE.imp h fun x H1 h1 => WE.imp h1 fun y H2 ⟨i, j, e1, e2, h⟩ => ⟨i, j, by rw [e1, e2], h⟩)
end
end Sv

/-! Segments of a generator's run whose protocol carries a ghost: at each sleep the consumer may choose a new one. -/
namespace Sv
open PySem
section
variable {Gh : Type}
abbrev GhR (Gh : Type) := Gh → Nat → Shared → Result → Shared → Prop
abbrev GhY (Gh : Type) := Gh → Nat → Shared → Value → Shared → (Gh → Resume → Shared → Prop) → Prop
def SgE (R : GhR Gh) (Y : GhY Gh) (a : Gh) (n : Nat) (go : Gh → Code → Sem PySem.Fin → List Frame → Shared → Prop) (t0 : Shared) (e : End) (t1 : Shared) : Prop :=
  match e with
  | .ret r => R a n t0 r t1
  | .susp v g l k c p fs => (End.susp v g l k c p fs).quiet = true ∧ Y a (n - 1) t0 v t1 fun b r t2 => go b c (k r) fs t2
def Sg (M : Model) (A : Around) (R : GhR Gh) (Y : GhY Gh) : Nat → Gh → Shared → Code → Sem PySem.Fin → List Frame → Shared → Prop
  | 0 => fun _ _ _ _ _ _ => True
  | n + 1 => fun a t0 c m fs t => ∀ Γ p, Γ.code = c → Γ.Woken A → ∃ e t1, Runs M Γ p m fs t e t1 ∧
      SgE R Y a (n + 1) (fun b c2 m2 fs2 t2 => Sg M A R Y n b t2 c2 m2 fs2 t2) t0 e t1
def Sg.nx (M : Model) (A : Around) (R : GhR Gh) (Y : GhY Gh) (n : Nat) : Gh → Code → Sem PySem.Fin → List Frame → Shared → Prop := fun b c m fs t => Sg M A R Y n b t c m fs t
theorem sg_mk {M : Model} {A : Around} {R : GhR Gh} {Y : GhY Gh} {n : Nat} {a : Gh} {t0 : Shared} {c : Code} {m : Sem PySem.Fin} {fs : List Frame} {t : Shared}
    (h : ∀ k, n = k + 1 → ∀ Γ p, Γ.code = c → Γ.Woken A → ∃ e t1, Runs M Γ p m fs t e t1 ∧ SgE R Y a (k + 1) (Sg.nx M A R Y k) t0 e t1) : Sg M A R Y n a t0 c m fs t := by
  cases n with
  | zero => trivial
  | succ n => exact h n rfl
theorem sg_get {M : Model} {A : Around} {R : GhR Gh} {Y : GhY Gh} {n : Nat} {a : Gh} {t0 : Shared} {c : Code} {m : Sem PySem.Fin} {fs : List Frame} {t : Shared} (h : Sg M A R Y (n + 1) a t0 c m fs t) :
    ∀ Γ p, Γ.code = c → Γ.Woken A → ∃ e t1, Runs M Γ p m fs t e t1 ∧ SgE R Y a (n + 1) (Sg.nx M A R Y n) t0 e t1 := h
section
variable {M : Model} {A : Around} {R : GhR Gh} {Y : GhY Gh} {n : Nat} {a : Gh} {t0 t : Shared} {c : Code} {fs : List Frame}
theorem sg_wrap {α : Type} {m : Sem α} {K : α → Sem PySem.Fin} {J : Value → Sem PySem.Fin} {gd : Bool → Bool} {lv : List Value → List Value}
    (h : wpAny M (A.over c fs) m (fun v t1 => Sg M A R Y n a t0 c (K v) fs t1) (fun x t1 => Sg M A R Y n a t0 c (J x) fs t1) t) :
    Sg M A R Y n a t0 c (m.wrap K J gd lv) fs t := by
  refine sg_mk fun k ek Γ p hc hw => ?_
  subst hc ek
  exact runs_wrap_of_wp K J gd lv m (h (Γ.over fs) p (hw.over fs)) (fun v p2 t1 z => sg_get z Γ p2 rfl hw) fun x p2 t1 z => sg_get z Γ p2 rfl hw
theorem sg_bind {α : Type} {m : Sem α} {K : α → Sem PySem.Fin} (h : wpAny M (A.over c fs) m (fun v t1 => Sg M A R Y n a t0 c (K v) fs t1) (fun x t1 => Sg M A R Y n a t0 c (.raise x) fs t1) t) :
    Sg M A R Y n a t0 c (m >>= K) fs t := by
  rw [Sem.bind_eq_wrap']
  exact sg_wrap h
theorem sg_at {q : Pos} {k : Unit → Sem PySem.Fin} (h : Sg M A R Y n a t0 c (k ()) fs t) : Sg M A R Y n a t0 c (.at q k) fs t :=
  sg_wrap (K := k) (J := .raise) (m := standAt q) (gd := id) (lv := id) (wpAny_standAt h)
theorem sg_point {l : List Value} {k : Unit → Sem PySem.Fin} (h : Sg M A R Y n a t0 c (k ()) fs t) : Sg M A R Y n a t0 c (.point l k) fs t :=
  sg_wrap (K := k) (J := .raise) (m := point) (gd := id) (lv := fun _ => l) (wpAny_point h)
theorem sg_call {c2 : Code} {h0 : Option Value} {g : Bool} {l : List Value} {k : Result → Sem PySem.Fin} (hc : ∀ p, Sg M A R Y n a t0 c2 (M.den c2) (.ret k h0 g l c p [] :: fs) t) : Sg M A R Y n a t0 c (.call c2 h0 g l k) fs t := by
  refine sg_mk fun k0 ek Γ p e hw => ?_
  subst e ek
  obtain ⟨en, t1, h1, h2⟩ := sg_get (hc p) (Γ.goto c2) p rfl (hw.goto c2)
  exact ⟨en, t1, by exact runs_call_seg h1, h2⟩
theorem sg_leaf {k : Result → Sem PySem.Fin} {h0 : Option Value} {g : Bool} {l kp : List Value} {c1 : Code} {p1 : Pos} (r : Result) (hk : Sg M A R Y n a t0 c1 (k r) fs t) : Sg M A R Y n a t0 c (leafOf r) (.ret k h0 g l c1 p1 kp :: fs) t := by
  refine sg_mk fun k0 ek Γ p e hw => ?_
  subst e ek
  obtain ⟨en, t1, h1, h2⟩ := sg_get hk (Γ.goto c1) p1 rfl (hw.goto c1)
  exact ⟨en, t1, by exact Runs.pop r h1, h2⟩
theorem sg_again {c2 : Code} (hq : c2.quiet = true) (hc : Sg M A R Y n a t0 c2 (M.den c2) fs t) : Sg M A R Y n a t0 c (.pure (.again c2)) fs t := by
  refine sg_mk fun k0 ek Γ p e hw => ?_
  subst e ek
  obtain ⟨en, t1, h1, h2⟩ := sg_get hc (Γ.goto c2) p rfl (hw.goto c2)
  exact ⟨en, t1, by exact Runs.head (c₁ := c2) (fun _ _ z => .again hq z) h1, h2⟩
theorem sg_end (r : Result) (h : R a n t0 r t) : Sg M A R Y n a t0 c (leafOf r) [] t := by
  refine sg_mk fun k0 ek Γ p e _ => ?_
  subst e ek
  exact ⟨.ret r, t, Runs.leaf r, h⟩
theorem sg_yield {v : Value} {g : Bool} {l : List Value} {k : Resume → Sem PySem.Fin} (hf : splitAtGen fs = none) (hg : g = false) (hgd : fs.any Frame.guarded = false)
    (h : Y a n t0 v t fun b r t2 => Sg M A R Y n b t2 c (k r) fs t2) : Sg M A R Y (n + 1) a t0 c (.yield v g l k) fs t := by
  intro Γ p e _
  subst e
  refine ⟨_, t, Runs.yield' fs hf, ?_⟩
  exact And.intro (by simp [End.quiet, hg, hgd]) h
theorem sg_bw {α β : Type} {m : Sem α} {k : α → Sem β} {K : β → Sem PySem.Fin} {J : Value → Sem PySem.Fin} {gd : Bool → Bool} {lv : List Value → List Value}
    (h : wpAny M (A.over c fs) m (fun v t1 => Sg M A R Y n a t0 c ((k v).wrap K J gd lv) fs t1) (fun x t1 => Sg M A R Y n a t0 c (J x) fs t1) t) : Sg M A R Y n a t0 c ((m >>= k).wrap K J gd lv) fs t := by
  rw [Sem.bind_eq_wrap', Sem.wrap_wrap]
  exact sg_wrap (wpAny_mono h (fun _ _ z => z) fun _ _ z => z)
theorem sg_nil {env : Env} {K : Flow → Sem PySem.Fin} {J : Value → Sem PySem.Fin} {gd : Bool → Bool} {lv : List Value → List Value} (h : Sg M A R Y n a t0 c (K .next) fs t) : Sg M A R Y n a t0 c ((execs [] env).wrap K J gd lv) fs t := h
theorem sg_cons {env : Env} {K : Flow → Sem PySem.Fin} {J : Value → Sem PySem.Fin} {gd : Bool → Bool} {lv : List Value → List Value} {st : Stmt} {rest : List Stmt}
    (h : Sg M A R Y n a t0 c ((exec st env).wrap (fun f => match f with | .next => (execs rest env).wrap K J gd lv | f => K f) J gd lv) fs t) :
    Sg M A R Y n a t0 c ((execs (st :: rest) env).wrap K J gd lv) fs t := by
  rw [execs_cons_wrap]
  exact h
theorem sg_ExprYield {env : Env} {K : Flow → Sem PySem.Fin} {J : Value → Sem PySem.Fin} {gd : Bool → Bool} {lv : List Value → List Value} {e : Expr} {yp pos : Pos} (hf : splitAtGen fs = none) (hg : gd false = false) (hgd : fs.any Frame.guarded = false)
    (h : wpAny M (A.over c fs) (eval e env) (fun v t1 => ∀ kap : Gh → Resume → Shared → Prop, (∀ b x t2, (match x with | .ref _ => False | _ => Sg M A R Y n b t2 c (K .next) fs t2) → kap b (.send x) t2) → Y a n t0 v t1 kap)
      (fun x t1 => Sg M A R Y (n + 1) a t0 c (J x) fs t1) t) (hco : env.scope.isCoroutine = false) (hi : interactive env = false) :
    Sg M A R Y (n + 1) a t0 c ((exec (.Expr (.Yield (some e) yp) pos) env).wrap K J gd lv) fs t := by
  rw [exec_Expr env _ pos hi rfl]
  show Sg M A R Y (n + 1) a t0 c (.at pos fun _ => ((eval e env >>= fun v => (standAt yp >>= fun _ => yieldOut env v)) >>= fun x => dropValue (.Yield (some e) yp) pos x).wrap K J gd lv) fs t
  have hy : ∀ v, yieldOut env v = yieldValue v := fun v => by
    simp only [yieldOut, hco]
    rfl
  simp only [hy]
  refine sg_at ?_
  rw [Sem.bind_eq_wrap', Sem.bind_eq_wrap', Sem.wrap_wrap, Sem.wrap_wrap]
  refine sg_wrap (wpAny_mono h (fun v t1 z => sg_at (sg_yield hf hg hgd (z _ fun b x t2 hx => ?_))) fun _ _ z => z)
  cases x <;> first | exact hx | exact hx.elim
end
/-- a generator's state goes on under such a protocol -/
def GoesG (M : Model) (A : Around) (R : GhR Gh) (Y : GhY Gh) (n : Nat) (a : Gh) (gs : GenState) (r : Resume) (t : Shared) : Prop :=
  match gs with
  | .fresh c => r = .send .none ∧ Sg M A R Y n a t c (M.den c) [] t
  | .suspended k _ c _ fs _ => Sg M A R Y n a t c (k r) fs t
  | _ => False
theorem wp_resumeG {M : Model} {A : Around} {R : GhR Gh} {Y : GhY Gh} {n : Nat} {a : Gh} {E : Value → Shared → Prop} {t : Shared} {g : Nat} {gs : GenState} {r : Resume} {l : List Value} {α : Type} {k : GenResult → Sem α} {Q : α → Shared → Prop} (hg : t.gens[g]? = some gs)
    (hgo : GoesG M A R Y (n + 1) a gs r (t.setGen g .running)) (hR : ∀ x t1, R a (n + 1) (t.setGen g .running) x t1 → wpAny M A (k (End.ret x).result) Q E (t1.setGen g .finished))
    (hY : ∀ v t1 gs2, gs2.bare = true → (∃ k0 l0 c0 p0 fs0 cl0, gs2 = .suspended k0 l0 c0 p0 fs0 cl0) → Y a n (t.setGen g .running) v t1 (fun b r2 t2 => GoesG M A R Y n b gs2 r2 t2) → wpAny M A (k (.yielded v)) Q E (t1.setGen g gs2)) :
    wpAny M A (.resume g r l k) Q E t := by
  intro Γ p hΓ
  rw [Sem.wp_resume]
  have hw := fun c => hΓ.wake c p
  have fin : ∀ e1 t1, SgE R Y a (n + 1) (Sg.nx M A R Y n) (t.setGen g .running) e1 t1 → Sem.wp M Γ (k e1.result) (fun v _ t2 => Q v t2) (fun e _ t2 => E e t2) p (t1.setGen g e1.genState) ∧ e1.quiet = true := fun e1 t1 he => by
    cases e1 with
    | ret x => exact ⟨hR x t1 he Γ p hΓ, rfl⟩
    | susp v g0 l0 k0 c0 p0 fs0 => exact ⟨hY v t1 _ (End.bare_of_quiet he.1) ⟨_, _, _, _, _, _, rfl⟩ he.2 Γ p hΓ, he.1⟩
  cases gs with
  | fresh c =>
    obtain ⟨rfl, hs⟩ := hgo
    obtain ⟨e1, t1, h1, h2⟩ := sg_get hs (Γ.wake c p) p rfl (hw c)
    obtain ⟨f1, f2⟩ := fin e1 t1 h2
    refine ⟨_, _, ?_, f1⟩
    unfold Wakes
    rw [hg]
    exact ⟨e1, t1, h1, f2, rfl, rfl⟩
  | suspended k0 l0 c0 p0 fs0 cl =>
    obtain ⟨e1, t1, h1, h2⟩ := sg_get hgo (Γ.wake c0 p) p0 rfl (hw c0)
    obtain ⟨f1, f2⟩ := fin e1 t1 h2
    refine ⟨_, _, ?_, f1⟩
    unfold Wakes
    rw [hg]
    exact ⟨e1, t1, h1, f2, rfl, rfl⟩
  | running => exact hgo.elim
  | finished => exact hgo.elim
end
end Sv

/-! A run that succeeds although every sleeping generator is a trap leaves each of them as it is. -/
namespace Sv
open PySem PyProof.Rows L2
def trapK : Resume → Sem PySem.Fin := fun _ => .unsupported "trap"
def trapS : GenState → GenState
  | .suspended _ l c p fs cl => .suspended trapK l c p fs cl
  | x => x
/-- index i sleeps in G -/
def Slp (G : Array GenState) (i : Nat) : Prop := ∃ k l c p fs cl, G[i]? = some (GenState.suspended k l c p fs cl)
def pickS (G : Array GenState) (i : Nat) (x : GenState) : GenState :=
  match G[i]? with
  | some (.suspended k l c p fs cl) => .suspended k l c p fs cl
  | _ => x
theorem pickS_no {G : Array GenState} {i : Nat} {x : GenState} (h : ¬ Slp G i) : pickS G i x = x := by
  unfold pickS
  split
  · rename_i k l c p fs cl e
    exact (h ⟨k, l, c, p, fs, cl, e⟩).elim
  · rfl
def putS (G a : Array GenState) : Array GenState := a.mapIdx fun i x => pickS G i x
theorem putS_size {G a : Array GenState} : (putS G a).size = a.size := by simp [putS]
theorem putS_get {G a : Array GenState} {i : Nat} : (putS G a)[i]? = (a[i]?).map (pickS G i) := by simp [putS]
theorem putS_push {G a : Array GenState} {x : GenState} (h : G.size ≤ a.size) : putS G (a.push x) = (putS G a).push x := by
  apply Array.ext_getElem?
  intro i
  rw [putS_get, Array.getElem?_push, Array.getElem?_push, putS_size, putS_get]
  by_cases hi : i = a.size
  · rw [if_pos hi, if_pos hi]
    have : ¬ Slp G i := fun ⟨k, l, c, p, fs, cl, e⟩ => by
      have := (Array.getElem?_eq_some_iff.mp e).1
      omega
    show some (pickS G i x) = some x
    rw [pickS_no this]
  · rw [if_neg hi, if_neg hi]
theorem putS_set {G a : Array GenState} {g : Nat} {x : GenState} (h : ¬ Slp G g) : putS G (a.setIfInBounds g x) = (putS G a).setIfInBounds g x := by
  apply Array.ext_getElem?
  intro i
  rw [putS_get, Array.getElem?_setIfInBounds, Array.getElem?_setIfInBounds, putS_size, putS_get]
  by_cases hi : g = i
  · subst hi
    rw [if_pos rfl, if_pos rfl]
    by_cases hl : g < a.size
    · simp only [hl, if_true]
      show some (pickS G g x) = some x
      rw [pickS_no h]
    · simp only [hl, if_false]; rfl
  · rw [if_neg hi, if_neg hi]
def lift (G : Array GenState) (s : Shared) : Shared := { s with gens := putS G s.gens }
theorem lift_set {G : Array GenState} {s : Shared} {g : Nat} {x : GenState} (h : ¬ Slp G g) : lift G (s.setGen g x) = (lift G s).setGen g x := by
  show ({ s with gens := putS G (s.gens.setIfInBounds g x) } : Shared) = _
  rw [putS_set h]; rfl
/-- the trapped state -/
structure Trp (G : Array GenState) (s : Shared) : Prop where
  sz : G.size ≤ s.gens.size
  at_ : ∀ (i : Nat) k l c p fs cl, G[i]? = some (GenState.suspended k l c p fs cl) → s.gens[i]? = some (GenState.suspended trapK l c p fs cl)
  fr : ∀ (i : Nat) k l c p fs cl, s.gens[i]? = some (GenState.suspended k l c p fs cl) → Slp G i ∨ PySem.W.noGen fs = true
def endOk : End → Prop
  | .susp _ _ _ _ _ _ fs => PySem.W.noGen fs = true
  | _ => True
theorem Trp.set {G : Array GenState} {s : Shared} {g : Nat} {x : GenState} (t : Trp G s) (h : ¬ Slp G g) (hx : ∀ k l c p fs cl, x = .suspended k l c p fs cl → PySem.W.noGen fs = true) : Trp G (s.setGen g x) := by
  refine ⟨by rw [GenW.setGen_size]; exact t.sz, fun i k l c p fs cl e => ?_, fun i k l c p fs cl e => ?_⟩
  · have : g ≠ i := fun z => h (z ▸ ⟨k, l, c, p, fs, cl, e⟩)
    show (s.gens.setIfInBounds g x)[i]? = _
    rw [Array.getElem?_setIfInBounds_ne this]
    exact t.at_ i k l c p fs cl e
  · have e : (s.gens.setIfInBounds g x)[i]? = some (.suspended k l c p fs cl) := e
    by_cases hi : g = i
    · subst hi
      rw [Array.getElem?_setIfInBounds, if_pos rfl] at e
      split at e
      · exact .inr (hx _ _ _ _ _ _ (Option.some.inj e))
      · cases e
    · rw [Array.getElem?_setIfInBounds_ne hi] at e
      exact t.fr i k l c p fs cl e
theorem Trp.seen {G : Array GenState} {s : Shared} (t : Trp G s) {g : Nat} {st : GenState} (h : s.gens[g]? = some st) : ∃ st', (lift G s).gens[g]? = some st' ∧ st'.seen = st.seen := by
  have e : (lift G s).gens[g]? = some (pickS G g st) := by
    show (putS G s.gens)[g]? = _
    rw [putS_get, h]; rfl
  refine ⟨_, e, ?_⟩
  by_cases hs : Slp G g
  · obtain ⟨k, l, c, p, fs, cl, hk⟩ := hs
    have := t.at_ g k l c p fs cl hk
    rw [h] at this
    cases this
    unfold pickS
    rw [hk]; rfl
  · rw [pickS_no hs]
theorem Trp.same {G : Array GenState} {s : Shared} {g : Nat} {st : GenState} (t : Trp G s) (h : s.gens[g]? = some st) (hn : ¬ Slp G g) : (lift G s).gens[g]? = some st := by
  show (putS G s.gens)[g]? = _
  rw [putS_get, h]
  show some (pickS G g st) = _
  rw [pickS_no hn]
theorem Trp.noS {G : Array GenState} {s : Shared} {g : Nat} {st : GenState} (t : Trp G s) (h : s.gens[g]? = some st) (hs : ∀ l c p fs cl, st ≠ .suspended trapK l c p fs cl) : ¬ Slp G g := fun ⟨k, l, c, p, fs, cl, e⟩ => by
  have := t.at_ g k l c p fs cl e
  rw [h] at this
  exact hs _ _ _ _ _ (Option.some.inj this)
theorem Trp.push {G : Array GenState} {s : Shared} (t : Trp G s) (c : Code) : Trp G { s with gens := s.gens.push (.fresh c) } := by
  refine ⟨Nat.le_trans t.sz (by show s.gens.size ≤ (s.gens.push _).size; rw [Array.size_push]; omega), fun i k l c0 p fs cl e => ?_, fun i k l c0 p fs cl e => ?_⟩
  · show (s.gens.push _)[i]? = _
    have := t.at_ i k l c0 p fs cl e
    have hl := (Array.getElem?_eq_some_iff.mp this).1
    rw [Array.getElem?_push, if_neg (by omega)]
    exact this
  · have e : (s.gens.push (.fresh c))[i]? = some (GenState.suspended k l c0 p fs cl) := e
    rw [Array.getElem?_push] at e
    split at e
    · cases e
    · exact t.fr i k l c0 p fs cl e
theorem lift_gsz {G : Array GenState} {s : Shared} : (lift G s).gens.size = s.gens.size := putS_size
theorem lift_push {G : Array GenState} {s : Shared} (t : Trp G s) {c : Code} : lift G { s with gens := s.gens.push (.fresh c) } = { lift G s with gens := (lift G s).gens.push (.fresh c) } := by
  show ({ s with gens := putS G (s.gens.push (.fresh c)) } : Shared) = { s with gens := (putS G s.gens).push (.fresh c) }
  rw [putS_push t.sz]
theorem no_unsup {M : Model} {Γ : PySem.Ctx} {p : Pos} {t : Sem PySem.Fin} {fs : List Frame} {s s' : Shared} {e : End} (h : Runs M Γ p t fs s e s') : ∀ w, t ≠ .unsupported w := by
  induction h with
  | segRet _ _ ih _ => exact ih
  | segGen _ _ ih _ => exact ih
  | segSuspOut _ _ ih => exact ih
  | segSuspGen _ _ _ _ ih _ => exact ih
  | _ => intro w e; cases e
theorem noGen_app : ∀ {a b : List Frame}, PySem.W.noGen a = true → PySem.W.noGen b = true → PySem.W.noGen (a ++ b) = true
  | [], _, _, h => h
  | .ret .. :: a, b, h, h' => noGen_app (a := a) (show PySem.W.noGen a = true from h) h'
  | .gen .. :: a, b, h, _ => by cases h
theorem runs_fix {G : Array GenState} {M : Model} {Γ : PySem.Ctx} {p : Pos} {t : Sem PySem.Fin} {fs : List Frame} {s s' : Shared} {e : End} (h : Runs M Γ p t fs s e s') :
    Trp G s → PySem.W.noGen fs = true → Trp G s' ∧ endOk e ∧ Runs M Γ p t fs (lift G s) e (lift G s') := by
  induction h with
  | done => exact fun t _ => ⟨t, trivial, .done⟩
  | raise => exact fun t _ => ⟨t, trivial, .raise⟩
  | again q _ ih => exact fun t f => let ⟨a, b, c⟩ := ih t f; ⟨a, b, .again q c⟩
  | rule _ ih => exact fun t f => let ⟨a, b, c⟩ := ih t f; ⟨a, b, .rule c⟩
  | «at» _ ih => exact fun t f => let ⟨a, b, c⟩ := ih t f; ⟨a, b, .at c⟩
  | load q _ ih => exact fun t f => let ⟨a, b, c⟩ := ih t f; ⟨a, b, .load q c⟩
  | update q _ ih => exact fun t f => let ⟨a, b, c⟩ := ih ⟨t.sz, t.at_, t.fr⟩ f; ⟨a, b, .update q c⟩
  | loadIfAlive _ ih => exact fun t f => let ⟨a, b, c⟩ := ih t f; ⟨a, b, .loadIfAlive c⟩
  | point _ ih => exact fun t f => let ⟨a, b, c⟩ := ih t f; ⟨a, b, .point c⟩
  | alloc _ ih => exact fun t f => let ⟨a, b, c⟩ := ih ⟨t.sz, t.at_, t.fr⟩ f; ⟨a, b, .alloc c⟩
  | fresh _ ih => exact fun t f => let ⟨a, b, c⟩ := ih ⟨t.sz, t.at_, t.fr⟩ f; ⟨a, b, .fresh c⟩
  | ask _ ih => exact fun t f => let ⟨a, b, c⟩ := ih t f; ⟨a, b, .ask c⟩
  | choose q _ ih => exact fun t f => let ⟨a, b, c⟩ := ih ⟨t.sz, t.at_, t.fr⟩ f; ⟨a, b, .choose q c⟩
  | os _ ih => exact fun t f => let ⟨a, b, c⟩ := ih ⟨t.sz, t.at_, t.fr⟩ f; ⟨a, b, .os c⟩
  | handled _ ih => exact fun t f => let ⟨a, b, c⟩ := ih t f; ⟨a, b, .handled c⟩
  | genState q _ ih =>
    intro t f
    obtain ⟨a, b, c⟩ := ih t f
    obtain ⟨st', e1, e2⟩ := t.seen q
    exact ⟨a, b, .genState e1 (by rw [e2]; exact c)⟩
  | stack _ ih => exact fun t f => let ⟨a, b, c⟩ := ih t f; ⟨a, b, .stack c⟩
  | thread _ ih => exact fun t f => let ⟨a, b, c⟩ := ih t f; ⟨a, b, .thread c⟩
  | @newGen Γ0 p0 k0 s0 e0 s1 c0 _ ih =>
    intro t f
    obtain ⟨a, b, c⟩ := ih (t.push c0) f
    refine ⟨a, b, .newGen ?_⟩
    rw [lift_push t, ← lift_gsz (G := G)] at c
    exact c
  | call _ _ ih1 ih2 => exact fun t f => let ⟨a, _, c⟩ := ih1 t rfl; let ⟨a2, b2, c2⟩ := ih2 a f; ⟨a2, b2, .call c c2⟩
  | callSusp _ ih => exact fun t f => let ⟨a, b, c⟩ := ih t rfl; ⟨a, noGen_app b rfl, .callSusp c⟩
  | yield => exact fun t _ => ⟨t, rfl, .yield⟩
  | @resumeFresh Γ0 p0 g0 l0 k0 s0 c0 e0 s1 e1 s2 q _ qt _ ih1 ih2 =>
    intro t f
    have hn := t.noS q fun _ _ _ _ _ z => by cases z
    obtain ⟨a, b, rc⟩ := ih1 (t.set hn fun _ _ _ _ _ _ z => by cases z) rfl
    obtain ⟨a2, b2, c2⟩ := ih2 (a.set hn fun k l c p fs cl z => by
      cases e0 with
      | ret r => cases z
      | susp v g1 l1 k1 c1 p1 fs1 =>
        have z : GenState.suspended k1 l1 c1 p1 fs1 (g1 || fs1.any Frame.guarded) = .suspended k l c p fs cl := z
        cases z
        exact b) f
    rw [lift_set hn] at rc c2
    exact ⟨a2, b2, .resumeFresh (t.same q hn) rc qt c2⟩
  | @resumeSuspended Γ0 p0 g0 r0 l0 k0 s0 k1 l1 c1 p1 fs1 cl1 e0 s1 e1 s2 q rn qt _ ih1 ih2 =>
    intro t f
    have hn : ¬ Slp G g0 := fun ⟨k, l, c, p, fs, cl, e⟩ => by
      have := t.at_ g0 k l c p fs cl e
      rw [q] at this
      cases this
      exact no_unsup rn _ rfl
    have hf : PySem.W.noGen fs1 = true := (t.fr _ _ _ _ _ _ _ q).resolve_left hn
    obtain ⟨a, b, rc⟩ := ih1 (t.set hn fun _ _ _ _ _ _ z => by cases z) hf
    obtain ⟨a2, b2, c2⟩ := ih2 (a.set hn fun k l c p fs cl z => by
      cases e0 with
      | ret r => cases z
      | susp v g2 l2 k2 c2 p2 fs2 =>
        have z : GenState.suspended k2 l2 c2 p2 fs2 (g2 || fs2.any Frame.guarded) = .suspended k l c p fs cl := z
        cases z
        exact b) f
    rw [lift_set hn] at rc c2
    exact ⟨a2, b2, .resumeSuspended (t.same q hn) rc qt c2⟩
  | resumeJustStarted q hv _ ih =>
    intro t f
    have hn := t.noS q fun _ _ _ _ _ z => by cases z
    obtain ⟨a, b, c⟩ := ih t f
    exact ⟨a, b, .resumeJustStarted (t.same q hn) hv c⟩
  | resumeThrowFresh q _ ih =>
    intro t f
    have hn := t.noS q fun _ _ _ _ _ z => by cases z
    obtain ⟨a, b, c⟩ := ih (t.set hn fun _ _ _ _ _ _ z => by cases z) f
    rw [lift_set hn] at c
    exact ⟨a, b, .resumeThrowFresh (t.same q hn) c⟩
  | resumeRunning q _ ih =>
    intro t f
    have hn := t.noS q fun _ _ _ _ _ z => by cases z
    obtain ⟨a, b, c⟩ := ih t f
    exact ⟨a, b, .resumeRunning (t.same q hn) c⟩
  | resumeFinished q _ ih =>
    intro t f
    have hn := t.noS q fun _ _ _ _ _ z => by cases z
    obtain ⟨a, b, c⟩ := ih t f
    exact ⟨a, b, .resumeFinished (t.same q hn) c⟩
  | segRet _ _ ih1 ih2 => exact fun t f => let ⟨a, _, c⟩ := ih1 t rfl; let ⟨a2, b2, c2⟩ := ih2 a f; ⟨a2, b2, .segRet c c2⟩
  | segGen _ _ _ _ => exact fun _ f => by cases f
  | segSuspOut q _ ih => exact fun t f => let ⟨a, b, c⟩ := ih t rfl; ⟨a, noGen_app b f, .segSuspOut q c⟩
  | segSuspGen q _ _ _ _ _ => exact fun _ f => by rw [PySem.W.split_noGen f] at q; cases q
theorem wp_fix {G : Array GenState} {α : Type} (M : Model) (Γ : PySem.Ctx) (t : Sem α) : ∀ (Q : α → Pos → Shared → Prop) (E : Value → Pos → Shared → Prop) (p : Pos) (s : Shared), Trp G s → Sem.wp M Γ t Q E p s →
    Sem.wp M Γ t (fun a p' s' => ∃ s1, s' = lift G s1 ∧ Trp G s1 ∧ Q a p' s1) (fun e p' s' => ∃ s1, s' = lift G s1 ∧ Trp G s1 ∧ E e p' s1) p (lift G s) := by
  induction t with
  | pure a => exact fun Q E p s t h => ⟨s, rfl, t, h⟩
  | raise e => exact fun Q E p s t h => ⟨s, rfl, t, h⟩
  | unsupported _ => exact fun Q E p s t h => h
  | finish _ => exact fun Q E p s t h => h
  | rule _ k ih => exact fun Q E p s t h => ih () Q E p s t h
  | «at» p' k ih => exact fun Q E p s t h => ih () Q E p' s t h
  | load a _ k ih => exact fun Q E p s t h => let ⟨o, ho, h⟩ := h; ⟨o, ho, ih o Q E p s t h⟩
  | update a _ f k ih => exact fun Q E p s t h => ⟨h.1, ih () Q E p { s with heap := s.heap.update a f } ⟨t.sz, t.at_, t.fr⟩ h.2⟩
  | loadIfAlive a k ih => exact fun Q E p s t h => ih _ Q E p s t h
  | point _ k ih => exact fun Q E p s t h => ih () Q E p s t h
  | register _ _ => exact fun Q E p s t h => h
  | alloc o k ih => exact fun Q E p s t h => ih _ Q E p { s with heap := s.heap.push o } ⟨t.sz, t.at_, t.fr⟩ h
  | fresh k ih => exact fun Q E p s t h => ih _ Q E p { s with toks := s.toks + 1 } ⟨t.sz, t.at_, t.fr⟩ h
  | ask k ih => exact fun Q E p s t h => ih _ Q E p s t h
  | choose src m k ih => exact fun Q E p s t h => ⟨h.1, ih _ Q E p { s with drawn := s.drawn.bump src } ⟨t.sz, t.at_, t.fr⟩ h.2⟩
  | os q _ k ih => exact fun Q E p s t h => ih _ Q E p { s with os := (Os.step s.os q).1 } ⟨t.sz, t.at_, t.fr⟩ h
  | call c hd _ _ k ih =>
    intro Q E p s t h
    obtain ⟨r, s', hr, h⟩ := h
    obtain ⟨a, _, c⟩ := runs_fix hr t rfl
    exact ⟨r, lift G s', c, ih r Q E p s' a h⟩
  | handled own k ih => exact fun Q E p s t h => ih _ Q E p s t h
  | genState g k ih =>
    intro Q E p s t h
    obtain ⟨st, hs, h⟩ := h
    obtain ⟨st', e1, e2⟩ := t.seen hs
    exact ⟨st', e1, by rw [e2]; exact ih _ Q E p s t h⟩
  | newGen c k ih =>
    intro Q E p s t h
    have z := ih _ Q E p { s with gens := s.gens.push (.fresh c) } (t.push c) h
    rw [lift_push t, ← lift_gsz (G := G)] at z
    exact z
  | resume g r _ k ih =>
    intro Q E p s t h
    obtain ⟨res, s', hw, h⟩ := h
    have key : Trp G s' ∧ Wakes M Γ p g r (lift G s) res (lift G s') := by
      unfold Wakes at hw
      split at hw
      · exact hw.elim
      · rename_i c e
        have hn := t.noS e fun _ _ _ _ _ z => by cases z
        have e' := t.same e hn
        split at hw
        · obtain ⟨e1, s1, hr, hq, rfl, rfl⟩ := hw
          obtain ⟨a, b, c2⟩ := runs_fix hr (t.set hn fun _ _ _ _ _ _ z => by cases z) rfl
          refine ⟨a.set hn fun k l c p fs cl z => ?_, ?_⟩
          · cases e1 with
            | ret r => cases z
            | susp v g1 l1 k1 c1 p1 fs1 =>
              have z : GenState.suspended k1 l1 c1 p1 fs1 (g1 || fs1.any Frame.guarded) = .suspended k l c p fs cl := z
              cases z
              exact b
          · rw [lift_set hn] at c2
            unfold Wakes
            rw [e', lift_set hn]
            exact ⟨e1, _, c2, hq, rfl, rfl⟩
        · obtain ⟨rfl, rfl⟩ := hw
          refine ⟨t, ?_⟩
          rename_i v hv
          unfold Wakes
          rw [e']
          cases v with
          | none => exact (hv rfl).elim
          | _ => exact ⟨rfl, rfl⟩
        · obtain ⟨rfl, rfl⟩ := hw
          refine ⟨t.set hn fun _ _ _ _ _ _ z => (by cases z), ?_⟩
          unfold Wakes
          rw [e', lift_set hn]
          exact ⟨rfl, rfl⟩
      · rename_i k0 l0 c0 p0 fs0 cl0 e
        obtain ⟨e1, s1, hr, hq, rfl, rfl⟩ := hw
        have hn : ¬ Slp G g := fun ⟨k, l, c, p, fs, cl, z⟩ => by
          have := t.at_ g k l c p fs cl z
          rw [e] at this
          cases this
          exact no_unsup hr _ rfl
        have hf : PySem.W.noGen fs0 = true := (t.fr _ _ _ _ _ _ _ e).resolve_left hn
        have e' := t.same e hn
        obtain ⟨a, b, c2⟩ := runs_fix hr (t.set hn fun _ _ _ _ _ _ z => by cases z) hf
        refine ⟨a.set hn fun k l c p fs cl z => ?_, ?_⟩
        · cases e1 with
          | ret r => cases z
          | susp v g1 l1 k1 c1 p1 fs1 =>
            have z : GenState.suspended k1 l1 c1 p1 fs1 (g1 || fs1.any Frame.guarded) = .suspended k l c p fs cl := z
            cases z
            exact b
        · rw [lift_set hn] at c2
          unfold Wakes
          rw [e', lift_set hn]
          exact ⟨e1, _, c2, hq, rfl, rfl⟩
      · rename_i e
        have hn := t.noS e fun _ _ _ _ _ z => by cases z
        obtain ⟨rfl, rfl⟩ := hw
        exact ⟨t, by unfold Wakes; rw [t.same e hn]; exact ⟨rfl, rfl⟩⟩
      · rename_i e
        have hn := t.noS e fun _ _ _ _ _ z => by cases z
        obtain ⟨rfl, rfl⟩ := hw
        exact ⟨t, by unfold Wakes; rw [t.same e hn]; exact ⟨rfl, rfl⟩⟩
    exact ⟨res, lift G s', key.2, ih res Q E p s' key.1 h⟩
  | yield _ _ _ _ => exact fun Q E p s t h => h
  | stack k ih => exact fun Q E p s t h => ih _ Q E p s t h
  | fork _ _ => exact fun Q E p s t h => h
  | thread k ih => exact fun Q E p s t h => ih _ Q E p s t h
  | await _ _ _ _ _ => exact fun Q E p s t h => h
/-- all sleepers trapped -/
def traps (G : Array GenState) : Array GenState := G.map trapS
theorem trp_traps {s : Shared} : Trp s.gens { s with gens := traps s.gens } := by
  refine ⟨by show s.gens.size ≤ (s.gens.map trapS).size; simp, fun i k l c p fs cl e => ?_, fun i k l c p fs cl e => ?_⟩
  · show (s.gens.map trapS)[i]? = _
    rw [Array.getElem?_map, e]; rfl
  · have e : (s.gens.map trapS)[i]? = some (GenState.suspended k l c p fs cl) := e
    rw [Array.getElem?_map] at e
    cases h : s.gens[i]? with
    | none => rw [h] at e; cases e
    | some x =>
      rw [h] at e
      cases x with
      | suspended k0 l0 c0 p0 fs0 cl0 => exact .inl ⟨_, _, _, _, _, _, h⟩
      | fresh _ => cases e
      | running => cases e
      | finished => cases e
theorem lift_traps {s : Shared} : lift s.gens { s with gens := traps s.gens } = s := by
  have : putS s.gens (traps s.gens) = s.gens := by
    apply Array.ext_getElem?
    intro i
    rw [putS_get]
    show ((s.gens.map trapS)[i]?).map _ = _
    rw [Array.getElem?_map]
    cases h : s.gens[i]? with
    | none => rfl
    | some x =>
      cases x <;> simp [pickS, h, trapS]
  show ({ s with gens := putS s.gens (traps s.gens) } : Shared) = s
  rw [this]
theorem bare_traps {G : Array GenState} (h : AllBare G) : AllBare (traps G) := fun y hy => by
  obtain ⟨x, hx, rfl⟩ := Array.mem_map.mp hy
  have := h x hx
  cases x <;> exact this
theorem bare_lift {G : Array GenState} {s : Shared} (h : AllBare G) (h' : AllBare s.gens) : AllBare (lift G s).gens := fun y hy => by
  obtain ⟨i, hi, e⟩ := Array.mem_iff_getElem.mp hy
  have e2 : (lift G s).gens[i]? = some y := by rw [Array.getElem?_eq_getElem hi, e]
  have e2 : (putS G s.gens)[i]? = some y := e2
  rw [putS_get] at e2
  cases q : s.gens[i]? with
  | none => rw [q] at e2; cases e2
  | some x =>
    rw [q] at e2
    have e3 : pickS G i x = y := Option.some.inj e2
    rw [← e3]
    by_cases hs : Slp G i
    · obtain ⟨k, l, c, p, fs, cl, z⟩ := hs
      have := h _ (Array.mem_of_getElem? z)
      unfold pickS
      rw [z]
      exact this
    · rw [pickS_no hs]
      exact h' x (Array.mem_of_getElem? q)
theorem sleeps_on {G : Array GenState} {s : Shared} (t : Trp G s) {g : Nat} {k : Resume → Sem PySem.Fin} {l : List Value} {c : Code} {p : Pos} {fs : List Frame} {cl : Bool} (h : G[g]? = some (GenState.suspended k l c p fs cl)) : (lift G s).gens[g]? = some (.suspended k l c p fs cl) := by
  show (putS G s.gens)[g]? = _
  rw [putS_get, t.at_ g k l c p fs cl h]
  show some (pickS G g _) = _
  unfold pickS
  rw [h]
/-- THE FRAME OF SLEEPERS: what runs though all that sleep are traps leaves them asleep, each as it is -/
theorem wpAny_fix {α : Type} {M : Model} {A : Around} {t : Sem α} {Q : α → Shared → Prop} {E : Value → Shared → Prop} {s : Shared} (h : wpAny M A t Q E { s with gens := traps s.gens }) :
    wpAny M A t (fun a s' => ∃ s1, s' = lift s.gens s1 ∧ Trp s.gens s1 ∧ Q a s1) (fun e s' => ∃ s1, s' = lift s.gens s1 ∧ Trp s.gens s1 ∧ E e s1) s := by
  intro Γ p hΓ
  have z := wp_fix (G := s.gens) M Γ t _ _ p _ trp_traps (h Γ p hΓ)
  rw [lift_traps] at z
  exact z
end Sv

/-! Generators beside a consumer that changes its own objects: what each owns stands still while the other runs. -/
namespace Sv
open PySem PySem.Spec PyProof.Rows L2 GenW
abbrev PinL := List (Addr × Obj)
/-- since s0 nothing has changed but slots of the frames, told objects within what is told, new objects -/
structure BZ (P : Program) (w : World) (T : Hp) (fs : List Addr) (s0 s : Shared) : Prop where
  os : s.os = s0.os
  bare : AllBare s.gens
  un : Un fs [] T T s0.heap s.heap
  hok : HOk P w T s.heap
def Pz (n0 : Nat) (h : Heap) (ps : PinL) : Prop := ∀ p ∈ ps, h.get? p.1 = some p.2 ∧ n0 ≤ p.1 ∧ ∀ v, p.2.data ≠ .cell v
def Apz (own cs : PinL) : Prop := ∀ p ∈ own, ∀ q ∈ cs, p.1 ≠ q.1
structure ZPar where
  prog : Program
  w : World
  T : Hp
  fs : List Addr
  s0 : Shared
  N : Nat
  out : Nat → Option V
  a : Addr
  go : Obj
abbrev ZPar.gr (z : ZPar) (s : Shared) : Prop := BZ z.prog z.w z.T z.fs z.s0 s
abbrev ZPar.n0 (z : ZPar) : Nat := z.s0.heap.objs.size
def ZY (z : ZPar) : GhY PinL := fun cs n _ v s kap => ∃ i x own, n + 1 + i = z.N ∧ z.out i = some x ∧ RelV x v ∧ z.gr s ∧ Pz z.n0 s.heap own ∧ Pz z.n0 s.heap cs ∧ Apz own cs ∧ (z.a, z.go) ∈ own ∧
  ∀ cs' s', z.gr s' → Pz z.n0 s'.heap own → Pz z.n0 s'.heap cs' → Apz own cs' → kap cs' (.send .none) s'
def ZR (z : ZPar) : GhR PinL := fun cs n _ r s => r = .ok (.ret .none) ∧ (∃ i, n + i = z.N ∧ z.out i = none) ∧ z.gr s ∧ Pz z.n0 s.heap cs ∧ s.heap.get? z.a = some z.go
/-- what is told is small: instances with their own dicts, lists, tuples -/
def Tiny (T : Hp) : Prop := ∀ b u, T b = some u → (∃ C dx fs, u = .ins C dx fs ∧ T dx = some (.own b)) ∨ (∃ y C fs, u = .own y ∧ T y = some (.ins C b fs)) ∨ (∃ xs, u = .lst xs) ∨ ∃ xs, u = .tup xs
theorem hok_down {P : Program} {w : World} {T H : Hp} {h : Heap} (t : Tiny T) (sm : Same T H) (x : HOk P w H h) : HOk P w T h := fun b u e => by
  have z := x b u (sm b u e)
  rcases t b u e with ⟨C, dx, fs, rfl, hd⟩ | ⟨y, C, fs, rfl, hd⟩ | ⟨xs, rfl⟩ | ⟨xs, rfl⟩
  · exact ⟨hd, z.2⟩
  · exact z
  · exact z
  · exact z
theorem hok_up {P : Program} {w : World} {T H : Hp} {fs : List Addr} {h h' : Heap} (t : Tiny T) (sm : Same T H) (hf : ∀ b ∈ fs, H b = none) (x : HOk P w H h) (u : Un fs [] T T h h') (y : HOk P w T h') : HOk P w H h' := fun b o e => by
  cases q : T b with
  | some o' =>
    have e' := sm b o' q
    rw [e] at e'
    cases e'
    exact (y b o q).stay (fun _ _ _ z => z) (fun c z => sm _ _ z) fun c xs z => sm _ _ z
  | none =>
    refine (x b o e).stay (fun c ob hc z => ?_) (fun c z => z) fun c xs z => z
    rcases hc with rfl | hc
    · exact u.keep _ _ z q (fun hb => by rw [hf _ hb] at e; cases e) (by simp)
    · refine u.keep _ _ z ?_ (fun hb => by rw [hf _ hb] at hc; cases hc) (by simp)
      cases qc : T c with
      | none => rfl
      | some o2 =>
        have e2 := sm c o2 qc
        rw [hc] at e2
        cases e2
        rcases t c _ qc with ⟨C, dx, fs, z, _⟩ | ⟨y', C, fs, z, hd⟩ | ⟨xs, z⟩ | ⟨xs, z⟩
        · cases z
        · cases z
          rw [q] at hd; cases hd
        · cases z
        · cases z
theorem un_up {T H : Hp} {fs : List Addr} {h h' : Heap} (sm : Same T H) (u : Un fs [] T T h h') : Un fs [] H H h h' :=
  ⟨fun b o e n hb hx => u.keep b o e (sm.free n) hb hx, fun b o e n hb hx => u.slot b o e (sm.free n) hb hx, fun _ _ _ n _ => n, fun b o e hx => u.there b o e hx, fun _ _ e => e, fun _ _ _ e => e, fun _ ps e => ⟨#[], by rw [e]; simp⟩⟩
/-! ### the generator's side -/
structure ZOk (X : Cx) (a : Addr) (go : Obj) : Prop where
  xe : ∀ e s, ¬ X.xe e s
  ex : X.ex = []
  nc : ∀ x c, X.env.cells.lookup x ≠ some c
  pn : (a, go) ∈ X.pn
  pl : ∀ p ∈ X.pn, X.s_0.heap.objs.size ≤ p.1
  h0 : HOk X.prog X.w X.H_0 X.s_0.heap
  ti : Tiny X.H_0
abbrev zpar (X : Cx) (N : Nat) (out : Nat → Option V) (a : Addr) (go : Obj) : ZPar := ⟨X.prog, X.w, X.H_0, X.fs, X.s_0, N, out, a, go⟩
structure ZI (X : Cx) (cs ip : PinL) (σ : L2.St) (H : Hp) (s : Shared) : Prop where
  inv : Inv X (cs ++ ip) σ H s
  cl : ∀ q ∈ cs, X.s_0.heap.objs.size ≤ q.1
  ap : ∀ p ∈ X.pn ++ ip, ∀ q ∈ cs, p.1 ≠ q.1
  il : ∀ p ∈ ip, X.s_0.heap.objs.size ≤ p.1
section
variable {X : Cx} {cs ip : PinL} {σ : L2.St} {H : Hp} {s s' : Shared} {a : Addr} {go : Obj}
theorem zdown (k : ZOk X a go) (sm : Same X.H_0 H) {pins : PinL} (I : Inv X pins σ H s) : Inv X pins σ X.H_0 s :=
  ⟨I.ok, I.os, I.bare, ⟨I.base.keep, I.base.slot, fun _ _ _ n _ => n, I.base.there, fun _ _ e => e, fun _ _ _ e => e, fun _ ps e => ⟨#[], by rw [e]; simp⟩⟩, I.loc, I.cell, sm.free I.free, fun x c e => sm.free (I.freeC x c e),
    fun p hp => let ⟨a1, a2, a3, a4, a5⟩ := I.pin p hp; ⟨a1, sm.free a2, a3, a4, a5⟩, hok_down k.ti sm I.hok, I.len⟩
theorem zground (k : ZOk X a go) {pins : PinL} (I : Inv X pins σ X.H_0 s) : BZ X.prog X.w X.H_0 X.fs X.s_0 s :=
  ⟨I.os, I.bare, by have := I.base; rw [k.ex] at this; exact this, I.hok⟩
theorem zhigh (k : ZOk X a go) (ok : X.Ok) {b : Addr} (hb : X.s_0.heap.objs.size ≤ b) : X.H_0 b = none ∧ b ∉ X.fs :=
  ⟨k.h0.fresh hb, fun z => by
    obtain ⟨_, o, ho, _⟩ := ok.funs.mem z
    exact absurd (Nat.lt_of_lt_of_le (Heap.lt_size ho) hb) (Nat.lt_irrefl _)⟩
/-- woken -/
theorem zwake (k : ZOk X a go) {oL : Obj} {cs' : PinL} (I : ZI X cs ip σ X.H_0 s) (hL : s.heap.get? X.env.locals = some oL) (g : BZ X.prog X.w X.H_0 X.fs X.s_0 s') (h1 : Pz X.s_0.heap.objs.size s'.heap ((X.env.locals, oL) :: (X.pn ++ ip)))
    (h2 : Pz X.s_0.heap.objs.size s'.heap cs') (h3 : Apz ((X.env.locals, oL) :: (X.pn ++ ip)) cs') : ZI X cs' ip σ X.H_0 s' := by
  have J := I.inv
  refine ⟨⟨J.ok, g.os, g.bare, by rw [k.ex]; exact g.un, ?_, fun x c e => (k.nc x c e).elim, J.free, J.freeC, fun p hp => ?_, g.hok, J.len⟩, fun q hq => (h2 q hq).2.1, fun p hp q hq => h3 p (List.mem_cons_of_mem _ hp) q hq, I.il⟩
  · obtain ⟨m, ⟨o, es, ep, ho, r⟩, hl⟩ := J.loc
    rw [hL] at ho
    cases ho
    refine ⟨m, ⟨oL, es, ep, (h1 _ List.mem_cons_self).1, r⟩, fun i x v e1 e2 e3 => ?_⟩
    obtain ⟨u, ru, lk⟩ := hl i x v e1 e2 e3
    refine ⟨u, ru, ?_⟩
    rcases lk with z | ⟨_, c, z, _⟩
    · exact .inl z
    · exact (k.nc x c z).elim
  · have old : ∀ q ∈ X.pn ++ ip, s'.heap.get? q.1 = some q.2 ∧ X.H_0 q.1 = none ∧ q.1 ≠ X.env.locals ∧ q.1 ∉ X.fs ∧ ∀ v, q.2.data ≠ .cell v := fun q hq => by
      have z := J.pin q (by
        rcases List.mem_append.mp hq with y | y
        · exact List.mem_append_left _ y
        · exact List.mem_append_right _ (List.mem_append_right _ y))
      exact ⟨(h1 q (List.mem_cons_of_mem _ hq)).1, z.2⟩
    rcases List.mem_append.mp hp with y | y
    · exact old p (List.mem_append_left _ y)
    · rcases List.mem_append.mp y with y | y
      · obtain ⟨c1, c2, c3⟩ := h2 p y
        obtain ⟨d1, d2⟩ := zhigh k J.ok c2
        exact ⟨c1, d1, fun z => h3 _ List.mem_cons_self p y z.symm, d2, c3⟩
      · exact old p (List.mem_append_right _ y)
/-- what a sleeping generator owns -/
theorem zown (k : ZOk X a go) (I : ZI X cs ip σ X.H_0 s) : ∃ oL, s.heap.get? X.env.locals = some oL ∧ Pz X.s_0.heap.objs.size s.heap ((X.env.locals, oL) :: (X.pn ++ ip)) ∧ Pz X.s_0.heap.objs.size s.heap cs ∧ Apz ((X.env.locals, oL) :: (X.pn ++ ip)) cs := by
  obtain ⟨m, ⟨oL, es, ep, ho, hd, hr⟩, _⟩ := I.inv.loc
  refine ⟨oL, ho, fun p hp => ?_, fun p hp => ?_, fun p hp q hq => ?_⟩
  · rcases List.mem_cons.mp hp with rfl | hp
    · exact ⟨ho, I.inv.ok.above, fun v z => by rw [hd] at z; cases z⟩
    · rcases List.mem_append.mp hp with y | y
      · have z := I.inv.pin p (List.mem_append_left _ y)
        exact ⟨z.1, k.pl p y, z.2.2.2.2⟩
      · have z := I.inv.pin p (List.mem_append_right _ (List.mem_append_right _ y))
        exact ⟨z.1, I.il p y, z.2.2.2.2⟩
  · have z := I.inv.pin p (List.mem_append_right _ (List.mem_append_left _ hp))
    exact ⟨z.1, I.cl p hp, z.2.2.2.2⟩
  · rcases List.mem_cons.mp hp with rfl | hp
    · have z := I.inv.pin q (List.mem_append_right _ (List.mem_append_left _ hq))
      exact fun e => z.2.2.1 e.symm
    · exact I.ap p hp q hq
end
structure ZD where
  nx : Nat → L2.St → Hp → Prop
  rt : Nat → VK
  bk : Nat → L2.St → Hp → Prop := fun _ _ _ => False
  ct : Nat → L2.St → Hp → Prop := fun _ _ _ => False
def ZD.at (D : ZD) (i : Nat) : Ends := { nx := D.nx i, rt := D.rt i, bk := D.bk i, ct := D.ct i }
def ZSP (X : Cx) (cs ip : PinL) (D : ZD) (i : Nat) (f : Flow) (s : Shared) : Prop :=
  match f with
  | .next => ∃ σ H, ZI X cs ip σ H s ∧ D.nx i σ H
  | .brk => ∃ σ H, ZI X cs ip σ H s ∧ D.bk i σ H
  | .cont => ∃ σ H, ZI X cs ip σ H s ∧ D.ct i σ H
  | .ret u => ∃ v σ H, ZI X cs ip σ H s ∧ RelV v u ∧ D.rt i v H
structure ZC (X : Cx) (A : Around) (c : Code) (fs : List Frame) (gd : Bool → Bool) : Prop where
  over : A.over c fs = X.A
  split : splitAtGen fs = none
  guard : fs.any Frame.guarded = false
  gd : gd false = false
def ZK (X : Cx) (Z : ZPar) (ip : PinL) (A : Around) (c : Code) (fs : List Frame) (K : Flow → Sem PySem.Fin) (D : ZD) : Prop :=
  ∀ (cs : PinL) (n i : Nat) (t0 s : Shared) (f : Flow), n + i = Z.N → ZSP X cs ip D i f s → Sg (model X.prog X.w) A (ZR Z) (ZY Z) n cs t0 c (K f) fs s
structure ZWS (X : Cx) (Z : ZPar) (st : Stmt) (D : ZD) (i : Nat) (σ : L2.St) (H : Hp) : Prop where
  run : ∀ (A : Around) (cs ip : PinL) (n : Nat) (t0 : Shared) (c : Code) (fs : List Frame) (K : Flow → Sem PySem.Fin) (J : Value → Sem PySem.Fin) (gd : Bool → Bool) (lv : List Value → List Value) (s : Shared),
    ZC X A c fs gd → n + i = Z.N → ZK X Z ip A c fs K D → ZI X cs ip σ H s → Sg (model X.prog X.w) A (ZR Z) (ZY Z) n cs t0 c ((exec st X.env).wrap K J gd lv) fs s
structure ZWL (X : Cx) (Z : ZPar) (sts : List Stmt) (D : ZD) (i : Nat) (σ : L2.St) (H : Hp) : Prop where
  run : ∀ (A : Around) (cs ip : PinL) (n : Nat) (t0 : Shared) (c : Code) (fs : List Frame) (K : Flow → Sem PySem.Fin) (J : Value → Sem PySem.Fin) (gd : Bool → Bool) (lv : List Value → List Value) (s : Shared),
    ZC X A c fs gd → n + i = Z.N → ZK X Z ip A c fs K D → ZI X cs ip σ H s → Sg (model X.prog X.w) A (ZR Z) (ZY Z) n cs t0 c ((execs sts X.env).wrap K J gd lv) fs s
section
variable {X : Cx} {Z : ZPar} {N : Nat} {out : Nat → Option V} {a : Addr} {go : Obj} {D : ZD} {i : Nat} {σ : L2.St} {H : Hp} {st : Stmt} {sts : List Stmt} {e tg iter : Expr} {pos yp : Pos}
theorem zwl_nil (q : D.nx i σ H) : ZWL X Z [] D i σ H := ⟨fun A cs ip n t0 c fs K J gd lv s g hn k I => sg_nil (k cs n i t0 s .next hn ⟨σ, H, I, q⟩)⟩
theorem zwl_cons (h : ZWS X Z st { D with nx := fun i' σ' H' => ZWL X Z sts D i' σ' H' } i σ H) : ZWL X Z (st :: sts) D i σ H := by
  refine ⟨fun A cs ip n t0 c fs K J gd lv s g hn k I => sg_cons (h.run A cs ip n t0 c fs _ J gd lv s g hn (fun cs' n' i' t0' s' f hn' hs => ?_) I)⟩
  cases f with
  | next =>
    obtain ⟨σ', H', I', q⟩ := hs
    exact q.run A cs' ip n' t0' c fs K J gd lv s' g hn' k I'
  | brk => exact k cs' n' i' t0' s' .brk hn' hs
  | cont => exact k cs' n' i' t0' s' .cont hn' hs
  | ret u => exact k cs' n' i' t0' s' (.ret u) hn' hs
theorem zws_plain (hx : ∀ e s, ¬ X.xe e s) (h : WS X st (D.at i) σ H) : ZWS X Z st D i σ H := by
  refine ⟨fun A cs ip n t0 c fs K J gd lv s g hn k I => sg_wrap ?_⟩
  rw [g.over]
  refine wpAny_mono (h.run (cs ++ ip) s I.inv) (fun f s' hs => k cs n i t0 s' f hn ?_) fun x s' z => (hx x s' z).elim
  cases f with
  | next => obtain ⟨σ', H', I', q⟩ := hs; exact ⟨σ', H', ⟨I', I.cl, I.ap, I.il⟩, q⟩
  | brk => obtain ⟨σ', H', I', q⟩ := hs; exact ⟨σ', H', ⟨I', I.cl, I.ap, I.il⟩, q⟩
  | cont => obtain ⟨σ', H', I', q⟩ := hs; exact ⟨σ', H', ⟨I', I.cl, I.ap, I.il⟩, q⟩
  | ret u => obtain ⟨v, σ', H', I', r, q⟩ := hs; exact ⟨v, σ', H', ⟨I', I.cl, I.ap, I.il⟩, r, q⟩
theorem zws_yield (k0 : ZOk X a go) (h : WE X e σ H fun x H1 => Same X.H_0 H1 ∧ out i = some x ∧ D.nx (i + 1) σ X.H_0) (hco : X.env.scope.isCoroutine = false) (hi : interactive X.env = false) : ZWS X (zpar X N out a go) (.Expr (.Yield (some e) yp) pos) D i σ H := by
  refine ⟨fun A cs ip n t0 c fs K J gd lv s g hn k I => ?_⟩
  cases n with
  | zero => trivial
  | succ n =>
    refine sg_ExprYield g.split g.gd g.guard ?_ hco hi
    rw [g.over]
    refine wpAny_mono (h.run (cs ++ ip) s I.inv) (fun v s' hv => ?_) fun x s' z => (k0.xe x s' z).elim
    obtain ⟨x, H1, I1, rv, sm, ho, q⟩ := hv
    have I2 : ZI X cs ip σ X.H_0 s' := ⟨zdown k0 sm I1, I.cl, I.ap, I.il⟩
    obtain ⟨oL, hL, p1, p2, p3⟩ := zown k0 I2
    intro kap hk
    refine ⟨i, x, _, hn, ho, rv, zground k0 I2.inv, p1, p2, p3, List.mem_cons_of_mem _ (List.mem_append_left _ k0.pn), fun cs' s'' hg h1 h2 h3 => hk cs' .none s'' ?_⟩
    exact k cs' n (i + 1) s'' s'' .next (by have : n + 1 + i = N := hn; show n + (i + 1) = N; omega) ⟨σ, X.H_0, zwake k0 I2 hL hg h1 h2 h3, q⟩
end
end Sv

/-! `for` in such a generator. -/
namespace Sv
open PySem PySem.Spec PyProof.Rows L2 GenW
section
variable {Gh : Type} {prog : Program} {w : World} {A : Around} {R : GhR Gh} {Y : GhY Gh} {n : Nat} {a : Gh} {t0 s : Shared} {fs : List Frame} {env : Env} {tg : Expr} {it : Value} {body : List Stmt}
abbrev leaveLoop (env : Env) (x : Value) : Sem PySem.Fin := (do noteFrame x env; theTreesLotGoes x : Sem Unit).wrap (fun _ => .raise x) .raise id id
abbrev turnEnd (tg : Expr) (it : Value) (body : List Stmt) (env : Env) (f : Flow) : Sem PySem.Fin :=
  match f with
  | .next | .cont => .pure (.again (.forLoop tg it body [] env))
  | .brk => .pure (.done .next)
  | .ret v => .pure (.done (.ret v))
theorem sg_forLoop (h : wpAny (model prog w) (A.over (.forLoop tg it body [] env) fs) (pyNext it) (fun r s1 => match r with
      | none => Sg (model prog w) A R Y n a t0 (.forLoop tg it body [] env) (.pure (.again (.block [] env))) fs s1
      | some v => wpAny (model prog w) (A.over (.forLoop tg it body [] env) fs) (letOwnedTupleGo tg it v) (fun _ s2 => wpAny (model prog w) (A.over (.forLoop tg it body [] env) fs) (assign tg env v) (fun _ s3 =>
          Sg (model prog w) A R Y n a t0 (.forLoop tg it body [] env) ((execs body env).wrap (turnEnd tg it body env) (leaveLoop env) id id) fs s3)
          (fun _ _ => False) s2) (fun _ _ => False) s1) (fun _ _ => False) s) :
    Sg (model prog w) A R Y n a t0 (.forLoop tg it body [] env) ((model prog w).den (.forLoop tg it body [] env)) fs s := by
  show Sg _ A R Y n a t0 _ ((forTurn tg it body [] env).onRaise (fun x => do noteFrame x env; theTreesLotGoes x)) fs s
  rw [Sem.onRaise_eq_wrap]
  unfold forTurn
  refine sg_bw (wpAny_standAt ?_)
  refine sg_bw (wpAny_onRaise (wpAny_mono h (fun r s1 h1 => ?_) fun x s' z => z.elim))
  cases r with
  | none => exact h1
  | some v =>
    refine sg_bw (wpAny_mono h1 (fun _ s2 h2 => ?_) fun x s' z => z.elim)
    refine sg_bw (wpAny_mono h2 (fun _ s3 h3 => ?_) fun x s' z => z.elim)
    rw [Sem.bind_eq_wrap', Sem.wrap_wrap]
    rw [Sem.wrap_congr (execs body env) _ _ (K' := turnEnd tg it body env) (H' := leaveLoop env) (fun f => by cases f <;> rfl) (fun e => by show (do noteFrame e env; theTreesLotGoes e : Sem Unit).bind (fun _ => .raise e) = _; rw [Sem.bind_eq_wrap])]
    exact h3
end
abbrev backIn (env : Env) (K : Flow → Sem PySem.Fin) (J : Value → Sem PySem.Fin) (gd : Bool → Bool) (lv : List Value → List Value) : Result → Sem PySem.Fin :=
  fun r => ((match r with | .ok f => (.pure f : Sem Flow) | .error e => .raise e).onRaise (cameBack env)).wrap K J gd lv
section
variable {Gh : Type} {P : Program} {w : World} {A : Around} {R : GhR Gh} {Y : GhY Gh} {n : Nat} {a : Gh} {t0 s : Shared} {c : Code} {fs : List Frame} {env : Env} {K : Flow → Sem PySem.Fin} {J : Value → Sem PySem.Fin} {gd : Bool → Bool} {lv : List Value → List Value}
  {tg iter : Expr} {body : List Stmt} {pos : Pos}
theorem sg_For (h : wpAny (model P w) (A.over c fs) (eval iter env) (fun x s1 => wpAny (model P w) (A.over c fs) (pyIter x) (fun it s2 => ∀ p, Sg (model P w) A R Y n a t0 (.forLoop tg it body [] env) ((model P w).den (.forLoop tg it body [] env))
      (.ret (backIn env K J gd lv) none (gd false) (lv []) c p [] :: fs) s2) (fun _ _ => False) s1) (fun _ _ => False) s)
    (hs : ∀ x, foldedSetIterable iter env x = pure x) : Sg (model P w) A R Y n a t0 c ((exec (.For tg iter body [] pos) env).wrap K J gd lv) fs s := by
  rw [exec_For]
  refine sg_bw (wpAny_standAt ?_)
  refine sg_bw (wpAny_mono h (fun x s1 h1 => ?_) fun _ _ z => z.elim)
  refine sg_bw (wpAny_of_eq (hs x) ?_)
  refine sg_bw (wpAny_standAt ?_)
  refine sg_bw (wpAny_holding (wpAny_mono h1 (fun it s2 h2 => ?_) fun _ _ z => z.elim))
  exact sg_call h2
end
section
variable {X : Cx} {N : Nat} {out : Nat → Option V} {a : Addr} {go : Obj} {D : ZD} {i : Nat} {σ : L2.St} {H : Hp} {sts : List Stmt} {tg iter : Expr} {pos : Pos} {L S G B NN : List Str}
theorem zc_loop {A : Around} {c c' : Code} {fs : List Frame} {gd : Bool → Bool} {k : Result → Sem PySem.Fin} {l kp : List Value} {p : Pos} (g : ZC X A c fs gd) (hw : c'.weight = 0) (hu : c'.cUnits = 0) : ZC X A c' (.ret k none (gd false) l c p kp :: fs) id where
  over := (over_loop hw hu).trans g.over
  split := by
    show (splitAtGen fs).map _ = none
    rw [g.split]; rfl
  guard := by
    show (gd false || fs.any Frame.guarded) = false
    rw [g.gd, g.guard]; rfl
  gd := rfl
theorem zws_for (k0 : ZOk X a go) (hc : Nm X NN L S G B)
    (h : WI X tg iter σ H fun J H1 => Same X.H_0 H1 ∧ ∃ m it, Wlk J m it X.H_0 ∧ ∃ Pv : Nat → Nat → L2.St → Hp → Prop, Pv 0 i σ X.H_0 ∧ (∀ t i' σ' H', Pv t i' σ' H' → Same X.H_0 H') ∧
      (∀ t i' σ' H', t < m → Pv t i' σ' H' → WG X tg (it t) σ' H' fun σ2 H2 => ZWL X (zpar X N out a go) sts { D with nx := Pv (t + 1), ct := Pv (t + 1), bk := D.nx } i' σ2 H2) ∧ ∀ i' σ' H', Pv m i' σ' H' → D.nx i' σ' H')
    (hs : ∀ x, foldedSetIterable iter X.env x = pure x := by intro _; with_unfolding_all rfl) : ZWS X (zpar X N out a go) (.For tg iter sts [] pos) D i σ H := by
  refine ⟨fun A cs ip n t0 c fs K J gd lv s gc hn k I => ?_⟩
  have noX : ∀ {α : Type} {t : Sem α} {Q : α → Shared → Prop} {s : Shared}, wpAny (model X.prog X.w) X.A t Q X.xe s → wpAny (model X.prog X.w) X.A t Q (fun _ _ => False) s := fun h => wpAny_mono h (fun _ _ z => z) fun x s' z => (k0.xe x s' z).elim
  refine sg_For ?_ hs
  rw [gc.over]
  refine noX (wpAny_mono (h.run (cs ++ ip) s I.inv) (fun v s1 h1 => noX (wpAny_mono h1 (fun itv s2 h2 => ?_) fun _ _ z => z)) fun _ _ z => z)
  obtain ⟨it, fp, tn, Jt, H2, e, I2', T, st2, f2, sm, m, itm, W, Pv, p0, hsm, hst, hd⟩ := h2
  subst e
  have I2 := zdown k0 sm I2'
  intro p
  have gl := zc_loop (k := backIn X.env K J gd lv) (c' := .forLoop tg (.ref it) sts [] X.env) (l := lv []) (kp := []) (p := p) gc rfl rfl
  have fpHigh : ∀ b ∈ fp, X.s_0.heap.objs.size ≤ b := fun b hb => by
    obtain ⟨_, _, _, q, _, _⟩ := f2 b hb
    rcases q with q | q
    · rw [k0.ex] at q; cases q
    · exact q
  have loop : ∀ (r t n i : Nat) (cs : PinL) (t0 s : Shared) (σ : L2.St) (H : Hp), r = m - t → t ≤ m → n + i = N → Pv t i σ H → tn t s.heap → (∀ b ∈ fp, H b = none) → (∀ b ∈ fp, ∀ q ∈ cs, q.1 ≠ b) → ZI X cs ip σ H s →
      Sg (model X.prog X.w) A (ZR (zpar X N out a go)) (ZY (zpar X N out a go)) n cs t0 (.forLoop tg (.ref it) sts [] X.env) ((model X.prog X.w).den (.forLoop tg (.ref it) sts [] X.env)) (.ret (backIn X.env K J gd lv) none (gd false) (lv []) c p [] :: fs) s := by
    intro r
    induction r using Nat.strongRecOn with
    | ind r ih =>
      intro t n i cs t0 s σ H er ht hn pv st fr fc I
      have stat : ∀ {H' : Hp}, (∀ b ∈ fp, H' b = none) → ∀ b ∈ fp, FpOk X (cs ++ ip) H' b := fun {H'} hf b hb => by
        obtain ⟨_, q1, q2, q3, q4, q5⟩ := f2 b hb
        refine ⟨hf b hb, q1, q2, q3, q4, fun u hu => ?_⟩
        rcases List.mem_append.mp hu with hu | hu
        · exact q5 u (List.mem_append_left _ hu)
        · rcases List.mem_append.mp hu with hu | hu
          · exact fc b hb u hu
          · exact q5 u (List.mem_append_right _ (List.mem_append_right _ hu))
      have hsame := hsm _ _ _ _ pv
      refine sg_forLoop ?_
      rw [gl.over]
      by_cases hlt : t < m
      · refine noX (wpAny_mono (T.item X rfl rfl rfl hc.calm t _ s σ H X.xe I.inv (stat fr) st (W.go t H hlt hsame)) (fun r' s4 h4 => ?_) fun _ _ z => z)
        obtain ⟨u, hr, h4⟩ := h4
        subst hr
        refine noX (wpAny_mono h4 (fun _ s5 h5 => ?_) fun _ _ z => z)
        obtain ⟨x, H5, I5, r5, y5, st5, fr5⟩ := h5
        obtain ⟨rfl, rfl⟩ := W.yld t H x H5 hlt hsame y5
        have I5' := I5.pinned (stat fr5) (T.obj _ _ st5)
        rw [List.append_assoc] at I5'
        refine noX (wpAny_mono ((hst t i σ H5 hlt pv).run _ s5 u I5' r5) (fun _ s6 h6 => ?_) fun _ _ z => z)
        obtain ⟨σ6, H6, I6, q6⟩ := h6
        have Z6 : ZI X cs (ip ++ pinsAt fp s5.heap) σ6 H6 s6 := ⟨I6, I.cl, fun p hp q hq => by
          rcases List.mem_append.mp hp with y | y
          · exact I.ap p (List.mem_append_left _ y) q hq
          · rcases List.mem_append.mp y with y | y
            · exact I.ap p (List.mem_append_right _ y) q hq
            · exact fun z => fc p.1 (of_pinsAt y).1 q hq z.symm, fun p hp => by
          rcases List.mem_append.mp hp with y | y
          · exact I.il p y
          · exact fpHigh p.1 (of_pinsAt y).1⟩
        refine q6.run A cs (ip ++ pinsAt fp s5.heap) n t0 _ _ _ _ id id s6 gl hn (fun cs' n' i' t0' s7 f hn' hs7 => ?_) Z6
        have back : ∀ {σ7 : L2.St} {H7 : Hp}, ZI X cs' (ip ++ pinsAt fp s5.heap) σ7 H7 s7 → ZI X cs' ip σ7 H7 s7 := fun {σ7 H7} Z7 => ⟨by
          have := Z7.inv
          rw [← List.append_assoc] at this
          exact Inv.unpinned this, Z7.cl, fun p hp q hq => Z7.ap p (by
            rcases List.mem_append.mp hp with y | y
            · exact List.mem_append_left _ y
            · exact List.mem_append_right _ (List.mem_append_left _ y)) q hq, fun p hp => Z7.il p (List.mem_append_left _ hp)⟩
        have again : ∀ {σ7 : L2.St} {H7 : Hp}, ZI X cs' (ip ++ pinsAt fp s5.heap) σ7 H7 s7 → Pv (t + 1) i' σ7 H7 → Sg (model X.prog X.w) A (ZR (zpar X N out a go)) (ZY (zpar X N out a go)) n' cs' t0' (.forLoop tg (.ref it) sts [] X.env) (.pure (.again (.forLoop tg (.ref it) sts [] X.env)))
            (.ret (backIn X.env K J gd lv) none (gd false) (lv []) c p [] :: fs) s7 := fun {σ7 H7} Z7 n7 => by
          have pin7 : ∀ b ∈ fp, ∀ o, s5.heap.get? b = some o → s7.heap.get? b = some o ∧ H7 b = none := fun b hb o e =>
            let z := Z7.inv.pin (b, o) (List.mem_append_right _ (List.mem_append_right _ (List.mem_append_right _ (mem_pinsAt hb e))))
            ⟨z.1, z.2.1⟩
          refine sg_again rfl (ih (m - (t + 1)) (by omega) (t + 1) n' i' cs' t0' s7 σ7 H7 rfl hlt hn' n7 (T.keep _ _ _ st5 fun b hb o e => (pin7 b hb o e).1) (fun b hb => ?_) (fun b hb q hq => ?_) (back Z7))
          · obtain ⟨o, e, _⟩ := T.obj _ _ st5 b hb
            exact (pin7 b hb o e).2
          · obtain ⟨o, e, _⟩ := T.obj _ _ st5 b hb
            exact fun z => Z7.ap (b, o) (List.mem_append_right _ (List.mem_append_right _ (mem_pinsAt hb e))) q hq z.symm
        cases f with
        | next =>
          obtain ⟨σ7, H7, Z7, n7⟩ := hs7
          exact again Z7 n7
        | cont =>
          obtain ⟨σ7, H7, Z7, n7⟩ := hs7
          exact again Z7 n7
        | brk =>
          obtain ⟨σ7, H7, Z7, n7⟩ := hs7
          exact sg_leaf (.ok .next) (k cs' n' i' t0' s7 .next hn' ⟨σ7, H7, back Z7, n7⟩)
        | ret v =>
          obtain ⟨x7, σ7, H7, Z7, rv, n7⟩ := hs7
          exact sg_leaf (.ok (.ret v)) (k cs' n' i' t0' s7 (.ret v) hn' ⟨x7, σ7, H7, back Z7, rv, n7⟩)
      · have e : t = m := by omega
        subst e
        refine noX (wpAny_mono (T.done X rfl rfl rfl hc.calm t _ s σ H X.xe I.inv (stat fr) st (W.stop t H (Nat.le_refl _) hsame)) (fun r' s4 h4 => ?_) fun _ _ z => z)
        obtain ⟨hr, I4⟩ := h4
        subst hr
        refine sg_again rfl ?_
        show Sg _ _ _ _ _ _ _ _ ((execs [] X.env).wrap (fun f => .pure (.done f)) .raise id id) _ _
        exact sg_nil (sg_leaf (.ok .next) (k cs n i t0 s4 .next hn ⟨σ, H, ⟨I4, I.cl, I.ap, I.il⟩, hd i σ H pv⟩))
  refine loop (m - 0) 0 n i cs t0 s2 σ X.H_0 rfl (Nat.zero_le _) hn p0 st2 (fun b hb => sm.free (f2 b hb).1) (fun b hb q hq => ?_) ⟨I2, I.cl, I.ap, I.il⟩
  obtain ⟨_, _, _, _, _, q5⟩ := f2 b hb
  exact q5 q (List.mem_append_right _ (List.mem_append_left _ hq))
end
end Sv

/-! Such a generator def, by its body; its turns. -/
namespace Sv
open PySem PySem.Spec PyProof.Rows L2 GenW
theorem sg_func {Gh : Type} {prog : Program} {w : World} {A : Around} {R : GhR Gh} {Y : GhY Gh} {n : Nat} {a : Gh} {t0 s : Shared} {fs : List Frame} {env : Env} {body : List Stmt}
    (h : Sg (model prog w) A R Y n a t0 (.func body env) ((execs body env).wrap (fun f => leafOf (.ok (.ret (match f with | .ret v => v | _ => .none)))) (fun e => (leaving env e).wrap (fun _ => .raise e) .raise id id) id id) fs s) :
    Sg (model prog w) A R Y n a t0 (.func body env) ((model prog w).den (.func body env)) fs s := by
  show Sg _ A R Y n a t0 _ (.point [] fun _ => ((execs body env).onRaise (leaving env)) >>= _) fs s
  refine sg_point ?_
  rw [Sem.onRaise_eq_wrap, Sem.bind_eq_wrap', Sem.wrap_wrap]
  rw [Sem.wrap_congr (execs body env) _ _ (K' := fun f => leafOf (.ok (.ret (match f with | .ret v => v | _ => .none)))) (H' := fun e => (leaving env e).wrap (fun _ => .raise e) .raise id id) (fun f => by cases f <;> rfl)
    (fun e => by show ((leaving env e).bind fun _ => .raise e).wrap _ _ _ _ = _; rw [Sem.bind_eq_wrap, Sem.wrap_wrap]; rfl)]
  exact h
def zcx (P : Program) (w : World) (K : PySem.W.Frag) (mg : Str → Option Value) (base : Heap) (N : List Str) (qual : Str) (sc : Scope) (f : Addr) (cd : Value) (A : Around) (outer : List Env) (s0 : Shared) (T : Hp) (L : Addr) (pn : PinL) : Cx where
  prog := P
  w := w
  K := K
  mg := mg
  base := base
  A := A.deeper (envOfC qual sc L f cd)
  N := N
  s_0 := s0
  H_0 := T
  env := envOfC qual sc L f cd
  outer := outer
  stack := envOfC qual sc L f cd :: outer
  ex := []
  fn := fun _ => true
  calm := true
  pn := pn
  xe := fun _ _ => False
section
variable {P : Program} {w : World} {K : PySem.W.Frag} {mg : Str → Option Value} {base : Heap} {N ps L G B : List Str} {qual : Str} {sc : Scope} {f : Addr} {cd : Value} {A : Around} {outer : List Env} {s0 s s1 s2 : Shared} {T : Hp} {La : Addr} {pn : PinL}
theorem znm_of (h : gscB N ps L G B sc = true) (hb : ∀ x ∈ B, mg x = none) : Nm (zcx P w K mg base N qual sc f cd A outer s0 T La pn) N L L G B := by
  obtain ⟨F, hL, hG, hB⟩ := gscB_ok h
  exact ⟨rfl, F.nd, fun x hx => ⟨by rcases (hL x hx).1 with z | z; exact .inl z; exact .inr (.inl z), (hL x hx).2⟩, fun x hx => ⟨(hL x hx).1, .inl rfl⟩, hG, hb, hB, rfl⟩
def GenObj (go : Obj) (g : Nat) : Prop := go.cls = .type "generator" ∧ (∃ nm qn, go.data = .fields #[.int g 0, nm, qn]) ∧ go.slots = #[]
theorem GenObj.is {go : Obj} {g : Nat} {a : Addr} {h : Heap} (x : GenObj go g) (e : h.get? a = some go) : h.IsGen a g := by
  obtain ⟨c, ⟨nm, qn, d⟩, sl⟩ := x
  exact ⟨go, nm, qn, e, c, d, sl⟩
def ZMade (P : Program) (w : World) (k : Nat) (outer : List Env) (T : Hp) (s0 s : Shared) (out : Nat → Option V) (u : Value) (s' : Shared) : Prop :=
  ∃ (a : Addr) (g : Nat) (go : Obj) (c : Code) (own : PinL), u = .ref a ∧ GenObj go g ∧ (a, go) ∈ own ∧ s'.gens[g]? = some (.fresh c) ∧ (∀ (i : Nat) x, s.gens[i]? = some x → s'.gens[i]? = some x) ∧ BZ P w T (frs outer) s0 s' ∧ Pz s0.heap.objs.size s'.heap own ∧
    (∀ p ∈ own, s.heap.objs.size ≤ p.1) ∧ (∀ b o, s.heap.get? b = some o → s'.heap.get? b = some o) ∧ s.heap.objs.size ≤ s'.heap.objs.size ∧
    ∀ (M : Nat) (A : Around) (cs : PinL) (s2 : Shared), Room k A → A.frames = some outer → BZ P w T (frs outer) s0 s2 → Pz s0.heap.objs.size s2.heap own → Pz s0.heap.objs.size s2.heap cs → Apz own cs →
      Sg (model P w) A (ZR ⟨P, w, T, frs outer, s0, M, out, a, go⟩) (ZY ⟨P, w, T, frs outer, s0, M, out, a, go⟩) M cs s2 c ((model P w).den c) [] s2
abbrev SpZ := List V → Hp → (Nat → Option V) → Prop
structure ZFn (P : Program) (w : World) (K : PySem.W.Frag) (mg : Str → Option Value) (base : Heap) (k : Nat) (f : Addr) (fd : FuncData) (ps : List Str) (sp : SpZ) : Prop where
  len : ∀ vs T out, sp vs T out → vs.length = ps.length
  run : ∀ (A : Around) (outer : List Env) (s0 s : Shared) (T : Hp) (args : Args) (us : List Value) (vs : List V) (out : Nat → Option V), Room k A → Env0 P w K mg base A outer s0 T → Env0 P w K mg base A outer s T → s0.heap.objs.size ≤ s.heap.objs.size → BZ P w T (frs outer) s0 s → Tiny T →
    BindsTo s fd args (ps.zip us) → Vals vs us → sp vs T out → codeAny (model P w) A (.call (.ref f) args) (fun r s' => match r with | .ok (.ret u) => ZMade P w k outer T s0 s out u s' | _ => False) s
theorem zfn_by {k : Nat} {x : Str} {params : Arguments} {body : List Stmt} {fd : FuncData} {sp : SpZ}
    (F : FunD K x qual params body sc [] [] f fd) (S : gscB N ps L G B sc = true) (len : ∀ vs T out, sp vs T out → vs.length = ps.length) (hb : ∀ x ∈ B, mg x = none) (hnc : ∀ n, cellsFrom n sc.names [] = [])
    (hbody : ∀ (cd : Value) (A : Around) (outer : List Env) (s0 : Shared) (T : Hp) (La : Addr) (vs : List V) (out : Nat → Option V) (M : Nat) (a : Addr) (go : Obj) (pn : PinL), Room k (zcx P w K mg base N qual sc f cd A outer s0 T La pn).A → Nm (zcx P w K mg base N qual sc f cd A outer s0 T La pn) N L L G B →
      ZOk (zcx P w K mg base N qual sc f cd A outer s0 T La pn) a go → sp vs T out →
      ZWL (zcx P w K mg base N qual sc f cd A outer s0 T La pn) (zpar (zcx P w K mg base N qual sc f cd A outer s0 T La pn) M out a go) body { nx := fun i _ H' => Same T H' ∧ out i = none, rt := fun i v H' => v = .non ∧ Same T H' ∧ out i = none } 0 (start N vs) T) : ZFn P w K mg base (k + 1) f fd ps sp := by
  obtain ⟨oc, od, dV, kV, doc, pm, an, cdv, ct, osl, rfl, lk, hcd, _, _⟩ := F.ex
  have SG := (gscB_ok S).1
  refine ⟨len, fun A outer s0 s T args us vs out hr e00 e0 hsz g0 ti hbd r hsp => ?_⟩
  have hl := len _ _ _ hsp
  have KX : K.In s.heap := e0.mod.kin.keeps fun b o e => (e0.bs b o e).1
  have lim : s.heap.NoLimit := e0.mod.nolimit.keeps fun b o e => (e0.bs b o e).1
  have hkind : ∀ y ∈ ps.zip us, sc.names.lookup y.1 = some .local ∨ (sc.names.lookup y.1 = some .cell ∧ ((cellsFrom (s.heap.objs.size + 1) sc.names []).lookup y.1).isSome = true) := fun ⟨m, v⟩ hy => by
    rcases SG.par m (List.of_mem_zip hy).1 with q | q
    · exact .inl q
    · exact .inr ⟨q, PySem.W.cellsFrom_some _ _ _ (.inl q)⟩
  refine codeAny_call_generator hr.depth (KX _ _ lk) rfl SG.co SG.gen rfl (PySem.W.codeRec_of KX hcd) (hbd _ _ _ _ ?_)
  refine wpAny_newFunctionEnv_cells SG.kind hkind fun env he s1 x => ?_
  subst he
  refine ⟨lim.keeps x.toInCall.keep, ?_⟩
  obtain ⟨h1, tk, es1, hk1⟩ := x.done
  have os1 : s1.os = s.os := by rw [es1]
  have gen1 : s1.gens = s.gens := by rw [es1]
  have lt1 : s.heap.objs.size < s1.heap.objs.size := x.toInCall.ns.lt
  have kp1 : ∀ b o, s.heap.get? b = some o → s1.heap.get? b = some o := x.toInCall.keep
  have main : ∀ (go : Obj) (nm qn : Value) (tk2 : Nat), go.cls = .type "generator" → go.data = .fields #[.int s1.gens.size 0, nm, qn] → go.slots = #[] → (∀ h : Heap, (h.push go).get? h.objs.size = some go) →
      ZMade P w (k + 1) outer T s0 s out (.ref s1.heap.objs.size) { s1 with gens := s1.gens.push (.fresh (.func body (envOfC qual sc s.heap.objs.size f cdv))), toks := tk2, heap := s1.heap.push go } := by
    intro go nm qn tk2 hgc hgd0 hgs hgp
    obtain ⟨m0, ⟨oL, es, ep, hoL, hoLd, _⟩⟩ : ∃ m, s1.heap.Ns s.heap.objs.size m := ⟨_, x.toInCall.ns⟩
    have kp2 : ∀ b o, s1.heap.get? b = some o → (s1.heap.push go).get? b = some o := fun b o e => Heap.get?_push_of_some _ e
    have kp3 : ∀ b o, s.heap.get? b = some o → (s1.heap.push go).get? b = some o := fun b o e => kp2 b o (kp1 b o e)
    have hpz : Pz s0.heap.objs.size (s1.heap.push go) [(s.heap.objs.size, oL), (s1.heap.objs.size, go)] := fun p hp => by
      rcases List.mem_cons.mp hp with rfl | hp
      · exact ⟨kp2 _ _ hoL, hsz, fun v z => by rw [hoLd] at z; cases z⟩
      · obtain rfl := List.mem_singleton.mp hp
        exact ⟨hgp _, Nat.le_trans hsz (Nat.le_of_lt lt1), fun v z => by rw [hgd0] at z; cases z⟩
    refine ⟨s1.heap.objs.size, s1.gens.size, go, _, [(s.heap.objs.size, oL), (s1.heap.objs.size, go)], rfl, ⟨hgc, ⟨nm, qn, hgd0⟩, hgs⟩, by simp, Array.getElem?_push_size .., fun i y hy => ?_, ⟨os1.trans g0.os, AllBare.push (by rw [gen1]; exact e0.bare) rfl, g0.un.trans (Un.kept kp3), g0.hok.kept kp3⟩, hpz, fun p hp => ?_, kp3, ?_, ?_⟩
    · show (s1.gens.push _)[i]? = some y
      rw [gen1]
      have := (Array.getElem?_eq_some_iff.mp hy).1
      rw [Array.getElem?_push, if_neg (by omega)]
      exact hy
    · rcases List.mem_cons.mp hp with rfl | hp
      · exact Nat.le_refl _
      · obtain rfl := List.mem_singleton.mp hp
        exact Nat.le_of_lt lt1
    · show _ ≤ (s1.heap.push _).objs.size
      rw [Heap.size_push]
      exact Nat.le_succ_of_le (Nat.le_of_lt lt1)
    intro M Aw cs s2 hrw hfr g2 hz2 hzc hap
    have e0w : Env0 P w K mg base Aw outer s T := ⟨hfr, e0.mod, e0.bs, e0.bsz, e0.funs, e0.frf, e0.hok, e0.bare⟩
    have I1 : Inv (gcxOf P w K mg base N qual sc f cdv Aw outer s T E0 []) [] (start N vs) T s1 := inv_startG SG hrw.hd e0w hl r x
    have hcl : ∀ y c, (envOfC qual sc s.heap.objs.size f cdv).cells.lookup y ≠ some c := fun y c e => by
      have e : (cellsFrom (s.heap.objs.size + 1) sc.names []).lookup y = some c := e
      rw [hnc] at e
      cases e
    have ok2 : (zcx P w K mg base N qual sc f cdv Aw outer s0 T s.heap.objs.size [(s1.heap.objs.size, go)]).Ok :=
      ⟨I1.ok.mod, I1.ok.kind, I1.ok.glob, I1.ok.blt, hsz, I1.ok.inj, I1.ok.has, fun y c _ e => (hcl y c e).elim, I1.ok.hd, I1.ok.frames, .inr ⟨rfl, rfl⟩, fun b z => absurd (show b ∈ ([] : List Addr) from z) (by simp), e00.bs, e00.bsz, fun b _ _ z => absurd (show b ∈ ([] : List Addr) from z) (by simp),
        fun b z => absurd (show b ∈ ([] : List Addr) from z) (by simp), e00.funs, e00.frf⟩
    have k0 : ZOk (zcx P w K mg base N qual sc f cdv Aw outer s0 T s.heap.objs.size [(s1.heap.objs.size, go)]) s1.heap.objs.size go :=
      ⟨fun _ _ z => z, rfl, hcl, List.mem_singleton.mpr rfl, fun p hp => by rw [List.mem_singleton.mp hp]; exact Nat.le_trans hsz (Nat.le_of_lt lt1), e00.hok, ti⟩
    have hL2 := (hz2 _ List.mem_cons_self).1
    have ha2 := (hz2 (s1.heap.objs.size, go) (by simp)).1
    have Z2 : ZI (zcx P w K mg base N qual sc f cdv Aw outer s0 T s.heap.objs.size [(s1.heap.objs.size, go)]) cs [] (start N vs) T s2 := by
      refine ⟨⟨ok2, g2.os, g2.bare, g2.un, ?_, fun y c e => (hcl y c e).elim, I1.free, fun y c e => (hcl y c e).elim, fun p hp => ?_, g2.hok, I1.len⟩, fun q hq => (hzc q hq).2.1, fun p hp q hq => ?_, fun p hp => by cases hp⟩
      · obtain ⟨m, ⟨o, es, ep, ho, rr⟩, hlk⟩ := I1.loc
        have ho : s1.heap.get? s.heap.objs.size = some o := ho
        rw [hoL] at ho
        cases ho
        refine ⟨m, ⟨oL, es, ep, hL2, rr⟩, fun i y v q1 q2 q3 => ?_⟩
        obtain ⟨u, ru, lk⟩ := hlk i y v q1 q2 q3
        refine ⟨u, ru, ?_⟩
        rcases lk with z | ⟨_, c, z, _⟩
        · exact .inl z
        · exact (hcl y c z).elim
      · have hi : ∀ b, s0.heap.objs.size ≤ b → T b = none ∧ b ∉ frs outer := fun b hb => zhigh k0 ok2 hb
        rcases List.mem_append.mp hp with z | z
        · have z : p ∈ [(s1.heap.objs.size, go)] := z
          obtain rfl := List.mem_singleton.mp z
          obtain ⟨y1, y2⟩ := hi s1.heap.objs.size (Nat.le_trans hsz (Nat.le_of_lt lt1))
          exact ⟨ha2, y1, Nat.ne_of_gt lt1, y2, fun v q => by rw [show (s1.heap.objs.size, go).2 = go from rfl, hgd0] at q; cases q⟩
        · rw [List.append_nil] at z
          obtain ⟨c1, c2, c3⟩ := hzc p z
          obtain ⟨y1, y2⟩ := hi p.1 c2
          exact ⟨c1, y1, fun q => hap _ List.mem_cons_self p z q.symm, y2, c3⟩
      · have hp : p ∈ [(s1.heap.objs.size, go)] ++ [] := hp
        rw [List.append_nil] at hp
        obtain rfl := List.mem_singleton.mp hp
        exact hap (s1.heap.objs.size, go) (by simp) q hq
    have body0 := hbody cdv Aw outer s0 T s.heap.objs.size vs out M s1.heap.objs.size go [(s1.heap.objs.size, go)] (hrw.deeper _) (znm_of S hb) k0 hsp
    refine sg_func (body0.run Aw cs [] M s2 _ [] _ _ id id s2 ⟨over_func, rfl, rfl, rfl⟩ (Nat.add_zero _) (fun cs' n i t0 s' fl hn hs => ?_) Z2)
    have fin : ∀ {σ' : L2.St} {H' : Hp}, ZI (zcx P w K mg base N qual sc f cdv Aw outer s0 T s.heap.objs.size [(s1.heap.objs.size, go)]) cs' [] σ' H' s' → Same T H' → out i = none →
        ZR (zpar (zcx P w K mg base N qual sc f cdv Aw outer s0 T s.heap.objs.size [(s1.heap.objs.size, go)]) M out s1.heap.objs.size go) cs' n t0 (.ok (.ret .none)) s' := fun {σ' H'} Z sm ho => by
      have Z' := zdown k0 sm Z.inv
      refine ⟨rfl, ⟨i, hn, ho⟩, zground k0 Z', fun p hp => ?_, (Z'.pin (s1.heap.objs.size, go) (List.mem_append_left _ (List.mem_singleton.mpr rfl))).1⟩
      have z := Z'.pin p (List.mem_append_right _ (List.mem_append_left _ hp))
      exact ⟨z.1, Z.cl p hp, z.2.2.2.2⟩
    cases fl with
    | next =>
      obtain ⟨σ', H', Z, sm, ho⟩ := hs
      exact sg_end (.ok (.ret .none)) (fin Z sm ho)
    | brk => obtain ⟨_, _, _, q⟩ := hs; exact q.elim
    | cont => obtain ⟨_, _, _, q⟩ := hs; exact q.elim
    | ret u =>
      obtain ⟨v, σ', H', Z, rv, ev, sm, ho⟩ := hs
      subst ev
      have eu : u = Value.none := rv
      subst eu
      exact sg_end (.ok (.ret .none)) (fin Z sm ho)
  exact main _ _ _ _ rfl rfl rfl fun h => Heap.get?_push_size _ rfl
/-! ### a turn -/
/-- where such a generator stands: i items are out of at most M -/
def ZAt (P : Program) (w : World) (A : Around) (outer : List Env) (T : Hp) (s0 : Shared) (out : Nat → Option V) (a : Addr) (g : Nat) (go : Obj) (own : PinL) (M i : Nat) (gs : GenState) : Prop :=
  GenObj go g ∧ (a, go) ∈ own ∧ (i = 0 ∨ ∃ k0 l0 c0 p0 fs0 cl0, gs = .suspended k0 l0 c0 p0 fs0 cl0) ∧
    ∀ (cs : PinL) (s2 : Shared) (n : Nat), n + i = M → BZ P w T (frs outer) s0 s2 → Pz s0.heap.objs.size s2.heap own → Pz s0.heap.objs.size s2.heap cs → Apz own cs →
      GoesG (model P w) A (ZR ⟨P, w, T, frs outer, s0, M, out, a, go⟩) (ZY ⟨P, w, T, frs outer, s0, M, out, a, go⟩) n cs gs (.send .none) s2
theorem BZ.setGen {fs : List Addr} {g : Nat} {x : GenState} (h : BZ P w T fs s0 s) (hx : x.bare = true) : BZ P w T fs s0 (s.setGen g x) := ⟨h.os, allBare_setGen h.bare hx, h.un, h.hok⟩
theorem BZ.heap {fs : List Addr} {h' : Heap} {tk : Nat} (h : BZ P w T fs s0 s) (k : ∀ b o, s.heap.get? b = some o → h'.get? b = some o) : BZ P w T fs s0 { s with heap := h', toks := tk } := ⟨h.os, h.bare, h.un.trans (Un.kept k), h.hok.kept k⟩
theorem nextOf_gen {E : Value → Shared → Prop} {out : Nat → Option V} {a : Addr} {g : Nat} {go : Obj} {own cs : PinL} {M i : Nat} {gs : GenState} {Q : Value → Shared → Prop} (hh : A.handled = none) (hl : s.heap.NoLimit) (hroom : A.depth < recursionLimit)
    (z : ZAt P w A.in1 outer T s0 out a g go own M i gs) (hi : i < M) (hg : s.gens[g]? = some gs) (hb : BZ P w T (frs outer) s0 s) (ho : Pz s0.heap.objs.size s.heap own) (hc : Pz s0.heap.objs.size s.heap cs) (hap : Apz own cs)
    (hQ : ∀ x v s' own' gs', out i = some x → RelV x v → BZ P w T (frs outer) s0 s' → Pz s0.heap.objs.size s'.heap own' → Pz s0.heap.objs.size s'.heap cs → Apz own' cs → s'.gens[g]? = some gs' → ZAt P w A.in1 outer T s0 out a g go own' M (i + 1) gs' → Q v s')
    (hE : ∀ e s', out i = none → BZ P w T (frs outer) s0 s' → Pz s0.heap.objs.size s'.heap cs → (∃ o, s'.heap.get? e = some o ∧ o.cls = .type "StopIteration") → E (.ref e) s') :
    wpAny (model P w) A (Builtin.SmallTypes.nextOf (.ref a)) Q E s := by
  obtain ⟨hgo, hm, _, hz⟩ := z
  have hgen : s.heap.IsGen a g := hgo.is (ho _ hm).1
  obtain ⟨n, hn⟩ : ∃ n, n + 1 + i = M := ⟨M - i - 1, by omega⟩
  have hsz : g + 1 ≤ s.gens.size := (Array.getElem?_eq_some_iff.mp hg).1
  have hgoes := hz cs (s.setGen g .running) (n + 1) hn (hb.setGen rfl) ho hc hap
  refine wpAny_gsz hsz ?_
  unfold Builtin.SmallTypes.nextOf
  refine wpAny_bind (wpAny_callSpecial?_slot (name := Str.ofString "__next__") hgen.typeIs slot_gen_next (wpAny_call_entry slot_gen_next hgen.typeIs entry_gen_next ?_ (args_gen_next _)))
  show wpAny _ A.in1 (Builtin.Generator.genWake (.ref a) (.send .none)) _ _ s
  unfold Builtin.Generator.genWake
  refine wpAny_bind (wpAny_holding (wpAny_genNumber hgen (wpAny_bind (wpAny_genState hg ?_))))
  cases gs with
  | running => exact hgoes.elim
  | finished => exact hgoes.elim
  | _ =>
    refine wpAny_bind (wpAny_roomToWake hl hroom ?_)
    show wpAny _ A.in1 (.resume g (.send .none) [] _) _ _ s
    refine wp_resumeG hg hgoes (fun x t1 hx => ?_) (fun v t1 gs2 hb2 hsus hy => ?_)
    · obtain ⟨rfl, ⟨i', hi', hout⟩, q1, q2, q3⟩ := hx
      have hi' : n + 1 + i' = M := hi'
      obtain rfl : i' = i := by omega
      show wpAny _ A.in1 (newExc (.type "StopIteration") [] >>= _) _ _ _
      refine wpAny_bind ?_
      simp only [newExc, newTuple]
      refine wpAny_bind (wpAny_newObj_type ?_ (by size_fits))
      refine wpAny_bind (m := firstArgMember _ _) (wpAny_of_eq (a := Value.none) (by first | rfl | (simp only [firstArgMember]; rfl)) ?_)
      refine wpAny_newObj_type ?_ (by size_fits)
      simp only [raiseNew]
      refine wpAny_bind (wpAny_bind (wpAny_handled ?_))
      first | rw [show A.in1.handled = none from hh] | rw [hh]
      refine wpAny_throw (fun _ => ?_)
      refine hE _ _ hout ((q1.setGen (x := .finished) rfl).heap (tk := t1.toks) fun b o e => Heap.get?_push_of_some _ (Heap.get?_push_of_some _ e)) (fun p hp => ?_) ⟨_, Heap.get?_push_size _ rfl, rfl⟩
      obtain ⟨c1, c2, c3⟩ := q2 p hp
      exact ⟨Heap.get?_push_of_some _ (Heap.get?_push_of_some _ c1), c2, c3⟩
    · obtain ⟨i', x, own', hi', hx, rv, q1, q2, q3, q4, q5, q6⟩ := hy
      have hi' : n + 1 + i' = M := hi'
      obtain rfl : i' = i := by omega
      refine wpAny_pure ⟨v, rfl, wpAny_pure fun hs2 => ?_⟩
      refine hQ x v _ own' gs2 hx rv (q1.setGen hb2) q2 q3 q4 (setGen_at ?_) ⟨hgo, q5, .inr hsus, fun cs' s2 n' hn' r1 r2 r3 r4 => ?_⟩
      · rw [setGen_size] at hs2
        exact hs2
      · obtain rfl : n' = n := by omega
        exact q6 cs' s2 r1 r2 r3 r4
theorem ZMade.at {k : Nat} {out : Nat → Option V} {u : Value} {s' : Shared} (h : ZMade P w k outer T s0 s out u s') : ∃ (a : Addr) (g : Nat) (go : Obj) (c : Code) (own : PinL), u = .ref a ∧ s'.gens[g]? = some (.fresh c) ∧ BZ P w T (frs outer) s0 s' ∧ Pz s0.heap.objs.size s'.heap own ∧
    (∀ p ∈ own, s.heap.objs.size ≤ p.1) ∧ (∀ b o, s.heap.get? b = some o → s'.heap.get? b = some o) ∧ s.heap.objs.size ≤ s'.heap.objs.size ∧ (∀ (i : Nat) x, s.gens[i]? = some x → s'.gens[i]? = some x) ∧
    ∀ (A : Around) (M : Nat), Room k A → A.frames = some outer → ZAt P w A outer T s0 out a g go own M 0 (.fresh c) := by
  obtain ⟨a, g, go, c, own, e1, e2, e3, e4, e5, e6, e7, e8, e9, e10, h⟩ := h
  refine ⟨a, g, go, c, own, e1, e4, e6, e7, e8, e9, e10, e5, fun A M hr hf => ⟨e2, e3, .inl rfl, fun cs s2 n hn r1 r2 r3 r4 => ⟨rfl, ?_⟩⟩⟩
  obtain rfl : n = M := hn
  exact h n A cs s2 hr hf r1 r2 r3 r4
end
end Sv

/-! zip of two iterators of any kind, at the library's level. -/
namespace Sv
open PySem PySem.Spec PyProof.Rows L2 GenW
abbrev ZipAt (h : Heap) (z TI TO : Addr) (f0 : Value) (f1 : Bool) : Prop := h.get? z = some { cls := .type "zip", dict := none, data := .fields #[f0, .bool f1, .bool false, .ref TI, .ref TO], slots := #[] }
theorem wpAny_alive {M : Model} {A : Around} {E : Value → Shared → Prop} {s : Shared} {a : Addr} {Q : Option Obj → Shared → Prop} (h : Q (s.heap.get? a) s) : wpAny M A (loadIfAlive a) Q E s := fun Γ p _ => by
  show Sem.wp M Γ (.loadIfAlive a .pure) _ _ p s
  rw [Sem.wp_loadIfAlive, Sem.wp_pure]
  exact h
section
variable {prog : Program} {w : World} {A : Around} {E : Value → Shared → Prop} {s : Shared} {zz TI TO i1 i2 : Addr} {a b : Value}
/-- the first item: the zip's own tuple is free -/
theorem zip_first {Q : Value → Shared → Prop} (hz : ZipAt s.heap zz TI TO .none false) (pTI : IsPair s.heap TI (.ref i1) (.ref i2)) (pTO : IsPair s.heap TO a b) (hne : TO ≠ zz)
    (h : ∀ h1, ZipAt h1 zz TI TO .ellipsis false → Heap.SameBut zz s.heap h1 → wpAny (model prog w) A (Builtin.SmallTypes.nextOf (.ref i1)) (fun x s1 => IsPair s1.heap TO a b ∧ ∀ h3, IsPair h3 TO x b → Heap.SameBut TO s1.heap h3 →
      wpAny (model prog w) A (Builtin.SmallTypes.nextOf (.ref i2)) (fun y s2 => IsPair s2.heap TO x b ∧ ZipAt s2.heap zz TI TO .ellipsis false ∧ ∀ h', ZipAt h' zz TI TO (rawInt s2.heap.objs.size) false → IsPair h' TO x y → IsPair h' s2.heap.objs.size x y → h'.objs.size = s2.heap.objs.size + 1 →
          (∀ c o, c ≠ zz → c ≠ TO → s2.heap.get? c = some o → h'.get? c = some o) → Q (.ref s2.heap.objs.size) { s2 with heap := h' })
        (fun e s' => ZipAt s'.heap zz TI TO .ellipsis false ∧ ∀ h', Heap.SameBut zz s'.heap h' → E e { s' with heap := h' }) { s1 with heap := h3 })
      (fun e s' => ZipAt s'.heap zz TI TO .ellipsis false ∧ ∀ h', Heap.SameBut zz s'.heap h' → E e { s' with heap := h' }) { s with heap := h1 }) :
    wpAny (model prog w) A (Builtin.«zip.__next__» ⟨[.ref zz], []⟩) (fun fin s' => ∃ v, fin = .done (.ret v) ∧ Q v s') E s := by
  show wpAny _ _ (field (.ref zz) 2 >>= _) _ _ _
  refine wpAny_bind (wpAny_field hz rfl (x := .bool false) rfl ?_)
  show wpAny _ _ (field (.ref zz) 3 >>= _) _ _ _
  refine wpAny_bind (wpAny_field hz rfl (x := .ref TI) rfl ?_)
  refine wpAny_bind (wpAny_seqItems pTI rfl ?_)
  show wpAny _ _ (Builtin.SmallTypes.ownedTupleIsFree (.ref zz) >>= _) _ _ _
  refine wpAny_bind ?_
  (unfold Builtin.SmallTypes.ownedTupleIsFree; refine wpAny_bind (wpAny_field hz rfl (x := .none) rfl (wpAny_pure ?_)))
  simp only [if_true]
  refine wpAny_bind (wpAny_rule ?_)
  refine wpAny_bind (wpAny_field hz rfl (x := .ref TO) rfl ?_)
  refine wpAny_bind (wpAny_setField_rec hz (by simp) fun h1 z1 sb1 => ?_)
  replace z1 : ZipAt h1 zz TI TO .ellipsis false := z1
  refine wpAny_bind ?_
  (simp only [List.zipIdx_cons, List.zipIdx_nil, List.forIn_cons, List.forIn_nil]; refine wpAny_bind (wpAny_bind (wpAny_onRaise ?_)))
  have exc : ∀ (e : Value) (s' : Shared), (ZipAt s'.heap zz TI TO .ellipsis false ∧ ∀ h', Heap.SameBut zz s'.heap h' → E e { s' with heap := h' }) → wpAny (model prog w) A (setField (.ref zz) 0 .none) (fun _ s2 => E e s2) E s' := fun e s' q =>
    wpAny_setField_rec q.1 (by simp) fun h' _ sb => q.2 h' sb
  show wpAny _ _ (Builtin.SmallTypes.nextOf (.ref i1) >>= _) _ _ _
  refine wpAny_bind (wpAny_mono (h h1 z1 sb1) (fun x s1 q1 => wpAny_pure ?_) fun e s' q => exc e s' q)
  obtain ⟨pTO1, q1⟩ := q1
  refine wpAny_bind (wpAny_seqItems pTO1 rfl ?_)
  refine wpAny_bind (wpAny_updateSeq_pair pTO1 fun h3 pTO3 sb3 => ?_)
  replace pTO3 : IsPair h3 TO x b := pTO3
  refine wpAny_bind (wpAny_letGo (wpAny_pure ?_))
  refine wpAny_bind (wpAny_bind (wpAny_onRaise (?_ : wpAny _ _ (Builtin.SmallTypes.nextOf (.ref i2) >>= _) _ _ _)))
  refine wpAny_bind (wpAny_mono (q1 h3 pTO3 sb3) (fun y s2 q2 => wpAny_pure ?_) fun e s' q => exc e s' q)
  obtain ⟨pTO2, z2, q2⟩ := q2
  refine wpAny_bind (wpAny_seqItems pTO2 rfl ?_)
  refine wpAny_bind (wpAny_updateSeq_pair pTO2 fun h5 pTO5 sb5 => ?_)
  replace pTO5 : IsPair h5 TO x y := pTO5
  refine wpAny_bind (wpAny_letGo (wpAny_pure (wpAny_pure ?_)))
  refine wpAny_bind (wpAny_seqItems pTO5 rfl ?_)
  refine wpAny_bind (wpAny_newTuple ?_)
  have sz5 : h5.objs.size = s2.heap.objs.size := sb5.1
  have z5 : ZipAt h5 zz TI TO .ellipsis false := (sb5.2 _ hne.symm).trans z2
  have k5 : ∀ c o, c ≠ TO → s2.heap.get? c = some o → h5.get? c = some o := fun c o q e => (sb5.2 c q).trans e
  have ltz : zz < h5.objs.size := Heap.lt_size z5
  have ltTO : TO < h5.objs.size := Heap.lt_size pTO5
  show wpAny _ _ (Builtin.SmallTypes.ownedTupleHandOut (.ref zz) (.ref h5.objs.size) >>= _) _ _ _
  refine wpAny_bind ?_
  unfold Builtin.SmallTypes.ownedTupleHandOut
  have z6 : ZipAt (h5.push { cls := .type "tuple", data := .seq #[x, y] }) zz TI TO .ellipsis false := Heap.get?_push_of_some _ z5
  refine wpAny_bind (wpAny_setField_rec z6 (by simp) fun h7 z7 sb7 => ?_)
  replace z7 : ZipAt h7 zz TI TO (rawInt h5.objs.size) false := z7
  refine wpAny_setField_rec z7 (by simp) fun h8 z8 sb8 => ?_
  replace z8 : ZipAt h8 zz TI TO (rawInt h5.objs.size) false := z8
  have up : ∀ c o, c ≠ zz → h5.get? c = some o → h8.get? c = some o := fun c o q e => (sb8.2 c q).trans ((sb7.2 c q).trans (Heap.get?_push_of_some _ e))
  have T8 : IsPair h8 h5.objs.size x y := (sb8.2 _ (Nat.ne_of_gt ltz)).trans ((sb7.2 _ (Nat.ne_of_gt ltz)).trans (Heap.get?_push_size _ rfl))
  have sz8 : h8.objs.size = h5.objs.size + 1 := by rw [sb8.1, sb7.1, Heap.size_push]
  rw [sz5] at z8 T8 sz8
  refine wpAny_pure ⟨_, rfl, ?_⟩
  show Q (.ref h5.objs.size) _
  rw [sz5]
  exact q2 h8 z8 (up _ _ hne pTO5) T8 sz8 fun c o c1 c2 e => up c o c1 (k5 c o c2 e)
theorem owned_busy {T : Addr} {oT : Obj} {f1 : Bool} (hz : ZipAt s.heap zz TI TO (rawInt T) f1) (hT : s.heap.get? T = some oT) :
    wpAny (model prog w) A (Builtin.SmallTypes.ownedTupleIsFree (.ref zz)) (fun b s' => b = false ∧ ∃ h1, s' = { s with heap := h1 } ∧ ZipAt h1 zz TI TO (rawInt T) true ∧ (∀ c o, c ≠ zz → s.heap.get? c = some o → h1.get? c = some o) ∧ h1.objs.size = s.heap.objs.size) E s := by
  unfold Builtin.SmallTypes.ownedTupleIsFree
  refine wpAny_bind (wpAny_field hz rfl (x := rawInt T) rfl ?_)
  show wpAny _ _ (loadIfAlive ((T : Nat) : Int).toNat >>= _) _ _ s
  refine wpAny_bind (wpAny_alive ?_)
  rw [Int.toNat_natCast, hT]
  simp only [Option.isNone_some, Bool.false_eq_true, if_false]
  refine wpAny_bind (wpAny_field hz rfl (x := .bool f1) rfl ?_)
  cases f1 with
  | true =>
    rw [if_neg (by decide)]
    exact wpAny_pure ⟨rfl, s.heap, rfl, hz, fun _ _ _ e => e, rfl⟩
  | false =>
    rw [if_pos (by decide)]
    refine wpAny_bind (wpAny_setField_rec hz (by simp) fun h1 z1 sb1 => wpAny_pure ⟨rfl, h1, rfl, z1, fun c o q e => (sb1.2 c q).trans e, sb1.1⟩)
/-- a later item: the tuple that was handed out is alive -/
theorem zip_later {T : Addr} {oT : Obj} {f1 : Bool} {Q : Value → Shared → Prop} (hz : ZipAt s.heap zz TI TO (rawInt T) f1) (pTI : IsPair s.heap TI (.ref i1) (.ref i2)) (hT : s.heap.get? T = some oT)
    (h : ∀ h1, ZipAt h1 zz TI TO (rawInt T) true → (∀ c o, c ≠ zz → s.heap.get? c = some o → h1.get? c = some o) → h1.objs.size = s.heap.objs.size → wpAny (model prog w) A (Builtin.SmallTypes.nextOf (.ref i1)) (fun x s1 =>
      wpAny (model prog w) A (Builtin.SmallTypes.nextOf (.ref i2)) (fun y s2 => Q (.ref s2.heap.objs.size) { s2 with heap := s2.heap.push { cls := .type "tuple", data := .seq #[x, y] } }) E s1) E { s with heap := h1 }) :
    wpAny (model prog w) A (Builtin.«zip.__next__» ⟨[.ref zz], []⟩) (fun fin s' => ∃ v, fin = .done (.ret v) ∧ Q v s') E s := by
  show wpAny _ _ (field (.ref zz) 2 >>= _) _ _ _
  refine wpAny_bind (wpAny_field hz rfl (x := .bool false) rfl ?_)
  show wpAny _ _ (field (.ref zz) 3 >>= _) _ _ _
  refine wpAny_bind (wpAny_field hz rfl (x := .ref TI) rfl ?_)
  refine wpAny_bind (wpAny_seqItems pTI rfl ?_)
  show wpAny _ _ (Builtin.SmallTypes.ownedTupleIsFree (.ref zz) >>= _) _ _ _
  refine wpAny_bind (wpAny_mono (owned_busy hz hT) (fun b s' q => ?_) fun _ _ z => z)
  obtain ⟨rfl, h1, rfl, z1, k1, n1⟩ := q
  simp only [Bool.false_eq_true, if_false]
  refine wpAny_bind ?_
  rw [Array.forIn_toList.symm]
  simp only [List.forIn_cons, List.forIn_nil]
  refine wpAny_bind (wpAny_bind (wpAny_holding (?_ : wpAny _ _ (Builtin.SmallTypes.nextOf (.ref i1) >>= _) _ _ _)))
  refine wpAny_bind (wpAny_mono (h h1 z1 k1 n1) (fun x s1 q1 => wpAny_pure ?_) fun _ _ z => z)
  refine wpAny_pure ?_
  refine wpAny_bind (wpAny_bind (wpAny_holding (?_ : wpAny _ _ (Builtin.SmallTypes.nextOf (.ref i2) >>= _) _ _ _)))
  refine wpAny_bind (wpAny_mono q1 (fun y s2 q2 => wpAny_pure ?_) fun _ _ z => z)
  refine wpAny_pure (wpAny_pure ?_)
  refine wpAny_bind (wpAny_newTuple (items := [x, y]) ?_ (by show 2 ≤ sizeLine; decide))
  exact wpAny_pure ⟨_, rfl, q2⟩
end
end Sv

/-! zip of a list and a generator: its turns. -/
namespace Sv
open PySem PySem.Spec PyProof.Rows L2 GenW
section
variable {P : Program} {w : World} {T : Hp} {fs : List Addr} {s0 s : Shared}
theorem BZ.at {h' : Heap} {tk : Nat} (b : BZ P w T fs s0 s) (h0 : HOk P w T s0.heap) (k : ∀ c o, c < s0.heap.objs.size → s.heap.get? c = some o → h'.get? c = some o) : BZ P w T fs s0 { s with heap := h', toks := tk } :=
  ⟨b.os, b.bare, ⟨fun c o e n hb hx => k c o (Heap.lt_size e) (b.un.keep c o e n hb hx), fun c o e n hb hx => by
      obtain ⟨sl, e1⟩ := b.un.slot c o e n hb hx
      exact ⟨sl, k c _ (Heap.lt_size e) e1⟩, fun _ _ _ n _ => n, fun c o e hx => by
      obtain ⟨o', e1⟩ := b.un.there c o e hx
      exact ⟨o', k c _ (Heap.lt_size e) e1⟩, b.un.tups, b.un.frzs, b.un.tbls⟩,
    fun c u e => (b.hok c u e).stay (fun d ob hd z => k d ob (by
      rcases hd with rfl | hd
      · exact (h0 _ u e).lt
      · exact (h0 _ _ hd).lt) z) (fun _ z => z) fun _ _ z => z⟩
theorem Pz.at {n0 : Nat} {h h' : Heap} {ps : PinL} (x : Pz n0 h ps) (k : ∀ p ∈ ps, ∀ o, h.get? p.1 = some o → h'.get? p.1 = some o) : Pz n0 h' ps := fun p hp => by
  obtain ⟨a, b, c⟩ := x p hp
  exact ⟨k p hp _ a, b, c⟩
theorem Pz.cons {n0 : Nat} {h : Heap} {ps : PinL} {a : Addr} {o : Obj} (h1 : h.get? a = some o) (h2 : n0 ≤ a) (h3 : ∀ v, o.data ≠ .cell v) (x : Pz n0 h ps) : Pz n0 h ((a, o) :: ps) := fun p hp => by
  rcases List.mem_cons.mp hp with rfl | hp
  · exact ⟨h1, h2, h3⟩
  · exact x p hp
theorem Apz.cons {own cs : PinL} {a : Addr} {o : Obj} (h : ∀ p ∈ own, p.1 ≠ a) (x : Apz own cs) : Apz own ((a, o) :: cs) := fun p hp q hq => by
  rcases List.mem_cons.mp hq with rfl | hq
  · exact h p hp
  · exact x p hp q hq
end
/-- zip over the list at l and the generator at a: i items are out; busy: the tuple that was handed out -/
structure ZSt (P : Program) (w : World) (A : Around) (outer : List Env) (T : Hp) (sc : Shared) (out : Nat → Option V) (xs : Array Value) (l zz TI TO i1 a : Addr) (g : Nat) (go : Obj) (M i : Nat) (own : PinL) (gs : GenState) (busy : Option Addr) (s : Shared) : Prop where
  gr : BZ P w T (frs outer) sc s
  ow : Pz sc.heap.objs.size s.heap own
  at_ : ZAt P w A outer T sc out a g go own M i gs
  gn : s.gens[g]? = some gs
  hl : ∃ ol, s.heap.get? l = some ol ∧ ∀ h : Heap, h.get? l = some ol → h.IsList l xs
  ll : l < sc.heap.objs.size
  lT : T l = none ∧ l ∉ frs outer ∧ ∃ o, sc.heap.get? l = some o
  it : s.heap.IsListIter i1 l i
  ti : IsPair s.heap TI (.ref i1) (.ref a)
  to : ∃ x y, IsPair s.heap TO x y
  zp : match busy with
    | none => ZipAt s.heap zz TI TO .none false
    | some t => ∃ f1, ZipAt s.heap zz TI TO (rawInt t) f1
  hi : sc.heap.objs.size ≤ zz ∧ sc.heap.objs.size ≤ TI ∧ sc.heap.objs.size ≤ TO ∧ sc.heap.objs.size ≤ i1
  ne : zz ≠ TI ∧ zz ≠ TO ∧ zz ≠ i1 ∧ TI ≠ TO ∧ TI ≠ i1 ∧ TO ≠ i1
  ap : ∀ p ∈ own, p.1 ≠ zz ∧ p.1 ≠ TI ∧ p.1 ≠ TO ∧ p.1 ≠ i1
section
variable {P : Program} {w : World} {A : Around} {outer : List Env} {T : Hp} {sc s : Shared} {out : Nat → Option V} {xs : Array Value} {l zz TI TO i1 a : Addr} {g : Nat} {go : Obj} {M i : Nat} {own : PinL} {gs : GenState} {busy : Option Addr}
theorem addr_ne {n0 c b : Nat} (h1 : c < n0) (h2 : n0 ≤ b) : c ≠ b := fun z => absurd (z ▸ h1) (Nat.not_lt.mpr h2)
theorem mem4 {q : Addr × Obj} {a1 a2 a3 a4 : Addr} {o1 o2 o3 o4 : Obj} (h : q ∈ [(a1, o1), (a2, o2), (a3, o3), (a4, o4)]) : q.1 = a1 ∨ q.1 = a2 ∨ q.1 = a3 ∨ q.1 = a4 := by
  rcases List.mem_cons.mp h with rfl | h
  · exact .inl rfl
  rcases List.mem_cons.mp h with rfl | h
  · exact .inr (.inl rfl)
  rcases List.mem_cons.mp h with rfl | h
  · exact .inr (.inr (.inl rfl))
  rw [List.mem_singleton.mp h]
  exact .inr (.inr (.inr rfl))
theorem noCellPair {x y : Value} : ∀ v, ({ cls := .type "tuple", data := .seq #[x, y] } : Obj).data ≠ .cell v := fun v e => by cases e
theorem noCellZip {x : Value} {f1 : Bool} : ∀ v, ({ cls := .type "zip", dict := none, data := .fields #[x, .bool f1, .bool false, .ref TI, .ref TO], slots := #[] } : Obj).data ≠ .cell v := fun v e => by cases e
theorem zip_turn {E : Value → Shared → Prop} {Q : Option Value → Shared → Prop} {cx : PinL} {u : Value} (hh : A.handled = none) (lim : ∀ s, BZ P w T (frs outer) sc s → s.heap.NoLimit) (hroom : A.in1.depth < recursionLimit) (h0 : HOk P w T sc.heap)
    (st : ZSt P w A.in1.in1 outer T sc out xs l zz TI TO i1 a g go M i own gs busy s) (hi : i < M) (hx : xs[i]? = some u) (ho : out i ≠ none) (hc : Pz sc.heap.objs.size s.heap cx) (hcx : ∀ q ∈ cx, q.1 ≠ zz ∧ q.1 ≠ TI ∧ q.1 ≠ TO ∧ q.1 ≠ i1) (hco : Apz own cx)
    (hb : ∀ t, busy = some t → ∃ o, (t, o) ∈ cx)
    (hQ : ∀ y v Tn bz own' gs' s', (bz = Tn ∨ busy = some bz) → out i = some y → RelV y v → IsPair s'.heap Tn u v → sc.heap.objs.size ≤ Tn → (∀ q ∈ cx, q.1 ≠ Tn) → (∀ p ∈ own', p.1 ≠ Tn) → Tn ≠ zz → Tn ≠ TI → Tn ≠ TO → Tn ≠ i1 → Pz sc.heap.objs.size s'.heap cx → Apz own' cx →
      ZSt P w A.in1.in1 outer T sc out xs l zz TI TO i1 a g go M (i + 1) own' gs' (some bz) s' → Q (some (.ref Tn)) s') :
    wpAny (model P w) A (pyNext (.ref zz)) Q E s := by
  obtain ⟨n1, n2, n3, n4, n5, n6⟩ := st.ne
  obtain ⟨m1, m2, m3, m4⟩ := st.hi
  obtain ⟨ol, hol, hlist⟩ := st.hl
  have lne : ∀ b, sc.heap.objs.size ≤ b → l ≠ b := fun b h => addr_ne st.ll h
  -- the generator's turn, from a state in which only the zip's own objects differ from s
  have turn : ∀ {E' : Value → Shared → Prop} (h3 : Heap) (cz : PinL) (K : Value → Shared → Prop), (∀ c o, c ≠ zz → c ≠ TO → c ≠ i1 → s.heap.get? c = some o → h3.get? c = some o) → Pz sc.heap.objs.size h3 cz → Apz own cz →
      (∀ y v s' own' gs', out i = some y → RelV y v → BZ P w T (frs outer) sc s' → Pz sc.heap.objs.size s'.heap own' → Pz sc.heap.objs.size s'.heap (cz ++ cx) → Apz own' (cz ++ cx) → s'.gens[g]? = some gs' → ZAt P w A.in1.in1 outer T sc out a g go own' M (i + 1) gs' → s'.heap.get? l = some ol → K v s') →
      wpAny (model P w) A.in1 (Builtin.SmallTypes.nextOf (.ref a)) K E' { s with heap := h3 } := fun h3 cz K k3 hz hza hK => by
    have g3 : BZ P w T (frs outer) sc { s with heap := h3 } := st.gr.at h0 fun c o hlt e => k3 c o (addr_ne hlt m1) (addr_ne hlt m3) (addr_ne hlt m4) e
    have oneC : Pz sc.heap.objs.size h3 (cz ++ cx) := fun p hp => by
      rcases List.mem_append.mp hp with z | z
      · exact hz p z
      · obtain ⟨c1, c2, c3⟩ := hc p z
        obtain ⟨d1, _, d3, d4⟩ := hcx p z
        exact ⟨k3 _ _ d1 d3 d4 c1, c2, c3⟩
    have twoC : Apz own (cz ++ cx) := fun p hp q hq => by
      rcases List.mem_append.mp hq with z | z
      · exact hza p hp q z
      · exact hco p hp q z
    refine nextOf_gen (A := A.in1) (cs := cz ++ cx) hh (lim _ g3) hroom st.at_ hi st.gn g3 (st.ow.at fun p hp o e => ?_) oneC twoC (fun y v s' own' gs' q1 q2 q3 q4 q5 q6 q7 q8 => hK y v s' own' gs' q1 q2 q3 q4 q5 q6 q7 q8 ?_) fun e s' z => absurd z ho
    · obtain ⟨d1, _, d3, d4⟩ := st.ap p hp
      exact k3 _ _ d1 d3 d4 e
    · have lsc : sc.heap.get? l = some ol := by
        obtain ⟨t1, t2, o, e⟩ := st.lT
        have := st.gr.un.keep l o e t1 t2 (by simp)
        rw [hol] at this
        cases this
        exact e
      exact q3.un.keep l ol lsc st.lT.1 st.lT.2.1 (by simp)
  have hT : s.TypeIs (.ref zz) "zip" := by
    have := st.zp
    cases busy with
    | none => exact ⟨_, this, rfl⟩
    | some t => obtain ⟨f1, z⟩ := this; exact ⟨_, z, rfl⟩
  unfold pyNext
  refine wpAny_bind (wpAny_attempt (wpAny_callSpecial?_slot (name := Str.ofString "__next__") hT F.slot_zip_next (wpAny_call_entry F.slot_zip_next hT F.entry_zip_next ?_ (F.args_zip_next_1 _))))
  have itAt : ∀ {h : Heap}, (∀ o, s.heap.get? i1 = some o → h.get? i1 = some o) → h.IsListIter i1 l i := fun {h} k => by
    obtain ⟨o, e1, e2, e3⟩ := st.it
    exact ⟨o, k o e1, e2, e3⟩
  cases busy with
  | none =>
    have hz : ZipAt s.heap zz TI TO .none false := st.zp
    obtain ⟨x0, y0, hTO⟩ := st.to
    refine zip_first hz st.ti hTO n2.symm fun h1 z1 sb1 => ?_
    refine wpAny_nextOf_list_item (s := { s with heap := h1 }) (itAt fun o e => (sb1.2 _ n3.symm).trans e) (hlist h1 ((sb1.2 _ (lne _ m1)).trans hol)) hx fun h2 it2 sb2 => ⟨(sb2.2 _ n6).trans ((sb1.2 _ n2.symm).trans hTO), fun h3 pTO3 sb3 => ?_⟩
    have z3 : ZipAt h3 zz TI TO .ellipsis false := (sb3.2 _ n2).trans ((sb2.2 _ n3).trans z1)
    have it3 : h3.IsListIter i1 l (i + 1) := by
      obtain ⟨o, e1, e2, e3⟩ := it2
      exact ⟨o, (sb3.2 _ n6.symm).trans e1, e2, e3⟩
    have k3 : ∀ c o, c ≠ zz → c ≠ TO → c ≠ i1 → s.heap.get? c = some o → h3.get? c = some o := fun c o c1 c2 c3 e => (sb3.2 c c2).trans ((sb2.2 c c3).trans ((sb1.2 c c1).trans e))
    obtain ⟨oi, ei1, ei2, ei3⟩ := id it3
    have ti3 : IsPair h3 TI (.ref i1) (.ref a) := k3 _ _ n1.symm n4 n5 st.ti
    refine turn h3 [(zz, { cls := .type "zip", dict := none, data := .fields #[.ellipsis, .bool false, .bool false, .ref TI, .ref TO], slots := #[] }), (TO, { cls := .type "tuple", data := .seq #[u, y0] }), (TI, { cls := .type "tuple", data := .seq #[.ref i1, .ref a] }), (i1, oi)] _ k3
      (.cons z3 m1 noCellZip (.cons pTO3 m3 noCellPair (.cons ti3 m2 noCellPair (.cons ei1 m4 (fun v q => by rw [ei3] at q; cases q) fun p hp => by cases hp)))) (fun p hp q hq => ?_) fun y v s' own' gs' q1 q2 q3 q4 q5 q6 q7 q8 q9 => ?_
    · obtain ⟨d1, d2, d3, d4⟩ := st.ap p hp
      rcases mem4 hq with z | z | z | z
      · rw [z]; exact d1
      · rw [z]; exact d3
      · rw [z]; exact d2
      · rw [z]; exact d4
    · have a1 := (q5 _ (List.mem_append_left _ List.mem_cons_self)).1
      have a2 := (q5 (TO, _) (List.mem_append_left _ (List.mem_cons_of_mem _ List.mem_cons_self))).1
      have a3 := (q5 (TI, _) (List.mem_append_left _ (List.mem_cons_of_mem _ (List.mem_cons_of_mem _ List.mem_cons_self)))).1
      have a4 := (q5 (i1, _) (List.mem_append_left _ (List.mem_cons_of_mem _ (List.mem_cons_of_mem _ (List.mem_cons_of_mem _ List.mem_cons_self))))).1
      refine ⟨a2, a1, fun h' z' pTO' pT' sz' k' => wpAny_pure ?_⟩
      have lt : ∀ {c : Addr} {o : Obj}, s'.heap.get? c = some o → c ≠ s'.heap.objs.size := fun e => Nat.ne_of_lt (Heap.lt_size e)
      refine hQ y v s'.heap.objs.size _ own' gs' _ (.inl rfl) q1 q2 pT' (Nat.le_trans m1 (Nat.le_of_lt (Heap.lt_size a1))) (fun q hq => lt (q5 q (List.mem_append_right _ hq)).1) (fun p hp => lt (q4 p hp).1) (lt a1).symm (lt a3).symm (lt a2).symm (lt a4).symm ?_ (fun p hp q hq => q6 p hp q (List.mem_append_right _ hq))
        ⟨q3.at (tk := s'.toks) h0 fun c o hlt e => k' c o (addr_ne hlt m1) (addr_ne hlt m3) e, q4.at fun p hp o e => k' _ o ?_ ?_ e, q8, q7, ⟨ol, k' _ _ (lne _ m1) (lne _ m3) q9, hlist⟩, st.ll, st.lT, ?_, k' _ _ n1.symm n4 a3, ⟨_, _, pTO'⟩, ⟨false, z'⟩, st.hi, st.ne, fun p hp => ?_⟩
      · exact fun p hp => by
          obtain ⟨c1, c2, c3⟩ := q5 p (List.mem_append_right _ hp)
          obtain ⟨d1, _, d3, _⟩ := hcx p hp
          exact ⟨k' _ _ d1 d3 c1, c2, c3⟩
      · exact q6 p hp _ (List.mem_append_left _ List.mem_cons_self)
      · exact q6 p hp (TO, _) (List.mem_append_left _ (List.mem_cons_of_mem _ List.mem_cons_self))
      · exact ⟨oi, k' _ _ n3.symm n6.symm a4, ei2, ei3⟩
      · exact ⟨q6 p hp _ (List.mem_append_left _ List.mem_cons_self), q6 p hp (TI, _) (List.mem_append_left _ (List.mem_cons_of_mem _ (List.mem_cons_of_mem _ List.mem_cons_self))),
          q6 p hp (TO, _) (List.mem_append_left _ (List.mem_cons_of_mem _ List.mem_cons_self)), q6 p hp (i1, _) (List.mem_append_left _ (List.mem_cons_of_mem _ (List.mem_cons_of_mem _ (List.mem_cons_of_mem _ List.mem_cons_self))))⟩
  | some t =>
    obtain ⟨f1, hz⟩ := st.zp
    obtain ⟨x0, y0, hTO⟩ := st.to
    obtain ⟨ot, hot⟩ := hb t rfl
    refine zip_later hz st.ti (hc _ hot).1 fun h1 z1 k1 sz1 => ?_
    refine wpAny_nextOf_list_item (s := { s with heap := h1 }) (itAt fun o e => k1 _ o n3.symm e) (hlist h1 (k1 _ _ (lne _ m1) hol)) hx fun h2 it2 sb2 => ?_
    have k3 : ∀ c o, c ≠ zz → c ≠ TO → c ≠ i1 → s.heap.get? c = some o → h2.get? c = some o := fun c o c1 c2 c3 e => (sb2.2 c c3).trans (k1 c o c1 e)
    have z3 : ZipAt h2 zz TI TO (rawInt t) true := (sb2.2 _ n3).trans z1
    obtain ⟨oi, ei1, ei2, ei3⟩ := id it2
    have ti3 : IsPair h2 TI (.ref i1) (.ref a) := k3 _ _ n1.symm n4 n5 st.ti
    have to3 : IsPair h2 TO x0 y0 := (sb2.2 _ n6).trans (k1 _ _ n2.symm hTO)
    refine turn h2 [(zz, { cls := .type "zip", dict := none, data := .fields #[rawInt t, .bool true, .bool false, .ref TI, .ref TO], slots := #[] }), (TO, { cls := .type "tuple", data := .seq #[x0, y0] }), (TI, { cls := .type "tuple", data := .seq #[.ref i1, .ref a] }), (i1, oi)] _ k3
      (.cons z3 m1 noCellZip (.cons to3 m3 noCellPair (.cons ti3 m2 noCellPair (.cons ei1 m4 (fun v q => by rw [ei3] at q; cases q) fun p hp => by cases hp)))) (fun p hp q hq => ?_) fun y v s' own' gs' q1 q2 q3 q4 q5 q6 q7 q8 q9 => ?_
    · obtain ⟨d1, d2, d3, d4⟩ := st.ap p hp
      rcases mem4 hq with z | z | z | z
      · rw [z]; exact d1
      · rw [z]; exact d3
      · rw [z]; exact d2
      · rw [z]; exact d4
    · have a1 := (q5 _ (List.mem_append_left _ List.mem_cons_self)).1
      have a2 := (q5 (TO, _) (List.mem_append_left _ (List.mem_cons_of_mem _ List.mem_cons_self))).1
      have a3 := (q5 (TI, _) (List.mem_append_left _ (List.mem_cons_of_mem _ (List.mem_cons_of_mem _ List.mem_cons_self)))).1
      have a4 := (q5 (i1, _) (List.mem_append_left _ (List.mem_cons_of_mem _ (List.mem_cons_of_mem _ (List.mem_cons_of_mem _ List.mem_cons_self))))).1
      have lt : ∀ {c : Addr} {o : Obj}, s'.heap.get? c = some o → c ≠ s'.heap.objs.size := fun e => Nat.ne_of_lt (Heap.lt_size e)
      have kp : ∀ c o, s'.heap.get? c = some o → (s'.heap.push { cls := .type "tuple", data := .seq #[u, v] }).get? c = some o := fun c o e => Heap.get?_push_of_some _ e
      refine wpAny_pure ?_
      refine hQ y v s'.heap.objs.size t own' gs' _ (.inr rfl) q1 q2 (Heap.get?_push_size _ rfl) (Nat.le_trans m1 (Nat.le_of_lt (Heap.lt_size a1))) (fun q hq => lt (q5 q (List.mem_append_right _ hq)).1) (fun p hp => lt (q4 p hp).1) (lt a1).symm (lt a3).symm (lt a2).symm (lt a4).symm
        (fun p hp => let ⟨c1, c2, c3⟩ := q5 p (List.mem_append_right _ hp); ⟨kp _ _ c1, c2, c3⟩) (fun p hp q hq => q6 p hp q (List.mem_append_right _ hq))
        ⟨q3.at (tk := s'.toks) h0 fun c o _ e => kp c o e, q4.at fun p hp o e => kp _ o e, q8, q7, ⟨ol, kp _ _ q9, hlist⟩, st.ll, st.lT, ⟨oi, kp _ _ a4, ei2, ei3⟩, kp _ _ a3, ⟨_, _, kp _ _ a2⟩, ?_, st.hi, st.ne, fun p hp => ?_⟩
      · exact ⟨true, kp _ _ a1⟩
      · exact ⟨q6 p hp _ (List.mem_append_left _ List.mem_cons_self), q6 p hp (TI, _) (List.mem_append_left _ (List.mem_cons_of_mem _ (List.mem_cons_of_mem _ List.mem_cons_self))),
          q6 p hp (TO, _) (List.mem_append_left _ (List.mem_cons_of_mem _ List.mem_cons_self)), q6 p hp (i1, _) (List.mem_append_left _ (List.mem_cons_of_mem _ (List.mem_cons_of_mem _ (List.mem_cons_of_mem _ List.mem_cons_self))))⟩
theorem zip_done {E : Value → Shared → Prop} {Q : Option Value → Shared → Prop} (hh : A.handled = none) (h0 : HOk P w T sc.heap) {B : Around} (st : ZSt P w B outer T sc out xs l zz TI TO i1 a g go M i own gs busy s) (hx : xs[i]? = none)
    (hb : ∀ t, busy = some t → ∃ o, s.heap.get? t = some o)
    (hQ : ∀ s', BZ P w T (frs outer) sc s' → (∀ c o, c ≠ zz → c ≠ i1 → s.heap.get? c = some o → s'.heap.get? c = some o) → Q none s') : wpAny (model P w) A (pyNext (.ref zz)) Q E s := by
  obtain ⟨n1, n2, n3, n4, n5, n6⟩ := st.ne
  obtain ⟨m1, m2, m3, m4⟩ := st.hi
  obtain ⟨ol, hol, hlist⟩ := st.hl
  have lne : ∀ b, sc.heap.objs.size ≤ b → l ≠ b := fun b h => addr_ne st.ll h
  have itAt : ∀ {h : Heap}, (∀ o, s.heap.get? i1 = some o → h.get? i1 = some o) → h.IsListIter i1 l i := fun {h} k => by
    obtain ⟨o, e1, e2, e3⟩ := st.it
    exact ⟨o, k o e1, e2, e3⟩
  have hT : s.TypeIs (.ref zz) "zip" := by
    have := st.zp
    cases busy with
    | none => exact ⟨_, this, rfl⟩
    | some t => obtain ⟨f1, z⟩ := this; exact ⟨_, z, rfl⟩
  unfold pyNext
  refine wpAny_bind (wpAny_attempt (wpAny_callSpecial?_slot (name := Str.ofString "__next__") hT F.slot_zip_next (wpAny_call_entry F.slot_zip_next hT F.entry_zip_next ?_ (F.args_zip_next_1 _))))
  have fin : ∀ (h' : Heap) (e : Addr), (∀ c o, c ≠ zz → c ≠ i1 → s.heap.get? c = some o → h'.get? c = some o) → (∃ o, h'.get? e = some o ∧ o.cls = .type "StopIteration") →
      wpAny (model P w) A (do if ← isInstance (.ref e) (.type "StopIteration") then pure none else throw (.ref e) : Sem (Option Value)) Q E { s with heap := h' } := fun h' e k he => by
    obtain ⟨o, ho, hcl⟩ := he
    refine wpAny_bind (wpAny_isInstance (T := "StopIteration") (b := true) ⟨o, ho, hcl⟩ isSubtype_stop ?_)
    exact wpAny_pure (hQ _ (st.gr.at (tk := s.toks) h0 fun c o hlt e => k c o (addr_ne hlt m1) (addr_ne hlt m4) e) k)
  cases busy with
  | none =>
    have hz : ZipAt s.heap zz TI TO .none false := st.zp
    obtain ⟨x0, y0, hTO⟩ := st.to
    refine zip_first hz st.ti hTO n2.symm fun h1 z1 sb1 => ?_
    refine wpAny_nextOf_list_end (s := { s with heap := h1 }) hh (itAt fun o e => (sb1.2 _ n3.symm).trans e) (hlist h1 ((sb1.2 _ (lne _ m1)).trans hol)) hx fun h2 e sb2 he => ?_
    have z2 : ZipAt h2 zz TI TO .ellipsis false := sb2 _ _ n3 z1
    refine ⟨z2, fun h3 sb3 => fin h3 e (fun c o c1 c2 q => (sb3.2 c c1).trans (sb2 c o c2 ((sb1.2 c c1).trans q))) ?_⟩
    obtain ⟨o, ho, hcl⟩ := he
    have hez : e ≠ zz := fun x => by
      subst x
      rw [z2] at ho
      cases ho
      simp at hcl
    exact ⟨o, (sb3.2 e hez).trans ho, hcl⟩
  | some t =>
    obtain ⟨f1, hz⟩ := st.zp
    obtain ⟨ot, hot⟩ := hb t rfl
    refine zip_later hz st.ti hot fun h1 z1 k1 sz1 => ?_
    exact wpAny_nextOf_list_end (s := { s with heap := h1 }) hh (itAt fun o e => k1 _ o n3.symm e) (hlist h1 (k1 _ _ (lne _ m1) hol)) hx fun h2 e sb2 he => fin h2 e (fun c o c1 c2 q => sb2 c o c2 (k1 c o c1 q)) he
end
end Sv

/-! zip(list, generator): the call. -/
namespace Sv
open PySem PySem.Spec PyProof.Rows L2 GenW
abbrev lgH1 (h : Heap) (l : Addr) : Heap := h.push { cls := .type "list_iterator", data := .fields #[.ref l, .int 0 0] }
abbrev lgH2 (h : Heap) (l a : Addr) : Heap := (lgH1 h l).push { cls := .type "tuple", data := .seq #[.ref h.objs.size, .ref a] }
abbrev lgH3 (h : Heap) (l a : Addr) : Heap := (lgH2 h l a).push { cls := .type "tuple", data := .seq #[.none, .none] }
abbrev lgH4 (h : Heap) (l a : Addr) : Heap := (lgH3 h l a).push { cls := .type "zip", data := .fields #[.none, .bool false, .bool false, .ref (lgH1 h l).objs.size, .ref (lgH2 h l a).objs.size] }
theorem meets_zip_lg (l a : Addr) (g : Nat) (xs : Array Value) : Meets (Builtin.«zip.__new__» ⟨[.type "zip", .ref l, .ref a], []⟩) (fun _ R s => s.heap.IsList l xs ∧ s.heap.IsGen a g ∧ R (.ok (.ret (.ref (lgH3 s.heap l a).objs.size))) { s with heap := lgH4 s.heap l a }) :=
  .of_wp fun prog w A R s h => by
    obtain ⟨hp, gs, d, tk, os⟩ := s
    obtain ⟨hl1, hl2, h⟩ := h
    have hsub := sub_zip
    have pL : Heap.IsList (Shared.heap ⟨hp, gs, d, tk, os⟩) l xs := hl1
    have pG : Heap.IsGen (Shared.heap ⟨hp.push { cls := .type "list_iterator", data := .fields #[.ref l, .int 0 0] }, gs, d, tk, os⟩) a g := by
      obtain ⟨o, nm, qn, e1, e2⟩ := hl2
      exact ⟨o, nm, qn, Heap.get?_push_of_some _ e1, e2⟩
    wp_walk using wpAny_pyIter_list pL, wpAny_pyIter_gen pG
    exact ⟨_, rfl, h⟩
theorem call_zip_lg {prog : Program} {w : World} {A : Around} {E : Value → Shared → Prop} {s : Shared} {l a : Addr} {g : Nat} {xs : Array Value} {Q : Value → Shared → Prop} (hl : s.heap.IsList l xs) (hg : s.heap.IsGen a g)
    (h : ∀ h', ZipAt h' (s.heap.objs.size + 3) (s.heap.objs.size + 1) (s.heap.objs.size + 2) .none false → IsPair h' (s.heap.objs.size + 1) (.ref s.heap.objs.size) (.ref a) → IsPair h' (s.heap.objs.size + 2) .none .none → h'.IsListIter s.heap.objs.size l 0 →
      (∀ c o, s.heap.get? c = some o → h'.get? c = some o) → Q (.ref (s.heap.objs.size + 3)) { s with heap := h' }) : wpAny (model prog w) A (call (.type "zip") [.ref l, .ref a]) Q E s := by
  refine callType_new F.called_zip (by decide) (F.typeCall_zip_2 _ _) (F.newCall_zip_2 _ _) (fun obj => F.args_object_init_3 obj _ _) F.entry_zip_new (meets_zip_lg l a g xs) ⟨hl, hg, ?_⟩
  have z1 : (lgH1 s.heap l).objs.size = s.heap.objs.size + 1 := Heap.size_push ..
  have z2 : (lgH2 s.heap l a).objs.size = s.heap.objs.size + 2 := by rw [Heap.size_push, z1]
  have z3 : (lgH3 s.heap l a).objs.size = s.heap.objs.size + 3 := by rw [Heap.size_push, z2]
  have g4 : (lgH4 s.heap l a).get? (lgH3 s.heap l a).objs.size = some _ := Heap.get?_push_size _ rfl
  have g3 : (lgH4 s.heap l a).get? (lgH2 s.heap l a).objs.size = some _ := Heap.get?_push_of_some _ (Heap.get?_push_size _ rfl)
  have g2 : (lgH4 s.heap l a).get? (lgH1 s.heap l).objs.size = some _ := Heap.get?_push_of_some _ (Heap.get?_push_of_some _ (Heap.get?_push_size _ rfl))
  have g1 : (lgH4 s.heap l a).get? s.heap.objs.size = some _ := Heap.get?_push_of_some _ (Heap.get?_push_of_some _ (Heap.get?_push_of_some _ (Heap.get?_push_size _ rfl)))
  show _ ∧ _
  rw [z1, z2, z3] at g4
  rw [z2] at g3
  rw [z1] at g2
  rw [z3]
  exact ⟨⟨_, g4, rfl⟩, h _ g4 g2 g3 ⟨_, g1, rfl, rfl⟩ fun c o e => Heap.get?_push_of_some _ (Heap.get?_push_of_some _ (Heap.get?_push_of_some _ (Heap.get?_push_of_some _ e)))⟩
def OwnF (H : Hp) : Prop := ∀ b C dx fs, H b = some (.ins C dx fs) → H dx = some (.own b)
theorem ownF_of {P : Program} {w : World} {H : Hp} {h : Heap} (x : HOk P w H h) : OwnF H := fun b C dx fs e => (x b _ e).1
/-- an expression whose value is such a generator, not begun -/
structure WZ (X : Cx) (k : Nat) (e : Expr) (σ : L2.St) (H : Hp) (Q : Hp → Hp → (Nat → Option V) → Prop) : Prop where
  run : ∀ (pins : PinL) (s : Shared), Inv X pins σ H s → wpAny (model X.prog X.w) X.A (eval e X.env) (fun u s' => ∃ H1 sc T out, Inv X pins σ H1 sc ∧ Same T H1 ∧ Tiny T ∧ ZMade X.prog X.w k X.stack T sc sc out u s' ∧ Q H1 T out) X.xe s
section
variable {X : Cx} {σ : L2.St} {H : Hp}
theorem run_zfn {k : Nat} {f : Addr} {fd : FuncData} {ps : List Str} {sp : SpZ} {pins : PinL} {s : Shared} {us : List Value} {vs : List V} {T : Hp} {out : Nat → Option V} {E1 : Value → Shared → Prop} {Q : Hp → Hp → (Nat → Option V) → Prop} (F : ZFn X.prog X.w X.K X.mg X.base k f fd ps sp) (hr : Room k X.A) (hb : Binds X.K fd ps [])
    (I : Inv X pins σ H s) (r : Vals vs us) (sm : Same T H) (ti : Tiny T) (h : sp vs T out) (q : Q H T out) :
    wpAny (model X.prog X.w) X.A (call (.ref f) us) (fun u s' => ∃ H1 sc T out, Inv X pins σ H1 sc ∧ Same T H1 ∧ Tiny T ∧ ZMade X.prog X.w k X.stack T sc sc out u s' ∧ Q H1 T out) E1 s := by
  have e1 := I.env0
  have e0 : Env0 X.prog X.w X.K X.mg X.base X.A X.stack s T := ⟨e1.frames, e1.mod, fun b o e => ⟨(e1.bs b o e).1, sm.free (e1.bs b o e).2⟩, e1.bsz, e1.funs, fun b hb => sm.free (e1.frf b hb), hok_down ti sm e1.hok, e1.bare⟩
  have hl : (us ++ []).length = ps.length := by rw [List.append_nil, ← r.length]; exact F.len _ _ _ h
  have hbt := hb s us I.kIn hl
  rw [List.append_nil] at hbt
  refine wpAny_call (codeAny_mono (F.run X.A X.stack s s T ⟨us, []⟩ us vs out hr e0 e0 (Nat.le_refl _) ⟨rfl, I.bare, Un.refl, e0.hok⟩ ti hbt r h) fun r s' hq => ?_)
  cases r with
  | error e => exact hq.elim
  | ok fl =>
    cases fl with
    | ret u => exact ⟨H, s, T, out, I, sm, ti, hq, q⟩
    | next => exact hq.elim
    | brk => exact hq.elim
    | cont => exact hq.elim
theorem wz_meth {k : Nat} {o e : Expr} {es : List Expr} {m : Str} {C f : Addr} {fd : FuncData} {ps : List Str} {sp : SpZ} {Q : Hp → Hp → (Nat → Option V) → Prop} {apos pos' : Pos} {pl : Sem Bool} (c : Cls X.K C) (hm : Meth X.K C m f) (F : ZFn X.prog X.w X.K X.mg X.base k f fd ps sp) (hr : Room k X.A) (hb : Binds X.K fd ps [])
    (h : WE X o σ H fun x H1 => ∃ a dx fs, x = .ref a ∧ H1 a = some (.ins C dx fs) ∧ fs.lookup m = none ∧ WA X (e :: es) σ H1 fun vs H2 => OwnF H2 → ∃ T out, Same T H2 ∧ Tiny T ∧ sp (.ref a :: vs) T out ∧ Q H2 T out)
    (hst : starEach (e :: es) X.env = (false, eval e X.env) :: starEach es X.env := by with_unfolding_all rfl) (hpl : (backTo pos' (starEach es X.env)).any (·.1) = false := by with_unfolding_all rfl)
    (ht : eval (.Call (.Attribute o m apos) (e :: es) [] pos') X.env = (do
      let ov ← eval o X.env
      standAt apos.atName
      let (f, first) ← holding [ov] (getMethod ov m pl)
      callWith pos' f first (backTo pos' (starEach (e :: es) X.env)) (backToKw pos' (keywordEach [] X.env))) := by with_unfolding_all rfl) :
    WZ X k (.Call (.Attribute o m apos) (e :: es) [] pos') σ H Q := by
  refine ⟨fun pins s I => ?_⟩
  refine PySem.W.methodCall_KW (pl := pl) (thn (h.run pins s I) fun u s1 ⟨x, H1, I1, rx, a, dx, fs, ex, ea, l, q⟩ => ?_) ht
  subst ex
  obtain rfl : u = Value.ref a := rx
  refine getmeth_ok I1 ea c hm l ?_
  refine PySem.W.callWith_K (first := [.ref a]) (h₀ := X.base) I.ok.mod.kin hm.kp (thn (q.run pos' pins s1 I1) fun us s2 ⟨vs, H2, I2, r, q2⟩ => ⟨I2.kIn, ?_⟩) hst hpl
  obtain ⟨T, out, sm, ti, hsp, qq⟩ := q2 (ownF_of I2.hok)
  exact run_zfn (us := .ref a :: us) (vs := .ref a :: vs) F hr hb I2 (.cons rfl r) sm ti hsp qq
/-- zip(list, generator) -/
def ZipGo (X : Cx) (pins : PinL) (σ : L2.St) (M : Nat) (Q : List V → Hp → Hp → (Nat → Option V) → Prop) (v : Value) (s' : Shared) : Prop :=
  ∃ (zz TI TO i1 a l : Addr) (g : Nat) (go : Obj) (own : PinL) (gs : GenState) (xs : List V) (its : List Value) (H1 T : Hp) (sc : Shared) (out : Nat → Option V), v = .ref zz ∧ Inv X pins σ H1 sc ∧ Same T H1 ∧ Tiny T ∧ Vals xs its ∧ H1 l = some (.lst xs) ∧
    ZSt X.prog X.w X.A.in1.in1 X.stack T sc out its.toArray l zz TI TO i1 a g go M 0 own gs none s' ∧ (∀ b o, sc.heap.get? b = some o → s'.heap.get? b = some o) ∧ sc.heap.objs.size ≤ s'.heap.objs.size ∧ Q xs H1 T out
theorem wz_zip {k : Nat} {e1 e2 : Expr} {p pos : Pos} {N L S G B : List Str} {Q : List V → Hp → Hp → (Nat → Option V) → Prop} (M : Nat) (c : Nm X N L S G B) (mm : Mb "zip" B) (hr : Room (k + 2) X.A)
    (h : WE X e1 σ H fun v H1 => ∃ l xs, v = .ref l ∧ H1 l = some (.lst xs) ∧ WZ X k e2 σ H1 fun H2 T out => H2 l = some (.lst xs) ∧ T l = none ∧ Q xs H2 T out)
    (hs : starEach [e1, e2] X.env = (false, eval e1 X.env) :: starEach [e2] X.env := by with_unfolding_all rfl) (hs2 : starEach [e2] X.env = (false, eval e2 X.env) :: starEach [] X.env := by with_unfolding_all rfl) :
    ∀ (pins : PinL) (s : Shared), Inv X pins σ H s → wpAny (model X.prog X.w) X.A (eval (.Call (.Name "zip" p) [e1, e2] [] pos) X.env) (ZipGo X pins σ M Q) X.xe s := by
  intro pins s I
  refine wpAny_Call_Name_kw (ld_blt I (c.bgl _ mm.mem).1 (c.blt _ mm.mem) PyProof.Rows.boot_zip ?_ (by decide) (by decide))
  refine PyProof.Rows.callWith_type1 ?_ hs (by rw [hs2]; rfl)
  rw [hs, hs2]
  show wpAny _ _ (spliced ((false, eval e1 X.env) :: backTo pos ((false, eval e2 X.env) :: starEach [] X.env))) _ _ s
  refine Calls.spliced_cons (thn (h.run pins s I) fun u1 s1 ⟨v, H1, I1, r1, l, xs, ev, hl1, hz⟩ => ?_)
  subst ev
  obtain rfl : u1 = Value.ref l := r1
  show wpAny _ _ (spliced ((false, eval e2 X.env) :: backTo pos (starEach [] X.env))) _ _ s1
  refine Calls.spliced_cons (thn (hz.run pins s1 I1) fun u2 s2 ⟨H2, sc, T, out, I2, sm, ti, hm, hl2, hT, q⟩ => ?_)
  refine Calls.spliced_nil ?_
  obtain ⟨a, g, go, cc, own, rfl, hgs, gr, ow, olo, kp, sz, _, hat⟩ := hm.at
  obtain ⟨its, rits, pl, _⟩ := I2.list (.inl (.inl hl2))
  have hlsc := pl.isList
  obtain ⟨ol, holsc, hrest⟩ := id hlsc
  have hll : l < sc.heap.objs.size := Heap.lt_size holsc
  have z0 := hat X.A.in1.in1 M (hr.in1.in1) I2.ok.frames
  have hgen : s2.heap.IsGen a g := z0.1.is (ow _ z0.2.1).1
  have hls2 : s2.heap.IsList l its.toArray := ⟨ol, kp _ _ holsc, hrest⟩
  have lt : ∀ {c : Addr} {o : Obj}, s2.heap.get? c = some o → c < s2.heap.objs.size := fun e => Heap.lt_size e
  have ownLt : ∀ p ∈ own, ∀ k, p.1 ≠ s2.heap.objs.size + k := fun p hp k => Nat.ne_of_lt (Nat.lt_of_lt_of_le (lt (ow p hp).1) (Nat.le_add_right _ _))
  have lnf : l ∉ frs X.stack := fun hb => by
    rw [I2.stkFree l hb] at hl2
    cases hl2
  refine call_zip_lg hls2 hgen fun h' pz pTI pTO pit k' => ?_
  refine ⟨s2.heap.objs.size + 3, s2.heap.objs.size + 1, s2.heap.objs.size + 2, s2.heap.objs.size, a, l, g, go, own, .fresh cc, xs, its, H2, T, sc, out, rfl, I2, sm, ti, rits, hl2, ?_, fun b o e => k' b o (kp b o e), ?_, q⟩
  · refine ⟨gr.heap (tk := s2.toks) k', ow.at fun p hp o e => k' _ _ e, z0, hgs, ⟨ol, k' _ _ (kp _ _ holsc), fun h e => ⟨ol, e, hrest⟩⟩, hll, ⟨hT, lnf, ol, holsc⟩, pit, pTI, ⟨_, _, pTO⟩, pz, ?_, ?_, fun p hp => ⟨ownLt p hp 3, ownLt p hp 1, ownLt p hp 2, ownLt p hp 0⟩⟩
    · exact ⟨Nat.le_trans sz (Nat.le_add_right _ _), Nat.le_trans sz (Nat.le_add_right _ _), Nat.le_trans sz (Nat.le_add_right _ _), sz⟩
    · exact ⟨(by omega : s2.heap.objs.size + 3 ≠ s2.heap.objs.size + 1), (by omega : s2.heap.objs.size + 3 ≠ s2.heap.objs.size + 2), (by omega : s2.heap.objs.size + 3 ≠ s2.heap.objs.size), (by omega : s2.heap.objs.size + 1 ≠ s2.heap.objs.size + 2), (by omega : s2.heap.objs.size + 1 ≠ s2.heap.objs.size), (by omega : s2.heap.objs.size + 2 ≠ s2.heap.objs.size)⟩
  · show sc.heap.objs.size ≤ h'.objs.size
    exact Nat.le_trans sz (Nat.le_of_lt (Nat.lt_of_le_of_lt (Nat.le_add_right _ 3) (Heap.lt_size pz)))
end
end Sv

/-! [y[1] for y in zip(list, generator)]. -/
namespace Sv
open PySem PySem.Spec PyProof.Rows L2 GenW
abbrev eltOne (y : Str) (p p1 pos : Pos) (k : Nat) : Expr := .Subscript (.Name y p) (.Constant (.int 1) k p1) pos
theorem el_one {P : Program} {w : World} {A : Around} {E : Value → Shared → Prop} {s : Shared} {ce : Env} {y : Str} {p p1 pos : Pos} {k : Nat} {Tn : Addr} {u v : Value} {m : Str → Option Value} {Q : Value → Shared → Prop} (hk : ce.scope.kind = .function) (hl : ce.kindOf y = some .local) (hn : s.heap.Ns ce.locals m)
    (hv : m y = some (.ref Tn)) (hp : IsPair s.heap Tn u v) (hd : (y == ("__debug__" : Str)) = false) (h : ∀ tk, Q v { s with toks := tk }) : wpAny (model P w) A (eval (eltOne y p p1 pos k) ce) Q E s := by
  refine Subscript_ (wpAny_Name (wpAny_loadName_local hk hl hn hv ?_) hd)
  refine wpAny_Constant_int ?_
  have ht : IsTup s.heap Tn #[u, v] := ⟨_, hp, rfl, _, rfl⟩
  exact subscriptTail_builtinR (x := v) ht.typeIs slot_tuple_getitem.lookup (getItem_tuple (j := 1) (x := v) (Q := fun r s' => r = v ∧ Q r s') ht (by decide) (by decide) rfl rfl ⟨rfl, h _⟩)
section
variable {P : Program} {w : World} {A : Around} {outer : List Env} {T : Hp} {sc s : Shared} {out : Nat → Option V} {xs : Array Value} {l zz TI TO i1 a : Addr} {g : Nat} {go : Obj} {M i : Nat} {own : PinL} {gs : GenState} {busy : Option Addr}
/-- an object that is none of the zip's and none of the generator's has changed -/
theorem ZSt.but {c : Addr} {h' : Heap} {tk : Nat} (st : ZSt P w A outer T sc out xs l zz TI TO i1 a g go M i own gs busy s) (h0 : HOk P w T sc.heap) (hc : sc.heap.objs.size ≤ c) (k : ∀ b o, b ≠ c → s.heap.get? b = some o → h'.get? b = some o) (c1 : c ≠ zz) (c2 : c ≠ TI) (c3 : c ≠ TO) (c4 : c ≠ i1)
    (co : ∀ p ∈ own, p.1 ≠ c) : ZSt P w A outer T sc out xs l zz TI TO i1 a g go M i own gs busy { s with heap := h', toks := tk } := by
  obtain ⟨ol, hol, hlist⟩ := st.hl
  refine ⟨st.gr.at h0 fun b o hlt e => k b o (addr_ne hlt hc) e, st.ow.at fun p hp o e => k _ o (co p hp) e, st.at_, st.gn, ⟨ol, k _ _ (addr_ne st.ll hc) hol, hlist⟩, st.ll, st.lT, ?_, k _ _ c2.symm st.ti, ?_, ?_, st.hi, st.ne, st.ap⟩
  · obtain ⟨o, e1, e2, e3⟩ := st.it
    exact ⟨o, k _ _ c4.symm e1, e2, e3⟩
  · obtain ⟨x, y, e⟩ := st.to
    exact ⟨x, y, k _ _ c3.symm e⟩
  · have := st.zp
    cases busy with
    | none => exact k _ _ c1.symm this
    | some t => obtain ⟨f1, z⟩ := this; exact ⟨f1, k _ _ c1.symm z⟩
theorem ZSt.lt (st : ZSt P w A outer T sc out xs l zz TI TO i1 a g go M i own gs busy s) : zz < s.heap.objs.size ∧ TI < s.heap.objs.size ∧ TO < s.heap.objs.size ∧ i1 < s.heap.objs.size := by
  refine ⟨?_, Heap.lt_size st.ti, ?_, ?_⟩
  · have := st.zp
    cases busy with
    | none => exact Heap.lt_size this
    | some t => obtain ⟨f1, z⟩ := this; exact Heap.lt_size z
  · obtain ⟨x, y, e⟩ := st.to
    exact Heap.lt_size e
  · obtain ⟨o, e1, _⟩ := st.it
    exact Heap.lt_size e1
theorem ZSt.heap {h' : Heap} {tk : Nat} (st : ZSt P w A outer T sc out xs l zz TI TO i1 a g go M i own gs busy s) (k : ∀ b o, s.heap.get? b = some o → h'.get? b = some o) : ZSt P w A outer T sc out xs l zz TI TO i1 a g go M i own gs busy { s with heap := h', toks := tk } := by
  obtain ⟨ol, hol, hlist⟩ := st.hl
  refine ⟨st.gr.heap k, st.ow.at fun p hp o e => k _ o e, st.at_, st.gn, ⟨ol, k _ _ hol, hlist⟩, st.ll, st.lT, ?_, k _ _ st.ti, ?_, ?_, st.hi, st.ne, st.ap⟩
  · obtain ⟨o, e1, e2, e3⟩ := st.it
    exact ⟨o, k _ _ e1, e2, e3⟩
  · obtain ⟨x, y, e⟩ := st.to
    exact ⟨x, y, k _ _ e⟩
  · have := st.zp
    cases busy with
    | none => exact k _ _ this
    | some t => obtain ⟨f1, z⟩ := this; exact ⟨f1, k _ _ z⟩
end
/-- the list of the block: ys[0 .. i) -/
structure LSt (P : Program) (w : World) (A : Around) (outer : List Env) (T : Hp) (sc : Shared) (out : Nat → Option V) (xs : Array Value) (l zz TI TO i1 a : Addr) (g : Nat) (go : Obj) (M : Nat) (C D : Addr) (ys : List V) (i : Nat) (s : Shared) : Prop where
  ex : ∃ (own : PinL) (gs : GenState) (busy : Option Addr) (m : Str → Option Value) (acc : List Value) (n : Nat), ZSt P w A outer T sc out xs l zz TI TO i1 a g go M i own gs busy s ∧ s.heap.Ns C m ∧ Vals (ys.take i) acc ∧ s.heap.get? D = some { cls := .type "list", data := .seq acc.toArray n } ∧
    (∀ p ∈ own, p.1 ≠ C ∧ p.1 ≠ D) ∧ ∀ t, busy = some t → ∃ x y, IsPair s.heap t x y ∧ sc.heap.objs.size ≤ t ∧ t ≠ zz ∧ t ≠ TI ∧ t ≠ TO ∧ t ≠ i1 ∧ t ≠ C ∧ t ≠ D ∧ ∀ p ∈ own, p.1 ≠ t
section
variable {P : Program} {w : World} {A : Around} {outer : List Env} {T : Hp} {sc s : Shared} {out : Nat → Option V} {xs : Array Value} {l zz TI TO i1 a C D : Addr} {g : Nat} {go : Obj} {M i : Nat} {ys : List V}
theorem l_turn {E : Value → Shared → Prop} {ce : Env} {y : Str} {py p p1 pos : Pos} {k : Nat} {u : Value} {I : Shared → Prop} (hh : A.handled = none) (lim : ∀ s, BZ P w T (frs outer) sc s → s.heap.NoLimit) (hroom : A.in1.depth < recursionLimit) (h0 : HOk P w T sc.heap)
    (hC : sc.heap.objs.size ≤ C) (hD : sc.heap.objs.size ≤ D) (hCD : C ≠ D) (dC : C ≠ zz ∧ C ≠ TI ∧ C ≠ TO ∧ C ≠ i1) (dD : D ≠ zz ∧ D ≠ TI ∧ D ≠ TO ∧ D ≠ i1) (eC : ce.locals = C) (hk : ce.scope.kind = .function) (hl : ce.kindOf y = some .local) (hd : (y == ("__debug__" : Str)) = false)
    (st : LSt P w A.in1.in1 outer T sc out xs l zz TI TO i1 a g go M C D ys i s) (hi : i < M) (hx : xs[i]? = some u) {yv : V} (ho : out i = some yv) (hy : ys[i]? = some yv) (hz : i < sizeLine)
    (hI : ∀ s', LSt P w A.in1.in1 outer T sc out xs l zz TI TO i1 a g go M C D ys (i + 1) s' → I s') :
    wpAny (model P w) A (pyNext (.ref zz)) (fun r s₁ => match r with
      | none => False
      | some v => wpAny (model P w) A (letOwnedTupleGo (.Name y py) (.ref zz) v) (fun _ s₁' => wpAny (model P w) A (assign (.Name y py) ce v) (fun _ s₂ => wpAny (model P w) A (eval (eltOne y p p1 pos k) ce) (fun x s₄ =>
              wpAny (model P w) A (call (.builtin "list.append") [.ref D, x]) (fun _ s₅ => I s₅) E s₄) E s₂) E s₁') E s₁) E s := by
  obtain ⟨own, gs, busy, m, acc, n, zs, hn, hv, hDo, hap, hb⟩ := st.ex
  obtain ⟨oC, es, ep, hoC, hdC, hrC⟩ := id hn
  have hoD := hDo
  obtain ⟨dC1, dC2, dC3, dC4⟩ := dC
  obtain ⟨dD1, dD2, dD3, dD4⟩ := dD
  obtain ⟨cx, hcx1, hcx2, hcx3, hcxC, hcxD, hcxB⟩ : ∃ cx : PinL, Pz sc.heap.objs.size s.heap cx ∧ (∀ q ∈ cx, q.1 ≠ zz ∧ q.1 ≠ TI ∧ q.1 ≠ TO ∧ q.1 ≠ i1) ∧ Apz own cx ∧ (C, oC) ∈ cx ∧ (D, { cls := .type "list", data := .seq acc.toArray n }) ∈ cx ∧ ∀ t, busy = some t → ∃ x y, (t, { cls := .type "tuple", data := .seq #[x, y] }) ∈ cx := by
    have base : Pz sc.heap.objs.size s.heap [(C, oC), (D, { cls := .type "list", data := .seq acc.toArray n })] := .cons hoC hC (fun v q => by rw [hdC] at q; cases q) (.cons hoD hD (fun v q => by cases q) fun p hp => by cases hp)
    have baseN : ∀ q ∈ [(C, oC), (D, ({ cls := .type "list", data := .seq acc.toArray n } : Obj))], q.1 = C ∨ q.1 = D := fun q hq => by
      rcases List.mem_cons.mp hq with rfl | hq
      · exact .inl rfl
      · rw [List.mem_singleton.mp hq]; exact .inr rfl
    cases busy with
    | none =>
      refine ⟨_, base, fun q hq => ?_, fun p hp q hq => ?_, List.mem_cons_self, List.mem_cons_of_mem _ List.mem_cons_self, fun t e => by cases e⟩
      · rcases baseN q hq with z | z
        · rw [z]; exact ⟨dC1, dC2, dC3, dC4⟩
        · rw [z]; exact ⟨dD1, dD2, dD3, dD4⟩
      · rcases baseN q hq with z | z
        · rw [z]; exact (hap p hp).1
        · rw [z]; exact (hap p hp).2
    | some t =>
      obtain ⟨x, y', hp, t1, t2, t3, t4, t5, t6, t7, t8⟩ := hb t rfl
      refine ⟨(t, { cls := .type "tuple", data := .seq #[x, y'] }) :: _, .cons hp t1 noCellPair base, fun q hq => ?_, fun p hp q hq => ?_, List.mem_cons_of_mem _ List.mem_cons_self, List.mem_cons_of_mem _ (List.mem_cons_of_mem _ List.mem_cons_self), fun t' e => by cases e; exact ⟨x, y', List.mem_cons_self⟩⟩
      · rcases List.mem_cons.mp hq with rfl | hq
        · exact ⟨t2, t3, t4, t5⟩
        · rcases baseN q hq with z | z
          · rw [z]; exact ⟨dC1, dC2, dC3, dC4⟩
          · rw [z]; exact ⟨dD1, dD2, dD3, dD4⟩
      · rcases List.mem_cons.mp hq with rfl | hq
        · exact t8 p hp
        · rcases baseN q hq with z | z
          · rw [z]; exact (hap p hp).1
          · rw [z]; exact (hap p hp).2
  refine zip_turn hh lim hroom h0 zs hi hx (by rw [ho]; exact fun z => by cases z) hcx1 hcx2 hcx3 (fun t e => let ⟨x, y', z⟩ := hcxB t e; ⟨_, z⟩) fun y' v Tn bz own' gs' s1 ebz ho' rv hT hTn hTc hTo tz tI tO t1 pc pa zs1 => ?_
  rw [ho] at ho'
  cases ho'
  have TnC : Tn ≠ C := fun z => hTc _ hcxC z.symm
  have TnD : Tn ≠ D := fun z => hTc _ hcxD z.symm
  have ho1 : s1.heap.get? C = some oC := (pc _ hcxC).1
  have hn1 : s1.heap.Ns C m := ⟨oC, es, ep, ho1, hdC, hrC⟩
  show wpAny _ _ (letOwnedTupleGo (.Name y py) (.ref zz) (.ref Tn)) _ _ s1
  have go0 : letOwnedTupleGo (.Name y py) (.ref zz) (.ref Tn) = pure () := by unfold letOwnedTupleGo; rfl
  rw [go0]
  refine wpAny_pure ?_
  refine wpAny_assign_Name (wpAny_storeName_local hl (by rw [eC]; exact hn1) (fun h2 hn2 sb2 => ?_) (by rw [hk]; rfl))
  rw [eC] at hn2 sb2
  have zs2 := zs1.but (tk := s1.toks + 1) h0 hC (fun b o hb e => (sb2.2 b hb).trans e) dC1 dC2 dC3 dC4 fun p hp => pa p hp _ hcxC
  have hT2 : IsPair h2 Tn u v := (sb2.2 _ TnC).trans hT
  refine el_one (s := { s1 with heap := h2, toks := s1.toks + 1 }) hk hl (by rw [eC]; exact hn2) (if_pos rfl) hT2 hd fun tk => ?_
  have hD2 : h2.get? D = some { cls := .type "list", data := .seq acc.toArray n } := (sb2.2 _ hCD.symm).trans (pc _ hcxD).1
  have hlen : acc.length ≤ i := by rw [← hv.length, List.length_take]; exact Nat.min_le_left _ _
  refine append_at (s := { s1 with heap := h2, toks := tk }) hD2 (fun h3 sb3 hD3 => hI _ ?_) (by rw [List.size_toArray]; omega)
  have zs3 := (zs1.but (tk := tk) h0 hC (fun b o hb e => (sb2.2 b hb).trans e) dC1 dC2 dC3 dC4 fun p hp => pa p hp _ hcxC).but (h' := h3) (tk := tk) h0 hD (fun b o hb e => (sb3.2 b hb).trans e) dD1 dD2 dD3 dD4 fun p hp => pa p hp _ hcxD
  have bzOk : ∃ x y', IsPair h3 bz x y' ∧ sc.heap.objs.size ≤ bz ∧ bz ≠ zz ∧ bz ≠ TI ∧ bz ≠ TO ∧ bz ≠ i1 ∧ bz ≠ C ∧ bz ≠ D ∧ ∀ p ∈ own', p.1 ≠ bz := by
    rcases ebz with rfl | e
    · exact ⟨u, v, (sb3.2 _ TnD).trans hT2, hTn, tz, tI, tO, t1, TnC, TnD, hTo⟩
    · obtain ⟨x, y', hm⟩ := hcxB bz e
      obtain ⟨_, _, _, b1, b2, b3, b4, b5, b6, b7, b8⟩ := hb bz e
      exact ⟨x, y', (sb3.2 _ b7).trans ((sb2.2 _ b6).trans (pc _ hm).1), b1, b2, b3, b4, b5, b6, b7, fun p hp => pa p hp _ hm⟩
  refine ⟨⟨own', gs', some bz, (fun x => if x = y then some (.ref Tn) else m x), acc ++ [v], n + 1, zs3, hn2.sameBut sb3 hCD, ?_, ?_, fun p hp => ⟨pa p hp _ hcxC, pa p hp _ hcxD⟩, fun t e => by cases e; exact bzOk⟩⟩
  · rw [List.take_add_one, hy]
    exact hv.append (.cons rv .nil)
  · rw [hD3]
    simp
end
end Sv

/-! [y[1] for y in zip(list, generator)]: the comprehension. -/
namespace Sv
open PySem PySem.Spec PyProof.Rows L2 GenW
theorem ends_told {X : Cx} {pins : PinL} {σ : L2.St} {H1 T : Hp} {sc s' : Shared} {D : Addr} {ys : List V} {its : List Value} {n : Nat} (I : Inv X pins σ H1 sc) (sm : Same T H1) (ti : Tiny T) (b : BZ X.prog X.w T (frs X.stack) sc s') (hD : sc.heap.objs.size ≤ D)
    (hz : ys.length ≤ sizeLine) (hv : Vals ys its) (hDo : s'.heap.get? D = some { cls := .type "list", data := .seq its.toArray n }) : Inv X pins σ (upd H1 D (.lst ys)) s' := by
  have hn : H1 D = none := I.hok.fresh hD
  have frf : ∀ b ∈ frs X.stack, H1 b = none := I.stkFree
  have u := un_up sm b.un
  have hk := hok_up ti sm frf I.hok b.un b.hok
  refine I.call' (ch := []) b.os ⟨u.keep, u.slot, fun c o e n hx => by rw [upd_ne (addr_ne (Heap.lt_size e) hD)]; exact n, u.there, fun c xs e => by rw [upd_ne (ne_of_none e hn)]; exact e, fun c o x e => by rw [upd_ne (ne_of_none e hn)]; exact e, fun c ps e => ⟨#[], by rw [upd_ne (ne_of_none e hn), e]; simp⟩⟩
    (fun c o e => ?_) b.bare fun c z => absurd z (by simp)
  by_cases hc : c = D
  · subst hc
    rw [upd_same] at e
    cases e
    exact ⟨hz, its, n, hv, hDo⟩
  · rw [upd_ne hc] at e
    exact (hk c o e).stay (fun _ _ _ z => z) (fun d z => by rw [upd_ne (ne_of_none z hn)]; exact z) fun d xs z => by rw [upd_ne (ne_of_none z hn)]; exact z
theorem ns_blank {h : Heap} : (h.push { cls := .type "dict", data := .dict #[] }).Ns h.objs.size fun _ => none :=
  ⟨_, #[], _, Heap.get?_push_size _ rfl, rfl, fun _ z => by simp at z, fun _ => rfl⟩
section
variable {X : Cx}
theorem lc_zipcore {pins : PinL} {s : Shared} {σ : L2.St} {M k : Nat} {y : Str} {py p p1 pos pos' epos : Pos} {iter : Expr} {scope : Scope} {Q0 : List V → Hp → Hp → (Nat → Option V) → Prop} {Q : VK} {use : Option (Value → Sem Unit)} {Qf : Value → Shared → Prop}
    (hc : X.calm = true) (hr : Room 5 X.A) (hi : wpAny (model X.prog X.w) X.A (eval iter X.env) (ZipGo X pins σ M Q0) X.xe s) (hkS : scope.kind = .function) (huq : ∀ x ∈ scope.names, scope.names.lookup x.1 = some x.2) (hfr : ∀ x ∈ scope.names, x.2 ≠ .free)
    (hnc : ∀ h, pushCells h scope.names = h) (hkE : ∀ cl C, (compEnvC scope cl C X.env).scope.kind = .function) (hy : ∀ cl C, (compEnvC scope cl C X.env).kindOf y = some .local) (hyd : (y == ("__debug__" : Str)) = false) (hs : ∀ x, foldedSetIterable iter X.env x = pure x)
    (h0 : ∀ xs H1 T out, Q0 xs H1 T out → xs.length ≤ M ∧ xs.length < sizeLine ∧ ∃ ys : List V, ys.length = xs.length ∧ (∀ i : Nat, i < xs.length → out i = ys[i]?) ∧ ∀ D, H1 D = none → Q (.ref D) (upd H1 D (.lst ys)))
    (hRR : ∀ D C s' m H', Inv X pins σ H' s' → Q (.ref D) H' → s'.heap.Ns C m → FpOk X pins H' C → compPost (model X.prog X.w) X.A X.xe use Qf (.ref D) C (.ok .next) s') :
    wpAny (model X.prog X.w) X.A (comprehension (.ListComp (eltOne y p p1 epos k) [⟨.Name y py, iter, [], 0⟩] scope pos) scope X.env pos' (newList []) false (eval iter X.env) use) Qf X.xe s := by
  refine wpAny_comprehension_free (use := use) rfl hs (closure_ok fun x hx e => (hfr x hx e).elim) hkS (fun x hx e => by rw [huq x hx, e]) (thn hi fun xv s2 hx => ?_)
  obtain ⟨zz, TI, TO, i1, a, l, g, go, own, gs, xs, its, H1, T, sc, out, rfl, I, sm, ti, rits, hl1, zs, kp, szs, q⟩ := hx
  obtain ⟨hM, hsz, ys, hylen, hyo, hfin⟩ := h0 xs H1 T out q
  refine wpAny_pyIter_zip (show IsZip s2.heap zz TI TO .none from zs.zp) ?_
  refine wpAny_newObj_type (newEnv_comp ?_) (by show 0 ≤ sizeLine; decide)
  rw [hnc]
  generalize hD : s2.heap.objs.size = D
  have dD : sc.heap.objs.size ≤ D := by rw [← hD]; exact szs
  generalize hs3 : ({ s2 with heap := s2.heap.push { cls := .type "list", data := .seq ([] : List Value).toArray } } : Shared) = s3
  have e3 : s3.heap = s2.heap.push { cls := .type "list", data := .seq ([] : List Value).toArray } := by rw [← hs3]
  have hC : s3.heap.objs.size = D + 1 := by rw [e3, Heap.size_push, hD]
  show codeAny _ _ (.compStart (.ListComp (eltOne y p p1 epos k) [⟨.Name y py, iter, [], 0⟩] scope pos) 0 (.ref zz) (.ref D) (compEnvC scope (cellsFrom (s3.heap.objs.size + 1) scope.names (cloFrom X.env.cells scope.names [])) s3.heap.objs.size X.env)) (compPost (model X.prog X.w) X.A X.xe use Qf (.ref D) s3.heap.objs.size) { s3 with heap := s3.heap.push { cls := .type "dict", data := .dict #[] } }
  generalize hCe : s3.heap.objs.size = C at hC ⊢
  generalize hce : compEnvC scope (cellsFrom (C + 1) scope.names (cloFrom X.env.cells scope.names [])) C X.env = ce
  have eL : ce.locals = C := by rw [← hce]; rfl
  have eK : ce.scope.kind = .function := by rw [← hce]; exact hkE _ _
  have eY : ce.kindOf y = some .local := by rw [← hce]; exact hy _ _
  have ltz := zs.lt
  obtain ⟨lt1, lt2, lt3, lt4⟩ := ltz
  rw [hD] at lt1 lt2 lt3 lt4
  have ownLt : ∀ p ∈ own, p.1 < D := fun p hp => by rw [← hD]; exact Heap.lt_size (zs.ow p hp).1
  have ownLt2 : ∀ p ∈ own, p.1 < C := fun p hp => by rw [hC]; exact Nat.lt_succ_of_lt (ownLt p hp)
  have k3 : ∀ b o, s2.heap.get? b = some o → s3.heap.get? b = some o := fun b o e => by rw [e3]; exact Heap.get?_push_of_some _ e
  have k4 : ∀ b o, s2.heap.get? b = some o → (s3.heap.push { cls := .type "dict", data := .dict #[] }).get? b = some o := fun b o e => Heap.get?_push_of_some _ (k3 b o e)
  have es3 : s3 = { s2 with heap := s3.heap, toks := s2.toks } := by rw [← hs3]
  have zs4 : ZSt X.prog X.w X.A.in1.in1 X.stack T sc out its.toArray l zz TI TO i1 a g go M 0 own gs none { s3 with heap := s3.heap.push { cls := .type "dict", data := .dict #[] } } := by
    rw [es3]
    exact zs.heap k4
  have hn4 : (s3.heap.push { cls := .type "dict", data := .dict #[] }).Ns C fun _ => none := by rw [← hCe]; exact ns_blank
  have hD4 : (s3.heap.push { cls := .type "dict", data := .dict #[] }).get? D = some { cls := .type "list", data := .seq ([] : List Value).toArray } := Heap.get?_push_of_some _ (by rw [e3, ← hD]; exact Heap.get?_push_size _ rfl)
  have cD : C ≠ D := by rw [hC]; exact Nat.succ_ne_self D
  have scC : sc.heap.objs.size ≤ C := by rw [hC]; exact Nat.le_succ_of_le dD
  have nC : ∀ {b : Addr}, b < D → C ≠ b := fun {b} h => by rw [hC]; exact Nat.ne_of_gt (Nat.lt_succ_of_lt h)
  have nD : ∀ {b : Addr}, b < D → D ≠ b := fun {b} h => Nat.ne_of_gt h
  have lim : ∀ s, BZ X.prog X.w T (frs X.stack) sc s → s.heap.NoLimit := fun s b => I.ok.mod.nolimit.keeps fun c o e => b.un.keep c o (I.bs c o e).1 (sm.free (I.bs c o e).2) (fun z => by
    have := (I.stack.mem z).1
    rw [e] at this
    cases this) (by simp)
  have tH : HOk X.prog X.w T sc.heap := hok_down ti sm I.hok
  have L4 : LSt X.prog X.w X.A.in1.in1 X.stack T sc out its.toArray l zz TI TO i1 a g go M C D ys 0 { s3 with heap := s3.heap.push { cls := .type "dict", data := .dict #[] } } :=
    ⟨⟨own, gs, none, _, [], 0, zs4, hn4, .nil, hD4, fun p hp => ⟨Nat.ne_of_lt (ownLt2 p hp), Nat.ne_of_lt (ownLt p hp)⟩, fun t e => by cases e⟩⟩
  have itl : its.length = xs.length := rits.length.symm
  have hz4 : IsZip ({ s3 with heap := s3.heap.push { cls := .type "dict", data := .dict #[] } } : Shared).heap zz TI TO .none := zs4.zp
  clear zs4 hn4 hD4
  generalize ({ s3 with heap := s3.heap.push { cls := .type "dict", data := .dict #[] } } : Shared) = s4 at L4 hz4 ⊢
  have loop : codeAny (model X.prog X.w) X.A (.compLoop (.ListComp (eltOne y p p1 epos k) [⟨.Name y py, iter, [], 0⟩] scope pos) 0 (.ref zz) (.ref D) ce) (compPost (model X.prog X.w) X.A X.xe use Qf (.ref D) C) s4 := by
    refine compLoop_any (fun n s' => ∃ i, n = xs.length - i ∧ i ≤ xs.length ∧ LSt X.prog X.w X.A.in1.in1 X.stack T sc out its.toArray l zz TI TO i1 a g go M C D ys i s') ?_ (xs.length - 0) ⟨0, rfl, Nat.zero_le _, L4⟩
    rintro n s5 ⟨i, rfl, hile, L5⟩
    by_cases hlt : i < xs.length
    · have hx : its.toArray[i]? = some its[i] := by simp [itl, hlt]
      obtain ⟨yv, hyv⟩ : ∃ yv, ys[i]? = some yv := ⟨ys[i], List.getElem?_eq_getElem (by omega)⟩
      refine thnF (l_turn (y := y) (py := py) (p := p) (p1 := p1) (pos := epos) (k := k) (ce := ce) (E := fun _ _ => False) (I := fun s' => ∃ m, m < xs.length - i ∧ ∃ i, m = xs.length - i ∧ i ≤ xs.length ∧ LSt X.prog X.w X.A.in1.in1 X.stack T sc out its.toArray l zz TI TO i1 a g go M C D ys i s') (I.ok.hd hc) lim hr.in1.depth tH scC dD cD
        ⟨nC lt1, nC lt2, nC lt3, nC lt4⟩ ⟨nD lt1, nD lt2, nD lt3, nD lt4⟩ eL eK eY hyd L5 (Nat.lt_of_lt_of_le hlt hM) hx ((hyo i hlt).trans hyv) hyv (Nat.lt_trans hlt hsz) fun s' L' => ⟨xs.length - (i + 1), by omega, i + 1, rfl, hlt, L'⟩) fun r s6 h6 => ?_
      cases r with
      | none => exact h6.elim
      | some v =>
        refine thnF h6 fun _ s7 h7 => thnF h7 fun _ s8 h8 => wpAny_tests_nil ?_
        rw [if_pos rfl]
        exact thnF h8 fun x s9 h9 => thnF h9 fun _ s10 h10 => h10
    · have e : i = xs.length := by omega
      subst e
      obtain ⟨own5, gs5, busy5, m5, acc5, n5, zs5, hn5, hv5, hD5, hap5, hb5⟩ := L5.ex
      have hx : its.toArray[xs.length]? = none := by simp [itl]
      refine thnF (zip_done (E := fun _ _ => False) (Q := fun r s' => r = none ∧ compPost (model X.prog X.w) X.A X.xe use Qf (.ref D) C (.ok .next) s') (I.ok.hd hc) tH zs5 hx (fun t e => let ⟨x, y', z, _⟩ := hb5 t e; ⟨_, z⟩) fun s6 g6 k6 => ⟨rfl, ?_⟩) fun r s6 ⟨er, h6⟩ => by subst er; exact h6
      rw [List.take_of_length_le (by omega)] at hv5
      have hn6 : s6.heap.Ns C m5 := by
        obtain ⟨o, es, ep, q1, q2⟩ := hn5
        exact ⟨o, es, ep, k6 _ _ (nC lt1) (nC lt4) q1, q2⟩
      exact hRR D C s6 m5 _ (ends_told I sm ti g6 dD (by omega) hv5 (k6 _ _ (nD lt1) (nD lt4) hD5)) (hfin D (I.hok.fresh dD)) hn6 (I.fpOk scC (by rw [upd_ne cD]; exact I.hok.fresh scC))
  exact codeAny_compStart_list loop (wpAny_pyIter_zip hz4 loop)
/-- name = [y[1] for y in zip(list, o.m(..))] -/
theorem ws_setLcZ {N L S G B : List Str} {kz M k j : Nat} {nm y : Str} {pn py p p1 pos epos pz posz spos : Pos} {e1 e2 : Expr} {scope : Scope} {σ : L2.St} {H : Hp} {D0 : Ends} (c : Nm X N L S G B) (mm : Mb "zip" B) (hr : Room j X.A) (hj : 5 ≤ j) (hk : kz + 2 ≤ j)
    (h : WE X e1 σ H fun v H1 => ∃ l xs, v = .ref l ∧ H1 l = some (.lst xs) ∧ WZ X kz e2 σ H1 fun H2 T out => H2 l = some (.lst xs) ∧ T l = none ∧ xs.length ≤ M ∧ xs.length < sizeLine ∧ ∃ ys : List V, ys.length = xs.length ∧ (∀ i : Nat, i < xs.length → out i = ys[i]?) ∧
      ∀ D H3, H2 D = none → Same H2 H3 → H3 D = some (.lst ys) → ∃ σ', Put N σ nm (.ref D) σ' ∧ D0.nx σ' H3)
    (hyl : X.env.scope.names.lookup nm = some .local) (iy : ∃ i : Nat, N[i]? = some nm) (hsw : swapsWith (.ListComp (eltOne y p p1 epos k) [⟨.Name y py, .Call (.Name "zip" pz) [e1, e2] [] posz, [], 0⟩] scope pos) (some (.Name nm pn)) spos.line X.env = pure true)
    (hkS : scope.kind = .function) (huq : ∀ x ∈ scope.names, scope.names.lookup x.1 = some x.2) (hfr : ∀ x ∈ scope.names, x.2 ≠ .free) (hnc : ∀ h, pushCells h scope.names = h) (hkE : ∀ cl C, (compEnvC scope cl C X.env).scope.kind = .function) (hy : ∀ cl C, (compEnvC scope cl C X.env).kindOf y = some .local) (hyd : (y == ("__debug__" : Str)) = false)
    (hs : ∀ x, foldedSetIterable (.Call (.Name "zip" pz) [e1, e2] [] posz) X.env x = pure x := by intro _; with_unfolding_all rfl)
    (hs1 : starEach [e1, e2] X.env = (false, eval e1 X.env) :: starEach [e2] X.env := by with_unfolding_all rfl) (hs2 : starEach [e2] X.env = (false, eval e2 X.env) :: starEach [] X.env := by with_unfolding_all rfl) :
    WS X (.Assign [.Name nm pn] (.ListComp (eltOne y p p1 epos k) [⟨.Name y py, .Call (.Name "zip" pz) [e1, e2] [] posz, [], 0⟩] scope pos) spos) D0 σ H := by
  have hN : X.N.Nodup := by rw [c.names]; exact c.nd
  obtain ⟨i, hi⟩ := iy
  have hi' : X.N[i]? = some nm := by rw [c.names]; exact hi
  refine ⟨fun pins s I => ?_⟩
  rw [exec_Assign_Name_used _ _ _ _ hsw]
  refine wpAny_bind (wpAny_standAt (wpAny_bind ?_))
  show wpAny _ X.A (do let _ ← comprehension (.ListComp (eltOne y p p1 epos k) [⟨.Name y py, .Call (.Name "zip" pz) [e1, e2] [] posz, [], 0⟩] scope pos) scope X.env (firstIterPos [⟨.Name y py, .Call (.Name "zip" pz) [e1, e2] [] posz, [], 0⟩] pos) (newList []) false (eval (.Call (.Name "zip" pz) [e1, e2] [] posz) X.env) (some (assign (.Name nm pn) X.env))) _ _ s
  have hz := wz_zip (k := kz) (p := pz) (pos := posz) (Q := fun xs H2 T out => xs.length ≤ M ∧ xs.length < sizeLine ∧ ∃ ys : List V, ys.length = xs.length ∧ (∀ i : Nat, i < xs.length → out i = ys[i]?) ∧ ∀ D H3, H2 D = none → Same H2 H3 → H3 D = some (.lst ys) → ∃ σ', Put N σ nm (.ref D) σ' ∧ D0.nx σ' H3) M c mm (hr.mono hk) h hs1 hs2 pins s I
  refine wpAny_bind (thn (lc_zipcore (Q := fun v H1 => ∃ σ', Put N σ nm v σ' ∧ D0.nx σ' H1) (Qf := fun _ s' => SP X pins D0 .next s') c.calm (hr.mono hj) hz hkS huq hfr hnc hkE hy hyd hs (fun xs H2 T out q => ?_) fun D C s' m H' I' q hn f => ?_) fun _ s' hq => wpAny_pure (wpAny_pure hq))
  · obtain ⟨q1, q2, ys, q3, q4, q5⟩ := q
    exact ⟨q1, q2, ys, q3, q4, fun D hD => q5 D _ hD (same_new hD) upd_same⟩
  · obtain ⟨σ', hp, q⟩ := q
    obtain ⟨i', hi2, rfl⟩ := hp.ix
    have ei : i' = i := nodup_ix hN (by rw [c.names]; exact hi2) hi'
    subst ei
    show wpAny _ _ (assign (.Name nm pn) X.env (.ref D)) _ _ _
    refine wpAny_assign_Name (store_ok2 (v := V.ref D) I' hN hi' (.inl hyl) rfl (fun s2 I2 ⟨b, sb, ha⟩ => ?_) (.inr hyl))
    obtain ⟨f0, f1, f2, f3, f4, f5⟩ := f
    have nCb : C ≠ b := by
      rcases ha with z | z
      · rw [z]; exact f1
      · exact fun e => f4 nm b z e.symm
    exact ⟨m, hn.sameBut sb nCb, fun h3 sb3 => ⟨_, H', I2.turned (t' := s2.toks) (fun d o hb e => (sb3.2 d hb).trans e) f0 f1 f3 f4 f5, q⟩⟩
end
/-- o.m(..), such a generator method of the class at C -/
structure ZMt (P : Program) (w : World) (K : PySem.W.Frag) (mg : Str → Option Value) (base : Heap) (C : Addr) (m : Str) (k : Nat) (sp : SpZ) : Prop where
  ex : ∃ f fd ps, Cls K C ∧ Meth K C m f ∧ ZFn P w K mg base k f fd ps sp ∧ Binds K fd ps []
theorem wz_zm {X : Cx} {σ : L2.St} {H : Hp} {k j : Nat} {o e : Expr} {es : List Expr} {m : Str} {C : Addr} {sp : SpZ} {Q : Hp → Hp → (Nat → Option V) → Prop} {apos pos' : Pos} {pl : Sem Bool} (F : ZMt X.prog X.w X.K X.mg X.base C m k sp) (hr : Room j X.A) (hj : k ≤ j)
    (h : WE X o σ H fun x H1 => ∃ a dx fs, x = .ref a ∧ H1 a = some (.ins C dx fs) ∧ fs.lookup m = none ∧ WA X (e :: es) σ H1 fun vs H2 => OwnF H2 → ∃ T out, Same T H2 ∧ Tiny T ∧ sp (.ref a :: vs) T out ∧ Q H2 T out)
    (hst : starEach (e :: es) X.env = (false, eval e X.env) :: starEach es X.env := by with_unfolding_all rfl) (hpl : (backTo pos' (starEach es X.env)).any (·.1) = false := by with_unfolding_all rfl)
    (ht : eval (.Call (.Attribute o m apos) (e :: es) [] pos') X.env = (do
      let ov ← eval o X.env
      standAt apos.atName
      let (f, first) ← holding [ov] (getMethod ov m pl)
      callWith pos' f first (backTo pos' (starEach (e :: es) X.env)) (backToKw pos' (keywordEach [] X.env))) := by with_unfolding_all rfl) :
    WZ X k (.Call (.Attribute o m apos) (e :: es) [] pos') σ H Q := by
  obtain ⟨f, fd, ps, cl, hm, F, hB⟩ := F.ex
  exact wz_meth cl hm F (hr.mono hj) hB h hst hpl ht
theorem zwl_start {X : Cx} {Z : ZPar} {sts : List Stmt} {D : ZD} {i : Nat} {σ σ' : L2.St} {H : Hp} (e : σ = σ') (h : ZWL X Z sts D i σ' H) : ZWL X Z sts D i σ H := e ▸ h
/-- a small part of the told heap: the objects at a, dx, p -/
def part3 (H : Hp) (a dx p : Addr) : Hp := fun b => if b = a ∨ b = dx ∨ b = p then H b else none
theorem part3_same {H : Hp} {a dx p : Addr} : Same (part3 H a dx p) H := fun b o e => by
  unfold part3 at e
  split at e
  · exact e
  · cases e
theorem part3_in {H : Hp} {a dx p b : Addr} (h : b = a ∨ b = dx ∨ b = p) : part3 H a dx p b = H b := if_pos h
theorem part3_tiny {H : Hp} {a dx p C : Addr} {fs : List (Str × V)} {xs : List V} (ha : H a = some (.ins C dx fs)) (hd : H dx = some (.own a)) (hp : H p = some (.lst xs)) : Tiny (part3 H a dx p) := fun b u e => by
  have e1 := part3_same _ _ e
  unfold part3 at e
  split at e
  · rename_i hb
    rcases hb with rfl | rfl | rfl
    · rw [ha] at e1
      cases e1
      exact .inl ⟨C, dx, fs, rfl, by rw [part3_in (.inr (.inl rfl))]; exact hd⟩
    · rw [hd] at e1
      cases e1
      exact .inr (.inl ⟨a, C, fs, rfl, by rw [part3_in (.inl rfl)]; exact ha⟩)
    · rw [hp] at e1
      cases e1
      exact .inr (.inr (.inl ⟨xs, rfl⟩))
  · cases e
end Sv

/-! Runs are one: what two proofs tell of a run may be told together. -/
namespace Sv
open PySem
theorem runs_det {M : Model} {Γ : PySem.Ctx} {p : Pos} {t : Sem PySem.Fin} {fs : List Frame} {s s' : Shared} {e : End} (h : Runs M Γ p t fs s e s') : ∀ {e2 : End} {s2 : Shared}, Runs M Γ p t fs s e2 s2 → e2 = e ∧ s2 = s' := by
  induction h with
  | done => intro e2 s2 k; cases k; exact ⟨rfl, rfl⟩
  | raise => intro e2 s2 k; cases k; exact ⟨rfl, rfl⟩
  | again _ _ ih => intro e2 s2 k; cases k with | again _ k => exact ih k
  | rule _ ih => intro e2 s2 k; cases k with | rule k => exact ih k
  | «at» _ ih => intro e2 s2 k; cases k with | «at» k => exact ih k
  | load q _ ih => intro e2 s2 k; cases k with | load q' k => rw [q] at q'; cases q'; exact ih k
  | update _ _ ih => intro e2 s2 k; cases k with | update _ k => exact ih k
  | loadIfAlive _ ih => intro e2 s2 k; cases k with | loadIfAlive k => exact ih k
  | point _ ih => intro e2 s2 k; cases k with | point k => exact ih k
  | alloc _ ih => intro e2 s2 k; cases k with | alloc k => exact ih k
  | fresh _ ih => intro e2 s2 k; cases k with | fresh k => exact ih k
  | ask _ ih => intro e2 s2 k; cases k with | ask k => exact ih k
  | choose _ _ ih => intro e2 s2 k; cases k with | choose _ k => exact ih k
  | os _ ih => intro e2 s2 k; cases k with | os k => exact ih k
  | handled _ ih => intro e2 s2 k; cases k with | handled k => exact ih k
  | genState q _ ih => intro e2 s2 k; cases k with | genState q' k => rw [q] at q'; cases q'; exact ih k
  | stack _ ih => intro e2 s2 k; cases k with | stack k => exact ih k
  | thread _ ih => intro e2 s2 k; cases k with | thread k => exact ih k
  | newGen _ ih => intro e2 s2 k; cases k with | newGen k => exact ih k
  | call _ _ ih1 ih2 =>
    intro e2 s2 k
    cases k with
    | call k1 k2 =>
      obtain ⟨a, b⟩ := ih1 k1
      cases a
      subst b
      exact ih2 k2
    | callSusp k1 => cases (ih1 k1).1
  | callSusp _ ih1 =>
    intro e2 s2 k
    cases k with
    | call k1 k2 => cases (ih1 k1).1
    | callSusp k1 =>
      obtain ⟨a, b⟩ := ih1 k1
      cases a
      exact ⟨rfl, b⟩
  | yield => intro e2 s2 k; cases k; exact ⟨rfl, rfl⟩
  | resumeFresh q _ _ _ ih1 ih2 =>
    intro e2 s2 k
    cases k with
    | resumeFresh q' k1 _ k2 =>
      rw [q] at q'
      cases q'
      obtain ⟨a, b⟩ := ih1 k1
      subst a b
      exact ih2 k2
    | resumeSuspended q' => rw [q] at q'; cases q'
    | resumeJustStarted _ z => exact absurd rfl z
    | resumeRunning q' => rw [q] at q'; cases q'
    | resumeFinished q' => rw [q] at q'; cases q'
  | resumeSuspended q _ _ _ ih1 ih2 =>
    intro e2 s2 k
    cases k with
    | resumeSuspended q' k1 _ k2 =>
      rw [q] at q'
      cases q'
      obtain ⟨a, b⟩ := ih1 k1
      subst a b
      exact ih2 k2
    | resumeFresh q' => rw [q] at q'; cases q'
    | resumeJustStarted q' => rw [q] at q'; cases q'
    | resumeThrowFresh q' => rw [q] at q'; cases q'
    | resumeRunning q' => rw [q] at q'; cases q'
    | resumeFinished q' => rw [q] at q'; cases q'
  | resumeJustStarted q z _ ih =>
    intro e2 s2 k
    cases k with
    | resumeJustStarted _ _ k => exact ih k
    | resumeFresh => exact absurd rfl z
    | resumeSuspended q' => rw [q] at q'; cases q'
    | resumeRunning q' => rw [q] at q'; cases q'
    | resumeFinished q' => rw [q] at q'; cases q'
  | resumeThrowFresh q _ ih =>
    intro e2 s2 k
    cases k with
    | resumeThrowFresh _ k => exact ih k
    | resumeSuspended q' => rw [q] at q'; cases q'
    | resumeRunning q' => rw [q] at q'; cases q'
    | resumeFinished q' => rw [q] at q'; cases q'
  | resumeRunning q _ ih =>
    intro e2 s2 k
    cases k with
    | resumeRunning _ k => exact ih k
    | resumeFresh q' => rw [q] at q'; cases q'
    | resumeSuspended q' => rw [q] at q'; cases q'
    | resumeJustStarted q' => rw [q] at q'; cases q'
    | resumeThrowFresh q' => rw [q] at q'; cases q'
    | resumeFinished q' => rw [q] at q'; cases q'
  | resumeFinished q _ ih =>
    intro e2 s2 k
    cases k with
    | resumeFinished _ k => exact ih k
    | resumeFresh q' => rw [q] at q'; cases q'
    | resumeSuspended q' => rw [q] at q'; cases q'
    | resumeJustStarted q' => rw [q] at q'; cases q'
    | resumeThrowFresh q' => rw [q] at q'; cases q'
    | resumeRunning q' => rw [q] at q'; cases q'
  | segRet _ _ ih1 ih2 =>
    intro e2 s2 k
    cases k with
    | segRet k1 k2 =>
      obtain ⟨a, b⟩ := ih1 k1
      cases a
      subst b
      exact ih2 k2
    | segSuspOut _ k1 => cases (ih1 k1).1
    | segSuspGen _ k1 => cases (ih1 k1).1
  | segGen _ _ ih1 ih2 =>
    intro e2 s2 k
    cases k with
    | segGen k1 k2 =>
      obtain ⟨a, b⟩ := ih1 k1
      cases a
      subst b
      exact ih2 k2
    | segSuspOut _ k1 => cases (ih1 k1).1
    | segSuspGen _ k1 => cases (ih1 k1).1
  | segSuspOut z _ ih =>
    intro e2 s2 k
    cases k with
    | segRet k1 => cases (ih k1).1
    | segGen k1 => cases (ih k1).1
    | segSuspOut _ k1 =>
      obtain ⟨a, b⟩ := ih k1
      cases a
      exact ⟨rfl, b⟩
    | segSuspGen z' => rw [z] at z'; cases z'
  | segSuspGen z _ _ _ ih1 ih2 =>
    intro e2 s2 k
    cases k with
    | segRet k1 => cases (ih1 k1).1
    | segGen k1 => cases (ih1 k1).1
    | segSuspOut z' => rw [z] at z'; cases z'
    | segSuspGen z' k1 _ k2 =>
      rw [z] at z'
      cases z'
      obtain ⟨a, b⟩ := ih1 k1
      cases a
      subst b
      exact ih2 k2
theorem wakes_det {M : Model} {Γ : PySem.Ctx} {p : Pos} {g : Nat} {r : Resume} {s : Shared} {x y : GenResult} {s1 s2 : Shared} (h : Wakes M Γ p g r s x s1) (k : Wakes M Γ p g r s y s2) : y = x ∧ s2 = s1 := by
  unfold Wakes at h k
  cases hg : s.gens[g]? with
  | none => rw [hg] at h; exact h.elim
  | some st =>
    rw [hg] at h k
    cases st with
    | fresh c =>
      cases r with
      | send v =>
        cases v with
        | none =>
          obtain ⟨e1, t1, a1, a2, rfl, rfl⟩ := h
          obtain ⟨e2, t2, b1, b2, rfl, rfl⟩ := k
          obtain ⟨rfl, rfl⟩ := runs_det a1 b1
          exact ⟨rfl, rfl⟩
        | _ => exact ⟨k.1.trans h.1.symm, k.2.trans h.2.symm⟩
      | throw x => exact ⟨k.1.trans h.1.symm, k.2.trans h.2.symm⟩
    | suspended k0 l c0 p0 fs cl =>
      obtain ⟨e1, t1, a1, a2, rfl, rfl⟩ := h
      obtain ⟨e2, t2, b1, b2, rfl, rfl⟩ := k
      obtain ⟨rfl, rfl⟩ := runs_det a1 b1
      exact ⟨rfl, rfl⟩
    | running => exact ⟨k.1.trans h.1.symm, k.2.trans h.2.symm⟩
    | finished => exact ⟨k.1.trans h.1.symm, k.2.trans h.2.symm⟩
theorem wp_both {α : Type} {M : Model} {Γ : PySem.Ctx} : ∀ (m : Sem α) {Q1 Q2 : α → Pos → Shared → Prop} {E1 E2 : Value → Pos → Shared → Prop} {p : Pos} {s : Shared}, Sem.wp M Γ m Q1 E1 p s → Sem.wp M Γ m Q2 E2 p s → Sem.wp M Γ m (fun a q t => Q1 a q t ∧ Q2 a q t) (fun x q t => E1 x q t ∧ E2 x q t) p s := by
  intro m
  induction m with
  | pure a => intro Q1 Q2 E1 E2 p s h k; rw [Sem.wp] at *; exact ⟨h, k⟩
  | raise x => intro Q1 Q2 E1 E2 p s h k; rw [Sem.wp] at *; exact ⟨h, k⟩
  | load a part k ih =>
    intro Q1 Q2 E1 E2 p s h k
    rw [Sem.wp] at *
    obtain ⟨o, e, h⟩ := h
    obtain ⟨o', e', k⟩ := k
    rw [e] at e'
    cases e'
    exact ⟨o, e, ih _ h k⟩
  | update a part f k ih =>
    intro Q1 Q2 E1 E2 p s h k
    rw [Sem.wp] at *
    exact ⟨h.1, ih _ h.2 k.2⟩
  | choose src n k ih =>
    intro Q1 Q2 E1 E2 p s h k
    rw [Sem.wp] at *
    exact ⟨h.1, ih _ h.2 k.2⟩
  | call c h0 g l k ih =>
    intro Q1 Q2 E1 E2 p s h k
    rw [Sem.wp] at *
    obtain ⟨r, s1, h1, h⟩ := h
    obtain ⟨r', s1', k1, k⟩ := k
    obtain ⟨a, b⟩ := runs_det h1 k1
    cases a
    subst b
    exact ⟨r, _, h1, ih _ h k⟩
  | genState g k ih =>
    intro Q1 Q2 E1 E2 p s h k
    rw [Sem.wp] at *
    obtain ⟨o, e, h⟩ := h
    obtain ⟨o', e', k⟩ := k
    rw [e] at e'
    cases e'
    exact ⟨o, e, ih _ h k⟩
  | resume g r l k ih =>
    intro Q1 Q2 E1 E2 p s h k
    rw [Sem.wp] at *
    obtain ⟨x, s1, h1, h⟩ := h
    obtain ⟨y, s2, k1, k⟩ := k
    obtain ⟨rfl, rfl⟩ := wakes_det h1 k1
    exact ⟨_, _, h1, ih _ h k⟩
  | unsupported => intro Q1 Q2 E1 E2 p s h k; rw [Sem.wp] at h; exact h.elim
  | finish => intro Q1 Q2 E1 E2 p s h k; rw [Sem.wp] at h; exact h.elim
  | register a k ih => intro Q1 Q2 E1 E2 p s h k; rw [Sem.wp] at h; exact h.elim
  | yield v g l k ih => intro Q1 Q2 E1 E2 p s h k; rw [Sem.wp] at h; exact h.elim
  | fork _ _ ih => intro Q1 Q2 E1 E2 p s h k; rw [Sem.wp] at h; exact h.elim
  | await => intro Q1 Q2 E1 E2 p s h k; rw [Sem.wp] at h; exact h.elim
  | _ => rename_i ih; intro Q1 Q2 E1 E2 p s h k; rw [Sem.wp] at *; exact ih _ h k
/-- what two proofs tell of one run, together -/
theorem wpAny_both {α : Type} {M : Model} {A : Around} {m : Sem α} {Q1 Q2 : α → Shared → Prop} {E1 E2 : Value → Shared → Prop} {s : Shared} (h : wpAny M A m Q1 E1 s) (k : wpAny M A m Q2 E2 s) : wpAny M A m (fun a t => Q1 a t ∧ Q2 a t) (fun x t => E1 x t ∧ E2 x t) s := fun Γ p hA => wp_both m (h Γ p hA) (k Γ p hA)
end Sv

/-! Runs that leave the table of generators as it is: a second judgement, for the little code of which it must be told. -/
namespace Sv
open PySem PySem.Spec PyProof.Rows L2
/-- what stands, and the table -/
structure IG (G : Array GenState) (X : Cx) (pins : PinL) (σ : L2.St) (H : Hp) (s : Shared) : Prop where
  i : Inv X pins σ H s
  g : s.gens = G
def EG (G : Array GenState) (X : Cx) (pins : PinL) (σ : L2.St) (Q : VK) (u : Value) (s' : Shared) : Prop := ∃ v H', IG G X pins σ H' s' ∧ RelV v u ∧ Q v H'
def SG (G : Array GenState) (X : Cx) (pins : PinL) (D : Ends) (f : Flow) (s' : Shared) : Prop :=
  match f with
  | .next => ∃ σ' H', IG G X pins σ' H' s' ∧ D.nx σ' H'
  | .ret u => ∃ v σ' H', IG G X pins σ' H' s' ∧ RelV v u ∧ D.rt v H'
  | _ => False
structure QE (G : Array GenState) (X : Cx) (e : Expr) (σ : L2.St) (H : Hp) (Q : VK) : Prop where
  run : ∀ (pins : PinL) (s : Shared), IG G X pins σ H s → wpAny (model X.prog X.w) X.A (eval e X.env) (EG G X pins σ Q) X.xe s
structure QA (G : Array GenState) (X : Cx) (es : List Expr) (σ : L2.St) (H : Hp) (Q : List V → Hp → Prop) : Prop where
  run : ∀ (pos : Pos) (pins : PinL) (s : Shared), IG G X pins σ H s → wpAny (model X.prog X.w) X.A (spliced (backTo pos (starEach es X.env))) (fun us s' => ∃ vs H', IG G X pins σ H' s' ∧ Vals vs us ∧ Q vs H') X.xe s
structure QS (G : Array GenState) (X : Cx) (st : Stmt) (D : Ends) (σ : L2.St) (H : Hp) : Prop where
  run : ∀ (pins : PinL) (s : Shared), IG G X pins σ H s → wpAny (model X.prog X.w) X.A (exec st X.env) (SG G X pins D) X.xe s
structure QL (G : Array GenState) (X : Cx) (sts : List Stmt) (D : Ends) (σ : L2.St) (H : Hp) : Prop where
  run : ∀ (pins : PinL) (s : Shared), IG G X pins σ H s → wpAny (model X.prog X.w) X.A (execs sts X.env) (SG G X pins D) X.xe s
theorem QE.imp {G : Array GenState} {X : Cx} {e : Expr} {σ : L2.St} {H : Hp} {Q Q' : VK} (h : QE G X e σ H Q) (q : ∀ v H', Q v H' → Q' v H') : QE G X e σ H Q' :=
  ⟨fun pins s I => thn (h.run pins s I) fun _ _ ⟨v, H', I', r, z⟩ => ⟨v, H', I', r, q v H' z⟩⟩
section
variable {Gn : Array GenState} {X : Cx} {N L S G B : List Str} {σ : L2.St} {H : Hp} {Q : VK} {x : Str} {v : V} {pos : Pos} {a b e : Expr} {es : List Expr}
theorem IG.tok {pins : PinL} {s : Shared} (I : IG Gn X pins σ H s) (t : Tok) : IG Gn X pins σ H { s with toks := t } := ⟨I.i.tok t, I.g⟩
theorem IG.kept {pins : PinL} {s : Shared} {h' : Heap} {t : Nat} (I : IG Gn X pins σ H s) (k : ∀ b o, s.heap.get? b = some o → h'.get? b = some o) : IG Gn X pins σ H { s with heap := h', toks := t } := ⟨I.i.kept k, I.g⟩
theorem q_name (c : Nm X N L S G B) (h : At N σ x v) (m : Mb x L) (q : Q v H) : QE Gn X (.Name x pos) σ H Q := by
  obtain ⟨i, h1, h2⟩ := h.ix
  obtain ⟨hv, hd, hcd⟩ := c.vis x m.mem
  refine ⟨fun pins s I => ?_⟩
  obtain ⟨mm, hn, hl⟩ := I.i.loc
  obtain ⟨u, r, l⟩ := hl i x v (by rw [c.names]; exact h1) h2 hv
  have done : EG Gn X pins σ Q u s := ⟨v, H, I, r, q⟩
  rcases l with ⟨hk, hm⟩ | ⟨hk | hk, cc, hc, hcell⟩
  · exact wpAny_Name (wpAny_loadName_local I.i.ok.kind hk hn hm done) hd
  · exact wpAny_Name (wpAny_loadName_cell I.i.ok.kind hk hc hcell done) hd
  · exact wpAny_Name (wpAny_loadName_free I.i.ok.kind hk hc hcell done hcd) hd
theorem q_int {i : Int} {j} (q : Q (.int i) H) : QE Gn X (.Constant (.int i) j pos) σ H Q := ⟨fun _ _ I => wpAny_Constant_int ⟨.int i, H, I.tok _, ⟨_, rfl⟩, q⟩⟩
theorem q_str {z : Str} {j} (q : Q (.str z) H) : QE Gn X (.Constant (.str z) j pos) σ H Q := ⟨fun _ _ I => Calls.Constant_str ⟨.str z, H, I.tok _, ⟨_, rfl⟩, q⟩⟩
theorem q_one {op} (h : QE Gn X a σ H Q) : QE Gn X (.BoolOp op [a] pos) σ H Q := ⟨fun pins s I => BoolOp_one (h.run pins s I)⟩
theorem q_and {rest : List Expr} (h : QE Gn X a σ H fun y H1 => y = .bl true ∧ QE Gn X (.BoolOp .And (b :: rest) pos) σ H1 Q) : QE Gn X (.BoolOp .And (a :: b :: rest) pos) σ H Q := by
  refine ⟨fun pins s I => BoolOp_and (thn (h.run pins s I) fun u s1 ⟨y, H1, I1, r1, ey, q1⟩ => ?_)⟩
  subst ey
  cases r1
  exact wpAny_truthy_bool (q1.run pins s1 I1)
theorem q_not {k : Bool} (h : QE Gn X a σ H fun y H1 => y = .bl k ∧ Q (.bl (!k)) H1) : QE Gn X (.UnaryOp .Not a pos) σ H Q := by
  refine ⟨fun pins s I => UnaryOp_ (thn (h.run pins s I) fun u s1 ⟨y, H1, I1, r1, ey, q1⟩ => ?_)⟩
  subst ey
  cases r1
  exact not_of (wpAny_truthy_bool ⟨.bl (!k), H1, I1, rfl, q1⟩)
theorem q_ge (h : QE Gn X a σ H fun y H1 => QE Gn X b σ H1 fun z H2 => ∃ i j, y = .int i ∧ z = .int j ∧ Q (.bl (decide (j ≤ i))) H2) (h1 : behindInMarks .GtE b = false := by exact nobehind _ (by decide) (by decide)) : QE Gn X (.Compare a [.GtE] [b] pos) σ H Q := by
  refine ⟨fun pins s I => wpAny_Compare1 (thn (h.run pins s I) fun u s1 ⟨y, H1, I1, r1, q1⟩ => thn (q1.run pins s1 I1) fun u2 s2 ⟨z, H2, I2, r2, i, j, ey, ez, q2⟩ => ?_) h1⟩
  subst ey ez
  obtain ⟨t, rfl⟩ := r1
  obtain ⟨t', rfl⟩ := r2
  exact PyProof.Rows.ge_int ⟨.bl _, H2, I2, rfl, q2⟩
theorem q_add (h : QE Gn X a σ H fun y H1 => QE Gn X b σ H1 fun z H2 => ∃ i j, y = .int i ∧ z = .int j ∧ Q (.int (i + j)) H2) : QE Gn X (.BinOp a .Add b pos) σ H Q := by
  refine ⟨fun pins s I => wpAny_BinOp (thn (h.run pins s I) fun u s1 ⟨y, H1, I1, r1, q1⟩ => thn (q1.run pins s1 I1) fun u2 s2 ⟨z, H2, I2, r2, i, j, ey, ez, q2⟩ => ?_)⟩
  subst ey ez
  obtain ⟨t, rfl⟩ := r1
  obtain ⟨t', rfl⟩ := r2
  exact add_int ⟨.int _, H2, I2.tok _, ⟨_, rfl⟩, q2⟩
theorem q_mul (h : QE Gn X a σ H fun y H1 => QE Gn X b σ H1 fun z H2 => ∃ i j, y = .int i ∧ z = .int j ∧ (-(2 ^ 64) < i ∧ i < 2 ^ 64) ∧ Q (.int (i * j)) H2) : QE Gn X (.BinOp a .Mult b pos) σ H Q := by
  refine ⟨fun pins s I => wpAny_BinOp (thn (h.run pins s I) fun u s1 ⟨y, H1, I1, r1, q1⟩ => thn (q1.run pins s1 I1) fun u2 s2 ⟨z, H2, I2, r2, i, j, ey, ez, hb, q2⟩ => ?_)⟩
  subst ey ez
  obtain ⟨t, rfl⟩ := r1
  obtain ⟨t', rfl⟩ := r2
  exact mul_int ⟨.int _, H2, I2.tok _, ⟨_, rfl⟩, q2⟩ (.of_left (intBits_le_64 hb.1 hb.2))
theorem qa_nil {Q : List V → Hp → Prop} (q : Q [] H) : QA Gn X [] σ H Q := ⟨fun _ _ _ I => Calls.spliced_nil ⟨[], H, I, .nil, q⟩⟩
theorem qa_cons {Q : List V → Hp → Prop} (h : QE Gn X e σ H fun y H1 => QA Gn X es σ H1 fun ys H2 => Q (y :: ys) H2) (hs : starEach (e :: es) X.env = (false, eval e X.env) :: starEach es X.env := by with_unfolding_all rfl) : QA Gn X (e :: es) σ H Q := by
  refine ⟨fun pp pins s I => ?_⟩
  rw [hs]
  show wpAny _ _ (spliced ((false, eval e X.env) :: backTo pp (starEach es X.env))) _ _ s
  refine Calls.spliced_cons (thn (h.run pins s I) fun u s1 ⟨y, H1, I1, r1, q1⟩ => ?_)
  exact thn (q1.run pp pins s1 I1) fun us s2 ⟨ys, H2, I2, r2, q2⟩ => ⟨y :: ys, H2, I2, .cons r1 r2, q2⟩
/-- a built-in function -/
theorem q_callB {id : String} {p : Pos} (c : Nm X N L S G B) (m : Mb x B) (hv : bootBuiltins x = some (.builtin id))
    (h : QA Gn X (e :: es) σ H fun vs H1 => ∀ pins s us, IG Gn X pins σ H1 s → Vals vs us → wpAny (model X.prog X.w) X.A (call (.builtin id) us) (EG Gn X pins σ Q) X.xe s)
    (he : starEach (e :: es) X.env = (false, eval e X.env) :: starEach es X.env := by with_unfolding_all rfl) (hpl : (backTo pos (starEach es X.env)).any (·.1) = false := by with_unfolding_all rfl) : QE Gn X (.Call (.Name x p) (e :: es) [] pos) σ H Q := by
  obtain ⟨gl, hd, hn⟩ := c.bgl x m.mem
  refine ⟨fun pins s I => wpAny_Call_Name_kw (ld_blt I.i gl (c.blt x m.mem) hv ?_ hn hd)⟩
  exact PyProof.Rows.callWith_builtin1 (thn (h.run pos pins s I) fun us s1 ⟨vs, H1, I1, r1, q1⟩ => q1 pins s1 us I1 r1) he hpl
theorem q_bty {T : String} (c : Nm X N L S G B) (m : Mb x B) (hv : bootBuiltins x = some (.type T)) (q : Q (.ty T) H) : QE Gn X (.Name x pos) σ H Q := by
  obtain ⟨gl, hd, hn⟩ := c.bgl x m.mem
  exact ⟨fun pins s I => ld_blt I.i gl (c.blt x m.mem) hv ⟨.ty T, H, I, rfl, q⟩ hn hd⟩
/-- isinstance(int, T) -/
theorem q_isi {T y : Str} {Tn : String} {p p2 : Pos} {i : Int} {k : Bool} (c : Nm X N L S G B) (m : Mb "isinstance" B) (m2 : Mb y B) (hT : bootBuiltins y = some (.type Tn)) (hk : PySem.W.kitOne X.K (.type "int") (.type Tn) = some k)
    (h : QE Gn X e σ H fun z H1 => z = .int i ∧ Q (.bl k) H1) (hs : starEach [e, .Name y p2] X.env = (false, eval e X.env) :: starEach [.Name y p2] X.env := by with_unfolding_all rfl) (hs2 : starEach [.Name y p2] X.env = (false, eval (.Name y p2) X.env) :: starEach [] X.env := by with_unfolding_all rfl)
    (hpl : (backTo pos (starEach [.Name y p2] X.env)).any (·.1) = false := by with_unfolding_all rfl) : QE Gn X (.Call (.Name "isinstance" p) [e, .Name y p2] [] pos) σ H Q := by
  refine q_callB c m rfl (qa_cons (h.imp fun z H1 ⟨ez, q⟩ => qa_cons (q_bty c m2 hT (qa_nil fun pins s us I r => ?_)) hs2) hs) hs hpl
  subst ez
  obtain ⟨u1, u2, rfl, ⟨t, rfl⟩, r2⟩ := vals2 r
  obtain rfl : u2 = Value.type Tn := r2
  exact PySem.W.kia_one PySem.W.kitx_int I.i.kIn True.intro hk (fun z => nomatch z) fun tk => ⟨.bl k, H1, I.tok tk, rfl, q⟩
theorem q_max {p : Pos} (c : Nm X N L S G B) (m : Mb "max" B) (h : QE Gn X a σ H fun y H1 => QE Gn X b σ H1 fun z H2 => ∃ i j, y = .int i ∧ z = .int j ∧ Q (.int (if j > i then j else i)) H2)
    (hs : starEach [a, b] X.env = (false, eval a X.env) :: starEach [b] X.env := by with_unfolding_all rfl) (hs2 : starEach [b] X.env = (false, eval b X.env) :: starEach [] X.env := by with_unfolding_all rfl)
    (hpl : (backTo pos (starEach [b] X.env)).any (·.1) = false := by with_unfolding_all rfl) : QE Gn X (.Call (.Name "max" p) [a, b] [] pos) σ H Q := by
  refine q_callB c m rfl (qa_cons (h.imp fun y H1 h2 => qa_cons (h2.imp fun z H2 ⟨i, j, ey, ez, q⟩ => qa_nil fun pins s us I r => ?_) hs2) hs) hs hpl
  subst ey ez
  obtain ⟨u, u2, rfl, ⟨t, rfl⟩, ⟨t', rfl⟩⟩ := vals2 r
  refine max_two_ints (I.i.ok.hd c.calm) fun h' tk k => ⟨_, H2, I.kept k, ?_, q⟩
  by_cases hj : j > i
  · rw [if_pos hj, if_pos hj]; exact ⟨_, rfl⟩
  · rw [if_neg hj, if_neg hj]; exact ⟨_, rfl⟩
theorem q_len {p : Pos} (c : Nm X N L S G B) (m : Mb "len" B) (h : QE Gn X e σ H fun y H1 => ((∃ z, y = .str z ∧ z.length ≤ sizeLine ∧ Q (.int z.length) H1) ∨ ∃ q xs, y = .ref q ∧ SqL X.K H1 q xs ∧ Q (.int xs.length) H1))
    (hs : starEach [e] X.env = (false, eval e X.env) :: starEach [] X.env := by with_unfolding_all rfl) (hpl : (backTo pos (starEach [] X.env)).any (·.1) = false := by with_unfolding_all rfl) : QE Gn X (.Call (.Name "len" p) [e] [] pos) σ H Q := by
  refine q_callB c m rfl (qa_cons (h.imp fun y H1 h2 => qa_nil fun pins s us I r => ?_) hs) hs hpl
  obtain ⟨u, rfl, rx⟩ := vals1 r
  have hz := sizeLine_eq
  have hl := line63
  rcases h2 with ⟨z, rfl, hzl, q⟩ | ⟨pp, xs, rfl, hx, q⟩
  · obtain ⟨t, rfl⟩ := rx
    exact len_str (by omega) ⟨.int _, H1, I.tok _, ⟨_, rfl⟩, q⟩
  · obtain rfl : u = Value.ref pp := rx
    obtain ⟨its, r', pl, hz'⟩ := I.i.list hx
    have hlen := r'.length
    exact Calls.call_len_list pl.isList (by simp only [List.size_toArray]; omega) ⟨.int xs.length, H1, I.tok _, ⟨_, by simp only [List.size_toArray]; rw [hlen]⟩, q⟩
theorem q_dm {p : Pos} (c : Nm X N L S G B) (m : Mb "divmod" B) (h : QE Gn X a σ H fun y H1 => QE Gn X b σ H1 fun z H2 => ∃ i j, y = .int i ∧ z = .int j ∧ (0 < j ∧ j < 1073741824) ∧ ∀ p H', H2 p = none → Same H2 H' → H' p = some (.tup [.int (i / j), .int (i % j)]) → Q (.ref p) H')
    (hs : starEach [a, b] X.env = (false, eval a X.env) :: starEach [b] X.env := by with_unfolding_all rfl) (hs2 : starEach [b] X.env = (false, eval b X.env) :: starEach [] X.env := by with_unfolding_all rfl)
    (hpl : (backTo pos (starEach [b] X.env)).any (·.1) = false := by with_unfolding_all rfl) : QE Gn X (.Call (.Name "divmod" p) [a, b] [] pos) σ H Q := by
  refine q_callB c m rfl (qa_cons (h.imp fun y H1 h2 => qa_cons (h2.imp fun z H2 ⟨i, j, ey, ez, ⟨j1, j2⟩, q⟩ => qa_nil fun pins s us I r => ?_) hs2) hs) hs hpl
  subst ey ez
  obtain ⟨u, u2, rfl, ⟨t, rfl⟩, ⟨t', rfl⟩⟩ := vals2 r
  refine divmod_int (by omega) ?_ (.inl (PyProof.noPylong_small (by omega)))
  rw [Int.fdiv_eq_ediv_of_nonneg i (by omega), Int.fmod_eq_emod_of_nonneg i (by omega)]
  have hnew : H2 s.heap.objs.size = none := I.i.hok.fresh (Nat.le_refl _)
  have two : (2 : Nat) ≤ sizeLine := by rw [sizeLine_eq]; decide
  refine ⟨.ref s.heap.objs.size, upd H2 s.heap.objs.size (.tup [.int (i / j), .int (i % j)]), ⟨I.i.laid (fun b o e => Heap.get?_push_of_some _ e) (Nat.le_refl _) ⟨two, [.int (i / j) s.toks, .int (i % j) (s.toks + 1)], .cons ⟨_, rfl⟩ (.cons ⟨_, rfl⟩ .nil), ⟨_, Heap.get?_push_size s.heap rfl, rfl, 0, rfl⟩⟩, I.g⟩, rfl, q _ _ hnew (same_new hnew) upd_same⟩
end
end Sv

/-! Quiet code, further: attributes, items, slices, calls, statements, defs. -/
namespace Sv
open PySem PySem.Spec PyProof.Rows L2
section
variable {Gn : Array GenState} {X : Cx} {N L S G B : List Str} {σ : L2.St} {H : Hp} {Q : VK} {x : Str} {v : V} {pos : Pos} {a b e : Expr} {es : List Expr}
theorem q_attr {f : Str} (h : QE Gn X e σ H fun y H1 => ∃ o C dx fs w, y = .ref o ∧ H1 o = some (.ins C dx fs) ∧ Cls X.K C ∧ NoAttr X.K C f ∧ fs.lookup f = some w ∧ Q w H1) (hb : attributeBase e f X.env (eval e X.env) = eval e X.env := by with_unfolding_all rfl) : QE Gn X (.Attribute e f pos) σ H Q := by
  refine ⟨fun pins s I => attr_of hb (thn (h.run pins s I) fun u s1 ⟨y, H1, I1, r1, o, C, dx, fs, w, ey, ho, hc, hn, hl, q⟩ => ?_)⟩
  subst ey
  obtain rfl : u = Value.ref o := r1
  obtain ⟨mp, ob, rel, _, _, _⟩ := ins_get I1.i.hok ho
  obtain ⟨u2, hu, ru⟩ := RelO.some_of (v := w) (o := mp f) (by rw [← hl]; exact rel f)
  exact get_map I1.i.kIn ob (hc.get f) hc.hd hn hu (handed_of ru) ⟨w, H1, I1.tok _, ru, q⟩
theorem q_ixL (h : QE Gn X a σ H fun y H1 => QE Gn X b σ H1 fun z H2 => ∃ p xs i w, y = .ref p ∧ z = .int i ∧ 0 ≤ i ∧ SqL X.K H2 p xs ∧ atI xs i = some w ∧ Q w H2) (hs : PlainIx b) : QE Gn X (.Subscript a b pos) σ H Q := by
  refine ⟨fun pins s I => Subscript_ (thn (h.run pins s I) fun u s1 ⟨y, H1, I1, r1, q1⟩ => thn (q1.run pins s1 I1) fun u2 s2 ⟨z, H2, I2, r2, p, xs, i, w, ey, ez, h0, hx, hat, q⟩ => ?_)⟩
  subst ey ez
  obtain rfl : u = Value.ref p := r1
  obtain ⟨t, rfl⟩ := r2
  obtain ⟨its, r, pl, hz⟩ := I2.i.list hx
  obtain ⟨j, j1, j2, j3, j4, j5⟩ := atI_get hat
  obtain ⟨uw, ew, rw'⟩ := r.get j2
  have hlen := r.length
  have l63 := line63
  have ej : i.toNat = j := by
    rw [seqIndex_of h0 j5] at j1
    exact Option.some.inj j1
  exact item_listR pl.isList h0 (by omega) (by rw [ej]; simpa using ew) ⟨w, H2, I2, rw', q⟩ (hs _ _)
theorem q_upTo {p2 : Pos} (h : QE Gn X a σ H fun y H1 => QE Gn X b σ H1 fun z H2 => ∃ w i, y = .str w ∧ z = .int i ∧ w.length ≤ sizeLine ∧ Q (.str (cutS w none (some i))) H2) : QE Gn X (.Subscript a (.Slice none (some b) none p2) pos) σ H Q := by
  refine ⟨fun pins s I => Subscript_ (thn (h.run pins s I) fun u s1 ⟨y, H1, I1, r1, q1⟩ => wpAny_Slice ?_)⟩
  rw [evalPart_none]
  refine wpAny_pure ?_
  rw [evalPart_some]
  refine thn (q1.run pins s1 I1) fun u2 s2 ⟨z, H2, I2, r2, w, i, ey, ez, hw, q⟩ => ?_
  refine wpAny_pure ?_
  subst ey ez
  obtain ⟨t, rfl⟩ := r1
  obtain ⟨t2, rfl⟩ := r2
  have I3 : IG Gn X pins σ H2 { s2 with heap := s2.heap.push { cls := .type "slice", data := .fields #[.none, .int i t2, .none] } } := I2.kept (t := s2.toks) fun c o e => Heap.get?_push_of_some _ e
  obtain ⟨os, hos, hcs, hds⟩ := Heap.IsSliceOf.new s2.heap .none (.int i t2) .none
  have fits : (PySem.StrLaws.sliceText w none (some i)).length ≤ sizeLine := by
    rw [sliceText_cut]
    exact Nat.le_trans (cutS_length w _ _) hw
  rw [← sliceText_cut] at q
  unfold PySem.StrLaws.sliceText at q fits
  refine tail_any (ops := [.ref s2.heap.objs.size, .str w t]) (typeIs_str _ _ _) F.slot_str_getitem.lookup (wpAny_getItem_str_slice (l := none) (u := some (i, t2)) (st := none) ⟨os, hos, hcs, hds⟩ rfl ?_) (by with_unfolding_all rfl)
  show Made.post (if ((1 : Int) == 1 && (Builtin.Str.strSliceIndices none (some i) 1 w.length).length == w.length) = true then Made.val (.str w t)
    else Made.str ⟨((Builtin.Str.strSliceIndices none (some i) 1 w.length).filterMap (w.cps[·]?)).toArray⟩) (EG Gn X pins σ Q) _
  by_cases hc : ((1 : Int) == 1 && (Builtin.Str.strSliceIndices none (some i) 1 w.length).length == w.length) = true
  · rw [if_pos hc] at q ⊢
    exact ⟨.str w, H2, I3, ⟨t, rfl⟩, q⟩
  · rw [if_neg hc] at q fits ⊢
    exact ⟨fits, .str _, H2, I3.tok _, ⟨_, rfl⟩, q⟩
theorem q_count {apos : Pos} (h : QE Gn X a σ H fun y H1 => ∃ w, y = .str w ∧ QE Gn X e σ H1 fun z H2 => ∃ t, z = .str t ∧ Q (.int (Txt.count w t)) H2)
    (hs : starEach [e] X.env = [(false, eval e X.env)] := by with_unfolding_all rfl) (hbase : attributeBase a "count" X.env (eval a X.env) = eval a X.env := by with_unfolding_all rfl) (hline : (apos.endLine == pos.line) = true := by with_unfolding_all rfl) : QE Gn X (.Call (.Attribute a "count" apos) [e] [] pos) σ H Q := by
  refine ⟨fun pins s I => PySem.Call_method1 hbase hs hline (thn (h.run pins s I) fun u s1 ⟨y, H1, I1, r1, w, ey, q1⟩ => ?_)⟩
  subst ey
  obtain ⟨t1, rfl⟩ := r1
  refine ⟨"str", _, F.plainAttrs_str, PySem.F.slot_str_count, PySem.F.type_str_count, typeIs_str _ _ _, (fun _ e => nomatch e), Calls.callWith_builtin rfl (Calls.evalArgs_plain (Calls.spliced_cons ?_))⟩
  refine thn (q1.run pins s1 I1) fun u2 s2 ⟨z, H2, I2, r2, t, ez, q⟩ => Calls.spliced_nil ?_
  subst ez
  obtain ⟨t2, rfl⟩ := r2
  exact PySem.SC.count ⟨.int _, H2, I2.tok _, ⟨_, rfl⟩, q⟩
/-! ### statements -/
section
variable {st : Stmt} {sts : List Stmt} {D : Ends}
theorem ql_nil (q : D.nx σ H) : QL Gn X [] D σ H := ⟨fun pins s I => wpAny_execs_nil ⟨σ, H, I, q⟩⟩
theorem ql_cons (h : QS Gn X st { D with nx := fun σ' H' => QL Gn X sts D σ' H' } σ H) : QL Gn X (st :: sts) D σ H := by
  refine ⟨fun pins s I => wpAny_execs_cons (thn (h.run pins s I) fun f s1 q => ?_)⟩
  cases f with
  | next =>
    obtain ⟨σ', H', I', q⟩ := q
    exact q.run pins s1 I'
  | ret u => exact q
  | brk => exact q.elim
  | cont => exact q.elim
theorem qs_expr (h : QE Gn X e σ H fun _ H1 => D.nx σ H1) (hs : swapsWith e none pos.line X.env = pure false := by with_unfolding_all rfl) : QS Gn X (.Expr e pos) D σ H :=
  ⟨fun pins s I => wpAny_Expr_any (thn (h.run pins s I) fun _ s1 ⟨_, H1, I1, _, q⟩ => ⟨σ, H1, I1, q⟩) I.i.quiet hs⟩
theorem qs_ret (h : QE Gn X e σ H D.rt) : QS Gn X (.Return (some e) pos) D σ H :=
  ⟨fun pins s I => wpAny_Return_some (thn (h.run pins s I) fun _ s1 ⟨y, H1, I1, r, q⟩ => ⟨y, σ, H1, I1, r, q⟩)⟩
/-- if not e: .., e true -/
theorem qs_ifnot {p : Pos} {body els : List Stmt} (h : QE Gn X e σ H fun y H1 => y = .bl true ∧ QL Gn X els D σ H1) (he : ∀ whole, isTrue e X.env whole = (do let v ← whole; standAt e.pos; holding [v] (truthy v)) := by intro _; with_unfolding_all rfl) : QS Gn X (.If (.UnaryOp .Not e p) body els pos) D σ H := by
  refine ⟨fun pins s I => wpAny_If (isTrue_not (isTrue_plain (thn (h.run pins s I) fun u s1 ⟨y, H1, I1, r, ey, q⟩ => ?_) (he _)))⟩
  subst ey
  cases r
  exact wpAny_truthy_bool (q.run pins s1 I1)
/-- a local name is stored -/
theorem store_g {M : Model} {A : Around} {E : Value → Shared → Prop} {pins : PinL} {s : Shared} {σ' : L2.St} {u : Value} (c : Nm X N L S G B) (I : IG Gn X pins σ H s) (hp : Put N σ x v σ') (m : Mb x S) (hloc : X.env.kindOf x = some .local) (r : RelV v u) : wpAny M A (storeName X.env x u) (fun _ s' => IG Gn X pins σ' H s') E s := by
  obtain ⟨i, h1, rfl⟩ := hp.ix
  obtain ⟨hx, hf⟩ := c.sto x m.mem
  have hk : (X.env.scope.kind == .class || (X.env.scope.kind == .module && X.env.locals != X.env.globals)) = false := by rw [I.i.ok.kind]; rfl
  obtain ⟨mm, hn, _⟩ := id I.i.loc
  have one : wpAny M A (storeName X.env x u) (fun _ s' => Inv X pins (σ.set i (some v)) H s') E s := store_ok I.i (by rw [c.names]; exact c.nd) (by rw [c.names]; exact h1) hx r (fun s' I' => I') hf
  have two : wpAny M A (storeName X.env x u) (fun _ s' => s'.gens = Gn) E s := wpAny_storeName_local hloc hn (fun h' _ _ => I.g) hk
  exact wpAny_mono (wpAny_both one two) (fun _ s' z => ⟨z.1, z.2⟩) fun _ _ z => z.1
/-- y, z = a pair -/
theorem qs_pair {y z : Str} {py pz tp : Pos} {kt : Nat} (c : Nm X N L S G B) (ly : X.env.kindOf y = some .local) (lz : X.env.kindOf z = some .local) (my : Mb y S) (mz : Mb z S)
    (h : QE Gn X e σ H fun w H1 => ∃ p v1 v2, w = .ref p ∧ H1 p = some (.tup [v1, v2]) ∧ ∃ σ1 σ2, Put N σ y v1 σ1 ∧ Put N σ1 z v2 σ2 ∧ D.nx σ2 H1)
    (hs : swapsWithSole [.Tuple [.Name y py, .Name z pz] kt tp] e pos.line X.env = pure false := by with_unfolding_all rfl) (hw : swappedStores [.Tuple [.Name y py, .Name z pz] kt tp] e X.env = pure none := by with_unfolding_all rfl)
    (h1 : (assignEach [.Tuple [.Name y py, .Name z pz] kt tp] X.env).map (·.2) = [assign (.Tuple [.Name y py, .Name z pz] kt tp) X.env] := by with_unfolding_all rfl)
    (hn : (assignEach [.Name y py, .Name z pz] X.env).length = 2 := by with_unfolding_all rfl) (hst : (assignEach [.Name y py, .Name z pz] X.env).findIdx? (·.1) = none := by with_unfolding_all rfl)
    (h2 : (assignEach [.Name y py, .Name z pz] X.env).map (·.2) = [assign (.Name y py) X.env, assign (.Name z pz) X.env] := by with_unfolding_all rfl) : QS Gn X (.Assign [.Tuple [.Name y py, .Name z pz] kt tp] e pos) D σ H := by
  refine ⟨fun pins s I => wpAny_Assign_stores (thn (h.run pins s I) fun u s1 ⟨w, H1, I1, r1, p, v1, v2, ew, hp, σ1, σ2, p1, p2, q⟩ => ?_) hs hw⟩
  rw [h1]
  subst ew
  obtain rfl : u = Value.ref p := r1
  obtain ⟨its, rv, ht, hz⟩ := I1.i.tuple (.inl (.inl hp))
  have hl := rv.length
  refine thn (Q := fun _ s' => ∃ σ' H', IG Gn X pins σ' H' s' ∧ D.nx σ' H') (assign_Tuple_tuple (I1.i.ok.hd c.calm) ht (by rw [hn]; simpa using hl) hst fun h' hx => ?_) fun _ s' z => z
  have I2 : IG Gn X pins σ H1 { s1 with heap := h' } := ⟨I1.i.kept (t' := s1.toks) fun b o e => hx b o (Nat.ne_of_lt (Heap.lt_size e)) e, I1.g⟩
  obtain ⟨u1, u2, e2, r1, r2⟩ := vals2 (show Vals [v1, v2] its from by simpa using rv)
  rw [h2]
  subst e2
  refine assignInOrder_cons (thn (wpAny_assign_Name (store_g c I2 p1 my ly r1)) fun _ s3 I3 => ?_)
  refine assignInOrder_cons (thn (wpAny_assign_Name (store_g c I3 p2 mz lz r2)) fun _ s4 I4 => ?_)
  exact assignInOrder_nil ⟨_, _, I4, q⟩
end
end
/-! ### defs -/
/-- what a quiet def gives -/
def CG (outer : List Env) (P : Program) (w : World) (H : Hp) (s : Shared) (Q : VK) (r : Result) (s' : Shared) : Prop := ∃ u, r = .ok (.ret u) ∧ CE outer P w H s Q u s' ∧ s'.gens = s.gens
abbrev SpQ := List V → Hp → VK → Prop
/-- the def at f leaves the generators as they are -/
def FnQ (P : Program) (w : World) (K : PySem.W.Frag) (mg : Str → Option Value) (base : Heap) (k : Nat) (f : Addr) (sp : SpQ) : Prop :=
  ∀ (A : Around) (outer : List Env) (s : Shared) (H : Hp) (us : List Value) (vs : List V) (Q : VK), Room k A → Env0 P w K mg base A outer s H → Vals vs us → sp vs H Q → codeAny (model P w) A (.call (.ref f) ⟨us, []⟩) (CG outer P w H s Q) s
structure FnQn (P : Program) (w : World) (K : PySem.W.Frag) (mg : Str → Option Value) (base : Heap) (x : Str) (k : Nat) (sp : SpQ) : Prop where
  ex : ∃ f, mg x = some (.ref f) ∧ PySem.W.keepIn K (.ref f) = true ∧ FnQ P w K mg base k f sp
structure MtQn (P : Program) (w : World) (K : PySem.W.Frag) (mg : Str → Option Value) (base : Heap) (C : Addr) (m : Str) (k : Nat) (sp : SpQ) : Prop where
  ex : ∃ f, Cls K C ∧ Meth K C m f ∧ FnQ P w K mg base k f sp
section
variable {Gn : Array GenState} {X : Cx} {N L S G B : List Str} {σ : L2.St} {H : Hp} {Q : VK} {x : Str} {pos : Pos} {a e : Expr} {es : List Expr} {k j : Nat} {sp : SpQ}
theorem run_fq {f : Addr} {pins : PinL} {s : Shared} {us : List Value} {vs : List V} (F : FnQ X.prog X.w X.K X.mg X.base k f sp) (hr : Room k X.A) (I : IG Gn X pins σ H s) (r : Vals vs us) (h : sp vs H Q) : wpAny (model X.prog X.w) X.A (call (.ref f) us) (EG Gn X pins σ Q) X.xe s := by
  refine wpAny_call (codeAny_mono (F X.A X.stack s H us vs Q hr I.i.env0 r h) fun rr s' ⟨u, er, ce, g⟩ => ?_)
  subst er
  obtain ⟨v, H', I', rv, q⟩ := I.i.after ce
  exact ⟨v, H', ⟨I', g.trans I.g⟩, rv, q⟩
theorem q_call {p : Pos} (c : Nm X N L S G B) (mm : Mb x G) (F : FnQn X.prog X.w X.K X.mg X.base x k sp) (hr : Room j X.A) (hj : k ≤ j) (h : QA Gn X (e :: es) σ H fun vs H1 => sp vs H1 Q)
    (he : starEach (e :: es) X.env = (false, eval e X.env) :: starEach es X.env := by with_unfolding_all rfl) (hpl : (backTo pos (starEach es X.env)).any (·.1) = false := by with_unfolding_all rfl) : QE Gn X (.Call (.Name x p) (e :: es) [] pos) σ H Q := by
  obtain ⟨f, hm, hk, F⟩ := F.ex
  obtain ⟨gl, hd, hn⟩ := c.glo x mm.mem
  refine ⟨fun pins s I => wpAny_Call_Name_kw (ld_glob I.i gl hm ?_ hd)⟩
  exact PySem.W.callWith_K (h₀ := X.base) I.i.ok.mod.kin hk (thn (h.run pos pins s I) fun us s1 ⟨vs, H1, I1, r, q⟩ => ⟨I1.i.kIn, run_fq F (hr.mono hj) I1 r q⟩) he hpl
theorem q_meth {C : Addr} {m : Str} {apos : Pos} {pl : Sem Bool} (F : MtQn X.prog X.w X.K X.mg X.base C m k sp) (hr : Room j X.A) (hj : k ≤ j)
    (h : QE Gn X a σ H fun y H1 => ∃ o dx fs, y = .ref o ∧ H1 o = some (.ins C dx fs) ∧ fs.lookup m = none ∧ QA Gn X (e :: es) σ H1 fun vs H2 => sp (.ref o :: vs) H2 Q)
    (hst : starEach (e :: es) X.env = (false, eval e X.env) :: starEach es X.env := by with_unfolding_all rfl) (hpl : (backTo pos (starEach es X.env)).any (·.1) = false := by with_unfolding_all rfl)
    (ht : eval (.Call (.Attribute a m apos) (e :: es) [] pos) X.env = (do
      let ov ← eval a X.env
      standAt apos.atName
      let (f, first) ← holding [ov] (getMethod ov m pl)
      callWith pos f first (backTo pos (starEach (e :: es) X.env)) (backToKw pos (keywordEach [] X.env))) := by with_unfolding_all rfl) : QE Gn X (.Call (.Attribute a m apos) (e :: es) [] pos) σ H Q := by
  obtain ⟨f, hc, hm, F⟩ := F.ex
  refine ⟨fun pins s I => PySem.W.methodCall_KW (pl := pl) (thn (h.run pins s I) fun u s1 ⟨y, H1, I1, r1, o, dx, fs, ey, ho, hl, q⟩ => ?_) ht⟩
  subst ey
  obtain rfl : u = Value.ref o := r1
  refine getmeth_ok I1.i ho hc hm hl ?_
  exact PySem.W.callWith_K (first := [.ref o]) (h₀ := X.base) I.i.ok.mod.kin hm.kp (thn (q.run pos pins s1 I1) fun us s2 ⟨vs, H2, I2, r, q2⟩ => ⟨I2.i.kIn, run_fq (us := .ref o :: us) (vs := .ref o :: vs) F (hr.mono hj) I2 (.cons rfl r) q2⟩) hst hpl
end
section
variable {P : Program} {w : World} {K : PySem.W.Frag} {mg : Str → Option Value} {base : Heap} {N ps L G B : List Str} {k : Nat} {x qual : Str} {params : Arguments} {body : List Stmt} {sc : Scope} {f : Addr} {fd : FuncData} {sp : SpQ}
/-- THE RULE for a quiet def: ds what lacks behind the given values -/
theorem fnq_of {dvs ws : List V} {ds : List Value} (F : FunD K x qual params body sc dvs [] f fd) (S : scB N ps L G B sc = true) (len : ∀ vs H Q, sp vs H Q → (vs ++ ws).length = ps.length) (hB : Binds K fd ps ds) (hd : Vals ws ds) (hb : ∀ x ∈ B, mg x = none)
    (hbody : ∀ (cd : Value) (A : Around) (outer : List Env) (s : Shared) (H : Hp) (vs : List V) (Q : VK) (Gn : Array GenState), Room k (cx P w K mg base N qual sc f cd A outer s H E0).A → Nm (cx P w K mg base N qual sc f cd A outer s H E0) N L L G B → sp vs H Q →
      QL Gn (cx P w K mg base N qual sc f cd A outer s H E0) body { nx := fun _ H' => Q .non H', rt := Q } (start N (vs ++ ws)) H) : FnQ P w K mg base (k + 1) f sp := by
  obtain ⟨oc, od, dV, kV, doc, pm, an, cdv, ct, osl, rfl, lk, hcd, _, _⟩ := F.ex
  have S' := (scB_ok S).1
  intro A outer s H us vs Q hr e0 r hsp
  have r2 : Vals (vs ++ ws) (us ++ ds) := r.append hd
  have hl := len vs H Q hsp
  have hl2 : (us ++ ds).length = ps.length := by rw [← r2.length]; exact hl
  have inK : K.In s.heap := e0.mod.kin.keeps fun b o e => (e0.bs b o e).1
  have lim : s.heap.NoLimit := e0.mod.nolimit.keeps fun b o e => (e0.bs b o e).1
  have kinds : ∀ y ∈ ps.zip (us ++ ds), sc.names.lookup y.1 = some .local ∨ (sc.names.lookup y.1 = some .cell ∧ ((cellsFrom (s.heap.objs.size + 1) sc.names []).lookup y.1).isSome = true) := fun ⟨n, v⟩ hy => by
    rcases S'.par n (List.of_mem_zip hy).1 with z | z
    · exact .inl z
    · exact .inr ⟨z, PySem.W.cellsFrom_some _ _ _ (.inl z)⟩
  refine codeAny_call_function hr.depth (inK _ _ lk) rfl S'.co S'.gen rfl (PySem.W.codeRec_of inK hcd) (hB s us inK hl2 _ _ _ _ ?_)
  refine wpAny_newFunctionEnv_cells S'.kind kinds fun env he s1 z => ?_
  subst he
  refine ⟨lim.keeps z.toInCall.keep, codeAny_func ?_⟩
  have I := inv_start (CX := L2.CX P w) (E := E0) (mg := mg) (base := base) S' hr.hd e0 hl r2 z
  have g1 : s1.gens = s.gens := by
    obtain ⟨_, _, rfl, _⟩ := z.done
    rfl
  have B := hbody cdv A outer s H vs Q s.gens (hr.deeper _) (nm_of S hb) hsp
  refine wpAny_mono (B.run [] s1 ⟨I, g1⟩) (fun fl s' hs => ?_) fun _ s' hs => ?_
  · cases fl with
    | ret u =>
      obtain ⟨v, σ', H', J, rv, q⟩ := hs
      exact ⟨u, rfl, ⟨v, H', J.i.os, J.i.bare, J.i.base, J.i.hok, rv, q⟩, J.g⟩
    | next =>
      obtain ⟨σ', H', J, q⟩ := hs
      exact ⟨.none, rfl, ⟨.non, H', J.i.os, J.i.bare, J.i.base, J.i.hok, rfl, q⟩, J.g⟩
    | brk => exact hs.elim
    | cont => exact hs.elim
  · have no : ∀ (x : Value) (t : Shared), L2.CX P w outer H s E0 x t → CG outer P w H s Q (.error x) t := fun x t ⟨_, _, _, _, _, _, _, _, _, _, _, _, hE⟩ => hE.elim
    exact wpAny_mono hs (fun _ t z => no _ t z) fun x t z => no x t z
end
end Sv

/-! A generator's first turn, quiet: what else sleeps or is fresh stays as it is. -/
namespace Sv
open PySem PySem.Spec PyProof.Rows L2 GenW
abbrev QR : GhR Unit := fun _ _ t0 r s => r = .ok (.ret .none) ∧ s.gens = t0.gens
abbrev QY : GhY Unit := fun _ _ t0 _ s _ => s.gens = t0.gens
structure QZS (Gn : Array GenState) (X : Cx) (st : Stmt) (σ : L2.St) (H : Hp) (nx : L2.St → Hp → Prop) : Prop where
  run : ∀ (A : Around) (pins : PinL) (t0 : Shared) (c : Code) (fs : List Frame) (K : Flow → Sem PySem.Fin) (J : Value → Sem PySem.Fin) (gd : Bool → Bool) (lv : List Value → List Value) (s : Shared), ZC X A c fs gd → t0.gens = Gn →
    (∀ σ' H' s', IG Gn X pins σ' H' s' → nx σ' H' → Sg (model X.prog X.w) A QR QY 1 () t0 c (K .next) fs s') → IG Gn X pins σ H s → Sg (model X.prog X.w) A QR QY 1 () t0 c ((exec st X.env).wrap K J gd lv) fs s
structure QZ (Gn : Array GenState) (X : Cx) (sts : List Stmt) (σ : L2.St) (H : Hp) (nx : L2.St → Hp → Prop) : Prop where
  run : ∀ (A : Around) (pins : PinL) (t0 : Shared) (c : Code) (fs : List Frame) (K : Flow → Sem PySem.Fin) (J : Value → Sem PySem.Fin) (gd : Bool → Bool) (lv : List Value → List Value) (s : Shared), ZC X A c fs gd → t0.gens = Gn →
    (∀ σ' H' s', IG Gn X pins σ' H' s' → nx σ' H' → Sg (model X.prog X.w) A QR QY 1 () t0 c (K .next) fs s') → IG Gn X pins σ H s → Sg (model X.prog X.w) A QR QY 1 () t0 c ((execs sts X.env).wrap K J gd lv) fs s
section
variable {Gn : Array GenState} {X : Cx} {N L S G B : List Str} {σ : L2.St} {H : Hp} {nx : L2.St → Hp → Prop} {st : Stmt} {sts : List Stmt} {e a b : Expr} {pos yp p : Pos} {y : Str}
theorem qz_nil (q : nx σ H) : QZ Gn X [] σ H nx := ⟨fun A pins t0 c fs K J gd lv s g ht k I => sg_nil (k σ H s I q)⟩
theorem qz_cons (h : QZS Gn X st σ H fun σ' H' => QZ Gn X sts σ' H' nx) : QZ Gn X (st :: sts) σ H nx :=
  ⟨fun A pins t0 c fs K J gd lv s g ht k I => sg_cons (h.run A pins t0 c fs _ J gd lv s g ht (fun σ' H' s' I' q => q.run A pins t0 c fs K J gd lv s' g ht k I') I)⟩
theorem qzs_plain (hx : ∀ e s, ¬ X.xe e s) (h : QS Gn X st { nx := nx, rt := fun _ _ => False } σ H) : QZS Gn X st σ H nx := by
  refine ⟨fun A pins t0 c fs K J gd lv s g ht k I => sg_wrap ?_⟩
  rw [g.over]
  refine wpAny_mono (h.run pins s I) (fun f s' hs => ?_) fun x s' z => (hx x s' z).elim
  cases f with
  | next => obtain ⟨σ', H', I', q⟩ := hs; exact k σ' H' s' I' q
  | ret u => obtain ⟨_, _, _, _, _, q⟩ := hs; exact q.elim
  | brk => exact hs.elim
  | cont => exact hs.elim
theorem qzs_yield (hx : ∀ e s, ¬ X.xe e s) (h : QE Gn X e σ H fun _ _ => True) (hco : X.env.scope.isCoroutine = false) (hi : interactive X.env = false) : QZS Gn X (.Expr (.Yield (some e) yp) pos) σ H nx := by
  refine ⟨fun A pins t0 c fs K J gd lv s g ht k I => ?_⟩
  refine sg_ExprYield (n := 0) g.split g.gd g.guard ?_ hco hi
  rw [g.over]
  refine wpAny_mono (h.run pins s I) (fun v s' hv => ?_) fun x s' z => (hx x s' z).elim
  obtain ⟨_, _, I', _, _⟩ := hv
  exact fun kap _ => I'.g.trans ht.symm
/-- for y in range(a, b) -/
theorem qzs_range {body : List Stmt} {rp cp : Pos} (hx : ∀ e s, ¬ X.xe e s) (c : Nm X N L S G B) (m : Mb "range" B) (my : Mb y S) (ly : X.env.kindOf y = some .local)
    (h : QE Gn X a σ H fun v H1 => QE Gn X b σ H1 fun w H2 => ∃ i j : Int, v = .int i ∧ w = .int j ∧ (-(2 ^ 62) ≤ i ∧ i < 2 ^ 62 ∧ -(2 ^ 62) ≤ j ∧ j < 2 ^ 62) ∧ (j ≤ i → nx σ H2) ∧ (i < j → ∃ σ', Put N σ y (.int i) σ' ∧ QZ Gn X body σ' H2 fun _ _ => False))
    (hs : starEach [a, b] X.env = [(false, eval a X.env), (false, eval b X.env)] := by with_unfolding_all rfl) (hs2 : starEach [b] X.env = [(false, eval b X.env)] := by with_unfolding_all rfl)
    (hf : ∀ x, foldedSetIterable (.Call (.Name "range" rp) [a, b] [] cp) X.env x = pure x := by intro _; with_unfolding_all rfl) : QZS Gn X (.For (.Name y p) (.Call (.Name "range" rp) [a, b] [] cp) body [] pos) σ H nx := by
  refine ⟨fun A pins t0 cc fs K J gd lv s g ht k I => ?_⟩
  have noX : ∀ {α : Type} {t : Sem α} {Q : α → Shared → Prop} {s : Shared}, wpAny (model X.prog X.w) X.A t Q X.xe s → wpAny (model X.prog X.w) X.A t Q (fun _ _ => False) s := fun h => wpAny_mono h (fun _ _ z => z) fun x s' z => (hx x s' z).elim
  obtain ⟨gl, hd, hn⟩ := c.bgl _ m.mem
  refine sg_For ?_ hf
  rw [g.over]
  have args : QA Gn X [a, b] σ H fun vs H2 => ∃ i j : Int, vs = [.int i, .int j] ∧ (-(2 ^ 62) ≤ i ∧ i < 2 ^ 62 ∧ -(2 ^ 62) ≤ j ∧ j < 2 ^ 62) ∧ (j ≤ i → nx σ H2) ∧ (i < j → ∃ σ', Put N σ y (.int i) σ' ∧ QZ Gn X body σ' H2 fun _ _ => False) :=
    qa_cons (h.imp fun v H1 h1 => qa_cons (h1.imp fun w H2 ⟨i, j, ev, ew, z⟩ => qa_nil ⟨i, j, by rw [ev, ew], z⟩) (hs2.trans rfl)) (hs.trans (by rw [hs2]))
  refine Call_ (ld_blt I.i gl (c.blt _ m.mem) boot_range (PyProof.Rows.callWith_type1 (noX (thn (args.run cp pins s I) fun us s1 ⟨vs, H2, I2, r, i, j, ev, ⟨b1, b2, b3, b4⟩, z1, z2⟩ => ?_)) (by rw [hs, hs2]) (by rw [hs2]; rfl)) hn hd)
  subst ev
  obtain ⟨u1, u2, rfl, ⟨t, rfl⟩, ⟨t', rfl⟩⟩ := vals2 r
  refine call_range_2 (wpAny_pyIter_range (IsRange.new ..) (small_one b1 b2 b3 b4) fun q => ?_)
  have g2 := zc_loop (k := backIn X.env K J gd lv) (c' := .forLoop (.Name y p) (.ref (s1.heap.push { cls := .type "range", data := .fields #[.int i t, .int j t', .int 1 s1.toks] }).objs.size) body [] X.env) (l := lv []) (kp := []) (p := q) g rfl rfl
  have I3 : IG Gn X pins σ H2 { s1 with heap := s1.heap.push { cls := .type "range", data := .fields #[.int i t, .int j t', .int 1 s1.toks] }, toks := s1.toks + 1 } := I2.kept fun d o e => Heap.get?_push_of_some _ e
  refine sg_forLoop ?_
  rw [g2.over]
  generalize hh : s1.heap.push { cls := .type "range", data := .fields #[.int i t, .int j t', .int 1 s1.toks] } = h3 at *
  have I4 : IG Gn X pins σ H2 { s1 with heap := h3.push { cls := .type "range_iterator", data := .fields #[rawInt i, rawInt (Builtin.Range.rangeSize i j 1), rawInt 1] }, toks := s1.toks + 1 } := I3.kept fun d o e => Heap.get?_push_of_some _ e
  have st : IsRangeIter (h3.push { cls := .type "range_iterator", data := .fields #[rawInt i, rawInt (Builtin.Range.rangeSize i j 1), rawInt 1] }) h3.objs.size i (Builtin.Range.rangeSize i j 1) 1 := Heap.get?_push_size _ rfl
  have sz : Builtin.Range.rangeSize i j 1 = if i < j then j - i else 0 := rangeSize_one i j
  obtain ⟨f0, f1, f2, f3, f4, f5⟩ := I3.i.fpOk (b := h3.objs.size) (Nat.le_refl _) (I3.i.hok.fresh (Nat.le_refl _))
  by_cases hlt : i < j
  · rw [if_pos hlt] at sz
    obtain ⟨σ', put, body'⟩ := z2 hlt
    refine wpAny_pyNext_range_item st (by omega) fun h' st' sb => ?_
    have I5 : IG Gn X pins σ H2 { s1 with heap := h', toks := s1.toks + 1 + 1 } := ⟨I4.i.turned (fun d o hd' e => (sb.2 d hd').trans e) f0 f1 f3 f4 f5, I4.g⟩
    refine go_of (s := { s1 with heap := h', toks := s1.toks + 1 + 1 }) (n := "range_iterator") st' rfl rfl (by decide) ?_
    refine wpAny_mono (wpAny_assign_Name (store_g (E := fun _ _ => False) c I5 put my ly ⟨_, rfl⟩)) (fun _ s6 I6 => ?_) fun _ _ z => z
    exact body'.run A pins t0 _ _ _ _ id id s6 g2 ht (fun _ _ _ _ z => z.elim) I6
  · rw [if_neg hlt] at sz
    refine wpAny_pyNext_range_end (I4.i.ok.hd c.calm) st (by omega) fun h' eb => ?_
    have I5 : IG Gn X pins σ H2 { s1 with heap := h', toks := s1.toks + 1 } := ⟨I4.i.turned (fun d o hd' e => eb d o hd' e) f0 f1 f3 f4 f5, I4.g⟩
    refine sg_again rfl ?_
    show Sg _ _ _ _ _ _ _ _ ((execs [] X.env).wrap (fun f => .pure (.done f)) .raise id id) _ _
    exact sg_nil (sg_leaf (.ok .next) (k σ H2 _ I5 (z1 (by omega))))
end
section
variable {P : Program} {w : World} {K : PySem.W.Frag} {mg : Str → Option Value} {base : Heap} {N ps L G B : List Str} {qual : Str} {sc : Scope} {f : Addr} {cd : Value} {A : Around} {outer : List Env} {s0 s s1 s2 : Shared} {T : Hp} {La : Addr} {pn : PinL}
/-- the first turn of the generator with this code is quiet -/
def QFst (P : Program) (w : World) (k : Nat) (outer : List Env) (T : Hp) (s0 : Shared) (c : Code) (own : PinL) : Prop :=
  ∀ (A : Around) (s2 : Shared), Room k A → A.frames = some outer → BZ P w T (frs outer) s0 s2 → Pz s0.heap.objs.size s2.heap own → Sg (model P w) A QR QY 1 () s2 c ((model P w).den c) [] s2
def ZMadeQ (P : Program) (w : World) (k : Nat) (outer : List Env) (T : Hp) (s0 s : Shared) (out : Nat → Option V) (u : Value) (s' : Shared) : Prop :=
  ∃ (a : Addr) (g : Nat) (go : Obj) (c : Code) (own : PinL), u = .ref a ∧ GenObj go g ∧ (a, go) ∈ own ∧ s'.gens[g]? = some (.fresh c) ∧ s.gens.size ≤ g ∧ (∀ (i : Nat) x, s.gens[i]? = some x → s'.gens[i]? = some x) ∧ BZ P w T (frs outer) s0 s' ∧ Pz s0.heap.objs.size s'.heap own ∧
    (∀ p ∈ own, s.heap.objs.size ≤ p.1) ∧ (∀ b o, s.heap.get? b = some o → s'.heap.get? b = some o) ∧ s.heap.objs.size ≤ s'.heap.objs.size ∧
    (∀ (M : Nat) (A : Around) (cs : PinL) (s2 : Shared), Room k A → A.frames = some outer → BZ P w T (frs outer) s0 s2 → Pz s0.heap.objs.size s2.heap own → Pz s0.heap.objs.size s2.heap cs → Apz own cs →
      Sg (model P w) A (ZR ⟨P, w, T, frs outer, s0, M, out, a, go⟩) (ZY ⟨P, w, T, frs outer, s0, M, out, a, go⟩) M cs s2 c ((model P w).den c) [] s2) ∧ QFst P w k outer T s0 c own
structure ZFnQ (P : Program) (w : World) (K : PySem.W.Frag) (mg : Str → Option Value) (base : Heap) (k : Nat) (f : Addr) (fd : FuncData) (ps : List Str) (sp : SpZ) : Prop where
  len : ∀ vs T out, sp vs T out → vs.length = ps.length
  run : ∀ (A : Around) (outer : List Env) (s0 s : Shared) (T : Hp) (args : Args) (us : List Value) (vs : List V) (out : Nat → Option V), Room k A → Env0 P w K mg base A outer s0 T → Env0 P w K mg base A outer s T → s0.heap.objs.size ≤ s.heap.objs.size → BZ P w T (frs outer) s0 s → Tiny T →
    BindsTo s fd args (ps.zip us) → Vals vs us → sp vs T out → codeAny (model P w) A (.call (.ref f) args) (fun r s' => match r with | .ok (.ret u) => ZMadeQ P w k outer T s0 s out u s' | _ => False) s
theorem zfnq_by {k : Nat} {x : Str} {params : Arguments} {body : List Stmt} {fd : FuncData} {sp : SpZ}
    (F : FunD K x qual params body sc [] [] f fd) (S : gscB N ps L G B sc = true) (len : ∀ vs T out, sp vs T out → vs.length = ps.length) (hb : ∀ x ∈ B, mg x = none) (hnc : ∀ n, cellsFrom n sc.names [] = [])
    (hbody : ∀ (cd : Value) (A : Around) (outer : List Env) (s0 : Shared) (T : Hp) (La : Addr) (vs : List V) (out : Nat → Option V) (M : Nat) (a : Addr) (go : Obj) (pn : PinL), Room k (zcx P w K mg base N qual sc f cd A outer s0 T La pn).A → Nm (zcx P w K mg base N qual sc f cd A outer s0 T La pn) N L L G B →
      ZOk (zcx P w K mg base N qual sc f cd A outer s0 T La pn) a go → sp vs T out →
      ZWL (zcx P w K mg base N qual sc f cd A outer s0 T La pn) (zpar (zcx P w K mg base N qual sc f cd A outer s0 T La pn) M out a go) body { nx := fun i _ H' => Same T H' ∧ out i = none, rt := fun i v H' => v = .non ∧ Same T H' ∧ out i = none } 0 (start N vs) T)
    (hquiet : ∀ (cd : Value) (A : Around) (outer : List Env) (s0 : Shared) (T : Hp) (La : Addr) (vs : List V) (out : Nat → Option V) (a : Addr) (go : Obj) (pn : PinL) (Gn : Array GenState), Room k (zcx P w K mg base N qual sc f cd A outer s0 T La pn).A → Nm (zcx P w K mg base N qual sc f cd A outer s0 T La pn) N L L G B →
      ZOk (zcx P w K mg base N qual sc f cd A outer s0 T La pn) a go → sp vs T out → QZ Gn (zcx P w K mg base N qual sc f cd A outer s0 T La pn) body (start N vs) T fun _ _ => True) : ZFnQ P w K mg base (k + 1) f fd ps sp := by
  obtain ⟨oc, od, dV, kV, doc, pm, an, cdv, ct, osl, rfl, lk, hcd, _, _⟩ := F.ex
  have SG := (gscB_ok S).1
  refine ⟨len, fun A outer s0 s T args us vs out hr e00 e0 hsz g0 ti hbd r hsp => ?_⟩
  have hl := len _ _ _ hsp
  have KX : K.In s.heap := e0.mod.kin.keeps fun b o e => (e0.bs b o e).1
  have lim : s.heap.NoLimit := e0.mod.nolimit.keeps fun b o e => (e0.bs b o e).1
  have hkind : ∀ y ∈ ps.zip us, sc.names.lookup y.1 = some .local ∨ (sc.names.lookup y.1 = some .cell ∧ ((cellsFrom (s.heap.objs.size + 1) sc.names []).lookup y.1).isSome = true) := fun ⟨m, v⟩ hy => by
    rcases SG.par m (List.of_mem_zip hy).1 with q | q
    · exact .inl q
    · exact .inr ⟨q, PySem.W.cellsFrom_some _ _ _ (.inl q)⟩
  refine codeAny_call_generator hr.depth (KX _ _ lk) rfl SG.co SG.gen rfl (PySem.W.codeRec_of KX hcd) (hbd _ _ _ _ ?_)
  refine wpAny_newFunctionEnv_cells SG.kind hkind fun env he s1 x => ?_
  subst he
  refine ⟨lim.keeps x.toInCall.keep, ?_⟩
  obtain ⟨h1, tk, es1, hk1⟩ := x.done
  have os1 : s1.os = s.os := by rw [es1]
  have gen1 : s1.gens = s.gens := by rw [es1]
  have lt1 : s.heap.objs.size < s1.heap.objs.size := x.toInCall.ns.lt
  have kp1 : ∀ b o, s.heap.get? b = some o → s1.heap.get? b = some o := x.toInCall.keep
  have main : ∀ (go : Obj) (nm qn : Value) (tk2 : Nat), go.cls = .type "generator" → go.data = .fields #[.int s1.gens.size 0, nm, qn] → go.slots = #[] → (∀ h : Heap, (h.push go).get? h.objs.size = some go) →
      ZMadeQ P w (k + 1) outer T s0 s out (.ref s1.heap.objs.size) { s1 with gens := s1.gens.push (.fresh (.func body (envOfC qual sc s.heap.objs.size f cdv))), toks := tk2, heap := s1.heap.push go } := by
    intro go nm qn tk2 hgc hgd0 hgs hgp
    obtain ⟨m0, ⟨oL, es, ep, hoL, hoLd, _⟩⟩ : ∃ m, s1.heap.Ns s.heap.objs.size m := ⟨_, x.toInCall.ns⟩
    have kp2 : ∀ b o, s1.heap.get? b = some o → (s1.heap.push go).get? b = some o := fun b o e => Heap.get?_push_of_some _ e
    have kp3 : ∀ b o, s.heap.get? b = some o → (s1.heap.push go).get? b = some o := fun b o e => kp2 b o (kp1 b o e)
    have hpz : Pz s0.heap.objs.size (s1.heap.push go) [(s.heap.objs.size, oL), (s1.heap.objs.size, go)] := fun p hp => by
      rcases List.mem_cons.mp hp with rfl | hp
      · exact ⟨kp2 _ _ hoL, hsz, fun v z => by rw [hoLd] at z; cases z⟩
      · obtain rfl := List.mem_singleton.mp hp
        exact ⟨hgp _, Nat.le_trans hsz (Nat.le_of_lt lt1), fun v z => by rw [hgd0] at z; cases z⟩
    refine ⟨s1.heap.objs.size, s1.gens.size, go, _, [(s.heap.objs.size, oL), (s1.heap.objs.size, go)], rfl, ⟨hgc, ⟨nm, qn, hgd0⟩, hgs⟩, by simp, Array.getElem?_push_size .., Nat.le_of_eq (by rw [gen1]), fun i y hy => ?_, ⟨os1.trans g0.os, AllBare.push (by rw [gen1]; exact e0.bare) rfl, g0.un.trans (Un.kept kp3), g0.hok.kept kp3⟩, hpz, fun p hp => ?_, kp3, ?_, ?_⟩
    · show (s1.gens.push _)[i]? = some y
      rw [gen1]
      have := (Array.getElem?_eq_some_iff.mp hy).1
      rw [Array.getElem?_push, if_neg (by omega)]
      exact hy
    · rcases List.mem_cons.mp hp with rfl | hp
      · exact Nat.le_refl _
      · obtain rfl := List.mem_singleton.mp hp
        exact Nat.le_of_lt lt1
    · show _ ≤ (s1.heap.push _).objs.size
      rw [Heap.size_push]
      exact Nat.le_succ_of_le (Nat.le_of_lt lt1)
    refine ⟨fun M Aw cs s2 hrw hfr g2 hz2 hzc hap => ?_, fun Aw s2 hrw hfr g2 hz2 => ?_⟩
    · have e0w : Env0 P w K mg base Aw outer s T := ⟨hfr, e0.mod, e0.bs, e0.bsz, e0.funs, e0.frf, e0.hok, e0.bare⟩
      have I1 : Inv (gcxOf P w K mg base N qual sc f cdv Aw outer s T E0 []) [] (start N vs) T s1 := inv_startG SG hrw.hd e0w hl r x
      have hcl : ∀ y c, (envOfC qual sc s.heap.objs.size f cdv).cells.lookup y ≠ some c := fun y c e => by
        have e : (cellsFrom (s.heap.objs.size + 1) sc.names []).lookup y = some c := e
        rw [hnc] at e
        cases e
      have ok2 : (zcx P w K mg base N qual sc f cdv Aw outer s0 T s.heap.objs.size [(s1.heap.objs.size, go)]).Ok :=
        ⟨I1.ok.mod, I1.ok.kind, I1.ok.glob, I1.ok.blt, hsz, I1.ok.inj, I1.ok.has, fun y c _ e => (hcl y c e).elim, I1.ok.hd, I1.ok.frames, .inr ⟨rfl, rfl⟩, fun b z => absurd (show b ∈ ([] : List Addr) from z) (by simp), e00.bs, e00.bsz, fun b _ _ z => absurd (show b ∈ ([] : List Addr) from z) (by simp),
          fun b z => absurd (show b ∈ ([] : List Addr) from z) (by simp), e00.funs, e00.frf⟩
      have k0 : ZOk (zcx P w K mg base N qual sc f cdv Aw outer s0 T s.heap.objs.size [(s1.heap.objs.size, go)]) s1.heap.objs.size go :=
        ⟨fun _ _ z => z, rfl, hcl, List.mem_singleton.mpr rfl, fun p hp => by rw [List.mem_singleton.mp hp]; exact Nat.le_trans hsz (Nat.le_of_lt lt1), e00.hok, ti⟩
      have hL2 := (hz2 _ List.mem_cons_self).1
      have ha2 := (hz2 (s1.heap.objs.size, go) (by simp)).1
      have Z2 : ZI (zcx P w K mg base N qual sc f cdv Aw outer s0 T s.heap.objs.size [(s1.heap.objs.size, go)]) cs [] (start N vs) T s2 := by
        refine ⟨⟨ok2, g2.os, g2.bare, g2.un, ?_, fun y c e => (hcl y c e).elim, I1.free, fun y c e => (hcl y c e).elim, fun p hp => ?_, g2.hok, I1.len⟩, fun q hq => (hzc q hq).2.1, fun p hp q hq => ?_, fun p hp => by cases hp⟩
        · obtain ⟨m, ⟨o, es, ep, ho, rr⟩, hlk⟩ := I1.loc
          have ho : s1.heap.get? s.heap.objs.size = some o := ho
          rw [hoL] at ho
          cases ho
          refine ⟨m, ⟨oL, es, ep, hL2, rr⟩, fun i y v q1 q2 q3 => ?_⟩
          obtain ⟨u, ru, lk⟩ := hlk i y v q1 q2 q3
          refine ⟨u, ru, ?_⟩
          rcases lk with z | ⟨_, c, z, _⟩
          · exact .inl z
          · exact (hcl y c z).elim
        · have hi : ∀ b, s0.heap.objs.size ≤ b → T b = none ∧ b ∉ frs outer := fun b hb => zhigh k0 ok2 hb
          rcases List.mem_append.mp hp with z | z
          · have z : p ∈ [(s1.heap.objs.size, go)] := z
            obtain rfl := List.mem_singleton.mp z
            obtain ⟨y1, y2⟩ := hi s1.heap.objs.size (Nat.le_trans hsz (Nat.le_of_lt lt1))
            exact ⟨ha2, y1, Nat.ne_of_gt lt1, y2, fun v q => by rw [show (s1.heap.objs.size, go).2 = go from rfl, hgd0] at q; cases q⟩
          · rw [List.append_nil] at z
            obtain ⟨c1, c2, c3⟩ := hzc p z
            obtain ⟨y1, y2⟩ := hi p.1 c2
            exact ⟨c1, y1, fun q => hap _ List.mem_cons_self p z q.symm, y2, c3⟩
        · have hp : p ∈ [(s1.heap.objs.size, go)] ++ [] := hp
          rw [List.append_nil] at hp
          obtain rfl := List.mem_singleton.mp hp
          exact hap (s1.heap.objs.size, go) (by simp) q hq
      have body0 := hbody cdv Aw outer s0 T s.heap.objs.size vs out M s1.heap.objs.size go [(s1.heap.objs.size, go)] (hrw.deeper _) (znm_of S hb) k0 hsp
      refine sg_func (body0.run Aw cs [] M s2 _ [] _ _ id id s2 ⟨over_func, rfl, rfl, rfl⟩ (Nat.add_zero _) (fun cs' n i t0 s' fl hn hs => ?_) Z2)
      have fin : ∀ {σ' : L2.St} {H' : Hp}, ZI (zcx P w K mg base N qual sc f cdv Aw outer s0 T s.heap.objs.size [(s1.heap.objs.size, go)]) cs' [] σ' H' s' → Same T H' → out i = none →
          ZR (zpar (zcx P w K mg base N qual sc f cdv Aw outer s0 T s.heap.objs.size [(s1.heap.objs.size, go)]) M out s1.heap.objs.size go) cs' n t0 (.ok (.ret .none)) s' := fun {σ' H'} Z sm ho => by
        have Z' := zdown k0 sm Z.inv
        refine ⟨rfl, ⟨i, hn, ho⟩, zground k0 Z', fun p hp => ?_, (Z'.pin (s1.heap.objs.size, go) (List.mem_append_left _ (List.mem_singleton.mpr rfl))).1⟩
        have z := Z'.pin p (List.mem_append_right _ (List.mem_append_left _ hp))
        exact ⟨z.1, Z.cl p hp, z.2.2.2.2⟩
      cases fl with
      | next =>
        obtain ⟨σ', H', Z, sm, ho⟩ := hs
        exact sg_end (.ok (.ret .none)) (fin Z sm ho)
      | brk => obtain ⟨_, _, _, q⟩ := hs; exact q.elim
      | cont => obtain ⟨_, _, _, q⟩ := hs; exact q.elim
      | ret u =>
        obtain ⟨v, σ', H', Z, rv, ev, sm, ho⟩ := hs
        subst ev
        have eu : u = Value.none := rv
        subst eu
        exact sg_end (.ok (.ret .none)) (fin Z sm ho)
    · have hzc : Pz s0.heap.objs.size s2.heap [] := fun p hp => (nomatch hp)
      have hap : Apz [(s.heap.objs.size, oL), (s1.heap.objs.size, go)] [] := fun p _ q hq => (nomatch hq)
      have e0w : Env0 P w K mg base Aw outer s T := ⟨hfr, e0.mod, e0.bs, e0.bsz, e0.funs, e0.frf, e0.hok, e0.bare⟩
      have I1 : Inv (gcxOf P w K mg base N qual sc f cdv Aw outer s T E0 []) [] (start N vs) T s1 := inv_startG SG hrw.hd e0w hl r x
      have hcl : ∀ y c, (envOfC qual sc s.heap.objs.size f cdv).cells.lookup y ≠ some c := fun y c e => by
        have e : (cellsFrom (s.heap.objs.size + 1) sc.names []).lookup y = some c := e
        rw [hnc] at e
        cases e
      have ok2 : (zcx P w K mg base N qual sc f cdv Aw outer s0 T s.heap.objs.size [(s1.heap.objs.size, go)]).Ok :=
        ⟨I1.ok.mod, I1.ok.kind, I1.ok.glob, I1.ok.blt, hsz, I1.ok.inj, I1.ok.has, fun y c _ e => (hcl y c e).elim, I1.ok.hd, I1.ok.frames, .inr ⟨rfl, rfl⟩, fun b z => absurd (show b ∈ ([] : List Addr) from z) (by simp), e00.bs, e00.bsz, fun b _ _ z => absurd (show b ∈ ([] : List Addr) from z) (by simp),
          fun b z => absurd (show b ∈ ([] : List Addr) from z) (by simp), e00.funs, e00.frf⟩
      have k0 : ZOk (zcx P w K mg base N qual sc f cdv Aw outer s0 T s.heap.objs.size [(s1.heap.objs.size, go)]) s1.heap.objs.size go :=
        ⟨fun _ _ z => z, rfl, hcl, List.mem_singleton.mpr rfl, fun p hp => by rw [List.mem_singleton.mp hp]; exact Nat.le_trans hsz (Nat.le_of_lt lt1), e00.hok, ti⟩
      have hL2 := (hz2 _ List.mem_cons_self).1
      have ha2 := (hz2 (s1.heap.objs.size, go) (by simp)).1
      have Z2 : ZI (zcx P w K mg base N qual sc f cdv Aw outer s0 T s.heap.objs.size [(s1.heap.objs.size, go)]) [] [] (start N vs) T s2 := by
        refine ⟨⟨ok2, g2.os, g2.bare, g2.un, ?_, fun y c e => (hcl y c e).elim, I1.free, fun y c e => (hcl y c e).elim, fun p hp => ?_, g2.hok, I1.len⟩, fun q hq => (hzc q hq).2.1, fun p hp q hq => ?_, fun p hp => by cases hp⟩
        · obtain ⟨m, ⟨o, es, ep, ho, rr⟩, hlk⟩ := I1.loc
          have ho : s1.heap.get? s.heap.objs.size = some o := ho
          rw [hoL] at ho
          cases ho
          refine ⟨m, ⟨oL, es, ep, hL2, rr⟩, fun i y v q1 q2 q3 => ?_⟩
          obtain ⟨u, ru, lk⟩ := hlk i y v q1 q2 q3
          refine ⟨u, ru, ?_⟩
          rcases lk with z | ⟨_, c, z, _⟩
          · exact .inl z
          · exact (hcl y c z).elim
        · have hi : ∀ b, s0.heap.objs.size ≤ b → T b = none ∧ b ∉ frs outer := fun b hb => zhigh k0 ok2 hb
          rcases List.mem_append.mp hp with z | z
          · have z : p ∈ [(s1.heap.objs.size, go)] := z
            obtain rfl := List.mem_singleton.mp z
            obtain ⟨y1, y2⟩ := hi s1.heap.objs.size (Nat.le_trans hsz (Nat.le_of_lt lt1))
            exact ⟨ha2, y1, Nat.ne_of_gt lt1, y2, fun v q => by rw [show (s1.heap.objs.size, go).2 = go from rfl, hgd0] at q; cases q⟩
          · rw [List.append_nil] at z
            obtain ⟨c1, c2, c3⟩ := hzc p z
            obtain ⟨y1, y2⟩ := hi p.1 c2
            exact ⟨c1, y1, fun q => hap _ List.mem_cons_self p z q.symm, y2, c3⟩
        · have hp : p ∈ [(s1.heap.objs.size, go)] ++ [] := hp
          rw [List.append_nil] at hp
          obtain rfl := List.mem_singleton.mp hp
          exact hap (s1.heap.objs.size, go) (by simp) q hq
      have body1 := hquiet cdv Aw outer s0 T s.heap.objs.size vs out s1.heap.objs.size go [(s1.heap.objs.size, go)] s2.gens (hrw.deeper _) (znm_of S hb) k0 hsp
      exact sg_func (body1.run Aw ([] ++ []) s2 _ [] _ _ id id s2 ⟨over_func, rfl, rfl, rfl⟩ rfl (fun σ' H' s' J _ => sg_end (.ok (.ret .none)) ⟨rfl, J.g⟩) ⟨Z2.inv, rfl⟩)
  exact main _ _ _ _ rfl rfl rfl fun h => Heap.get?_push_size _ rfl
end
end Sv

/-! A generator's turn beside other generators. -/
namespace Sv
open PySem PySem.Spec PyProof.Rows L2 GenW
theorem wpAny_fixG {α : Type} {M : Model} {A : Around} {t : Sem α} {Q : α → Shared → Prop} {E : Value → Shared → Prop} {G : Array GenState} {s r : Shared} (htr : Trp G r) (hl : lift G r = s) (h : wpAny M A t Q E r) :
    wpAny M A t (fun a s' => ∃ s1, s' = lift G s1 ∧ Trp G s1 ∧ Q a s1) (fun e s' => ∃ s1, s' = lift G s1 ∧ Trp G s1 ∧ E e s1) s := by
  intro Γ p hΓ
  have z := wp_fix (G := G) M Γ t _ _ p _ htr (h Γ p hΓ)
  rw [hl] at z
  exact z
/-- frames without another generator's -/
def FrG (gs : GenState) : Prop := ∀ k l c p fs cl, gs = GenState.suspended k l c p fs cl → PySem.W.noGen fs = true
/-- all sleepers but the one at g -/
def butG (G : Array GenState) (g : Nat) : Array GenState := G.setIfInBounds g .finished
def trapG (s : Shared) (g : Nat) (gs : GenState) : Shared := { s with gens := (traps s.gens).setIfInBounds g gs }
theorem butG_at {G : Array GenState} {g i : Nat} (h : i ≠ g) : (butG G g)[i]? = G[i]? := Array.getElem?_setIfInBounds_ne (Ne.symm h)
theorem butG_no {G : Array GenState} {g : Nat} : ¬ Slp (butG G g) g := fun ⟨k, l, c, p, fs, cl, e⟩ => by
  have e : (G.setIfInBounds g .finished)[g]? = some (GenState.suspended k l c p fs cl) := e
  rw [Array.getElem?_setIfInBounds, if_pos rfl] at e
  split at e <;> cases e
theorem traps_at {G : Array GenState} {i : Nat} : (traps G)[i]? = (G[i]?).map trapS := Array.getElem?_map ..
theorem trapG_at {s : Shared} {g i : Nat} {gs : GenState} (h : i ≠ g) : (trapG s g gs).gens[i]? = (s.gens[i]?).map trapS := by
  show ((traps s.gens).setIfInBounds g gs)[i]? = _
  rw [Array.getElem?_setIfInBounds_ne (Ne.symm h), traps_at]
theorem trapG_self {s : Shared} {g : Nat} {gs : GenState} (h : s.gens[g]? = some gs) : (trapG s g gs).gens[g]? = some gs := by
  show ((traps s.gens).setIfInBounds g gs)[g]? = _
  have hlt := (Array.getElem?_eq_some_iff.mp h).1
  have hsz : (traps s.gens).size = s.gens.size := by simp [traps]
  rw [Array.getElem?_setIfInBounds, if_pos rfl, if_pos (by omega)]
theorem trp_trapG {s : Shared} {g : Nat} {gs : GenState} (h : s.gens[g]? = some gs) (hf : FrG gs) : Trp (butG s.gens g) (trapG s g gs) := by
  refine ⟨by show (s.gens.setIfInBounds g _).size ≤ ((traps s.gens).setIfInBounds g gs).size; simp [traps], fun i k l c p fs cl e => ?_, fun i k l c p fs cl e => ?_⟩
  · have hi : i ≠ g := fun z => by subst z; exact butG_no ⟨k, l, c, p, fs, cl, e⟩
    rw [butG_at hi] at e
    rw [trapG_at hi, e]; rfl
  · by_cases hi : i = g
    · subst hi
      rw [trapG_self h] at e
      exact .inr (hf _ _ _ _ _ _ (Option.some.inj e))
    · rw [trapG_at hi] at e
      cases q : s.gens[i]? with
      | none => rw [q] at e; cases e
      | some x =>
        rw [q] at e
        cases x with
        | suspended k0 l0 c0 p0 fs0 cl0 => exact .inl ⟨_, _, _, _, _, _, (butG_at hi).trans q⟩
        | fresh _ => cases e
        | running => cases e
        | finished => cases e
theorem lift_trapG {s : Shared} {g : Nat} {gs : GenState} (h : s.gens[g]? = some gs) : lift (butG s.gens g) (trapG s g gs) = s := by
  have : putS (butG s.gens g) (trapG s g gs).gens = s.gens := by
    apply Array.ext_getElem?
    intro i
    rw [putS_get]
    by_cases hi : i = g
    · subst hi
      rw [trapG_self h, h]
      show some (pickS _ i gs) = _
      rw [pickS_no butG_no]
    · rw [trapG_at hi]
      cases q : s.gens[i]? with
      | none => rfl
      | some x =>
        cases x <;> simp [pickS, butG_at hi, q, trapS]
  show ({ s with gens := putS (butG s.gens g) (trapG s g gs).gens } : Shared) = s
  rw [this]
theorem bare_trapG {s : Shared} {g : Nat} {gs : GenState} (h : AllBare s.gens) (hg : s.gens[g]? = some gs) : AllBare (trapG s g gs).gens := fun y hy => by
  obtain ⟨i, hi, e⟩ := Array.mem_iff_getElem.mp hy
  have e2 : (trapG s g gs).gens[i]? = some y := by rw [Array.getElem?_eq_getElem hi, e]
  by_cases hig : i = g
  · subst hig
    rw [trapG_self hg] at e2
    cases e2
    exact h _ (Array.mem_of_getElem? hg)
  · rw [trapG_at hig, ← traps_at] at e2
    exact bare_traps h y (Array.mem_of_getElem? e2)
theorem bare_but {G : Array GenState} {g : Nat} (h : AllBare G) : AllBare (butG G g) := fun y hy => by
  obtain ⟨i, hi, e⟩ := Array.mem_iff_getElem.mp hy
  have e2 : (butG G g)[i]? = some y := by rw [Array.getElem?_eq_getElem hi, e]
  by_cases hig : i = g
  · subst hig
    have e2 : (G.setIfInBounds i .finished)[i]? = some y := e2
    rw [Array.getElem?_setIfInBounds, if_pos rfl] at e2
    split at e2
    · cases e2; rfl
    · cases e2
  · rw [butG_at hig] at e2
    exact h y (Array.mem_of_getElem? e2)
section
variable {P : Program} {w : World} {A : Around} {outer : List Env} {s0 s : Shared} {T : Hp}
theorem BZ.lift {fs : List Addr} {G : Array GenState} {s1 : Shared} (h : BZ P w T fs s0 s1) (hG : AllBare G) : BZ P w T fs s0 (lift G s1) := ⟨h.os, bare_lift hG h.bare, h.un, h.hok⟩
theorem lift_at {G : Array GenState} {s1 : Shared} {g : Nat} {x : GenState} (hn : ¬ Slp G g) (h : s1.gens[g]? = some x) : (lift G s1).gens[g]? = some x := by
  show (putS G s1.gens)[g]? = _
  rw [putS_get, h]
  show some (pickS G g x) = _
  rw [pickS_no hn]
/-- a turn: what else sleeps, sleeps on -/
theorem nextOf_fix {E : Value → Shared → Prop} {out : Nat → Option V} {a : Addr} {g : Nat} {go : Obj} {own cs : PinL} {M i : Nat} {gs : GenState} {Q : Value → Shared → Prop} (hh : A.handled = none) (hl : s.heap.NoLimit) (hroom : A.depth < recursionLimit)
    (z : ZAt P w A.in1 outer T s0 out a g go own M i gs) (hi : i < M) (hg : s.gens[g]? = some gs) (hf : FrG gs) (hb : BZ P w T (frs outer) s0 s) (ho : Pz s0.heap.objs.size s.heap own) (hc : Pz s0.heap.objs.size s.heap cs) (hap : Apz own cs)
    (hQ : ∀ x v s' own' gs', out i = some x → RelV x v → BZ P w T (frs outer) s0 s' → Pz s0.heap.objs.size s'.heap own' → Pz s0.heap.objs.size s'.heap cs → Apz own' cs → s'.gens[g]? = some gs' → FrG gs' → ZAt P w A.in1 outer T s0 out a g go own' M (i + 1) gs' →
      (∀ j, j ≠ g → Slp s.gens j → s'.gens[j]? = s.gens[j]?) → Q v s')
    (hE : ∀ e s', out i = none → BZ P w T (frs outer) s0 s' → Pz s0.heap.objs.size s'.heap cs → (∃ o, s'.heap.get? e = some o ∧ o.cls = .type "StopIteration") → (∀ j, j ≠ g → Slp s.gens j → s'.gens[j]? = s.gens[j]?) → E (.ref e) s') :
    wpAny (model P w) A (Builtin.SmallTypes.nextOf (.ref a)) Q E s := by
  have bG : AllBare (butG s.gens g) := bare_but hb.bare
  have oth : ∀ {s1 : Shared}, Trp (butG s.gens g) s1 → ∀ j, j ≠ g → Slp s.gens j → (lift (butG s.gens g) s1).gens[j]? = s.gens[j]? := fun {s1} t j hj ⟨k, l, c, p, fs, cl, e⟩ => by
    rw [e]
    exact sleeps_on t ((butG_at hj).trans e)
  refine wpAny_mono (wpAny_fixG (trp_trapG hg hf) (lift_trapG hg) (nextOf_gen (s := trapG s g gs)
    (Q := fun v s1 => ∃ x own' gs', out i = some x ∧ RelV x v ∧ BZ P w T (frs outer) s0 s1 ∧ Pz s0.heap.objs.size s1.heap own' ∧ Pz s0.heap.objs.size s1.heap cs ∧ Apz own' cs ∧ s1.gens[g]? = some gs' ∧ ZAt P w A.in1 outer T s0 out a g go own' M (i + 1) gs')
    (E := fun v s1 => ∃ e, v = .ref e ∧ out i = none ∧ BZ P w T (frs outer) s0 s1 ∧ Pz s0.heap.objs.size s1.heap cs ∧ ∃ o, s1.heap.get? e = some o ∧ o.cls = .type "StopIteration")
    hh hl hroom z hi (trapG_self hg) ⟨hb.os, bare_trapG hb.bare hg, hb.un, hb.hok⟩ ho hc hap (fun x v s1 own' gs' h1 h2 h3 h4 h5 h6 h7 h8 => ⟨x, own', gs', h1, h2, h3, h4, h5, h6, h7, h8⟩) fun e s1 h1 h2 h3 h4 => ⟨e, rfl, h1, h2, h3, h4⟩)) (fun v s' hv => ?_) fun v s' hv => ?_
  · obtain ⟨s1, rfl, t, x, own', gs', h1, h2, h3, h4, h5, h6, h7, h8⟩ := hv
    refine hQ x v _ own' gs' h1 h2 (h3.lift bG) h4 h5 h6 (lift_at butG_no h7) (fun k l c p fs cl e => ?_) h8 (oth t)
    subst e
    rcases t.fr g k l c p fs cl h7 with y | y
    · exact (butG_no y).elim
    · exact y
  · obtain ⟨s1, rfl, t, e, rfl, h1, h2, h3, h4⟩ := hv
    exact hE e _ h1 (h2.lift bG) h3 h4 (oth t)
/-- the first turn is quiet -/
theorem nextOf_quiet {a : Addr} {g : Nat} {c : Code} (hgen : s.heap.IsGen a g) (hh : A.handled = none) (hl : s.heap.NoLimit) (hroom : A.depth < recursionLimit) (hg : s.gens[g]? = some (.fresh c))
    (hq : Sg (model P w) A.in1 QR QY 1 () (s.setGen g .running) c ((model P w).den c) [] (s.setGen g .running)) :
    wpAny (model P w) A (Builtin.SmallTypes.nextOf (.ref a)) (fun _ s' => ∀ j, j ≠ g → s'.gens[j]? = s.gens[j]?) (fun _ s' => ∀ j, j ≠ g → s'.gens[j]? = s.gens[j]?) s := by
  have oth : ∀ {t1 : Shared} {y : GenState}, t1.gens = (s.setGen g .running).gens → ∀ j, j ≠ g → (t1.setGen g y).gens[j]? = s.gens[j]? := fun {t1 y} e j hj => by
    show (t1.gens.setIfInBounds g y)[j]? = _
    rw [Array.getElem?_setIfInBounds_ne (Ne.symm hj), e]
    show (s.gens.setIfInBounds g .running)[j]? = _
    rw [Array.getElem?_setIfInBounds_ne (Ne.symm hj)]
  unfold Builtin.SmallTypes.nextOf
  refine wpAny_bind (wpAny_callSpecial?_slot (name := Str.ofString "__next__") hgen.typeIs slot_gen_next (wpAny_call_entry slot_gen_next hgen.typeIs entry_gen_next ?_ (args_gen_next _)))
  show wpAny _ A.in1 (Builtin.Generator.genWake (.ref a) (.send .none)) _ _ s
  unfold Builtin.Generator.genWake
  refine wpAny_bind (wpAny_holding (wpAny_genNumber hgen (wpAny_bind (wpAny_genState hg ?_))))
  refine wpAny_bind (wpAny_roomToWake hl hroom ?_)
  show wpAny _ A.in1 (.resume g (.send .none) [] _) _ _ s
  refine wp_resumeG (n := 0) (a := ()) hg ⟨rfl, hq⟩ (fun x t1 hx => ?_) (fun v t1 gs2 hb2 hsus hy => ?_)
  · obtain ⟨rfl, hx⟩ := hx
    show wpAny _ A.in1 (newExc (.type "StopIteration") [] >>= _) _ _ _
    refine wpAny_bind ?_
    simp only [newExc, newTuple]
    refine wpAny_bind (wpAny_newObj_type ?_ (by size_fits))
    refine wpAny_bind (m := firstArgMember _ _) (wpAny_of_eq (a := Value.none) (by first | rfl | (simp only [firstArgMember]; rfl)) ?_)
    refine wpAny_newObj_type ?_ (by size_fits)
    simp only [raiseNew]
    refine wpAny_bind (wpAny_bind (wpAny_handled ?_))
    first | rw [show A.in1.handled = none from hh] | rw [hh]
    exact wpAny_throw (oth hx)
  · have hy : t1.gens = (s.setGen g .running).gens := hy
    exact wpAny_pure ⟨v, rfl, wpAny_pure (oth hy)⟩
end
end Sv

/-! list(..) of a zip object, at the library's level. -/
namespace Sv
open PySem PySem.Spec PyProof.Rows L2 GenW
abbrev LsO (acc : Array Value) (c : Nat) : Obj := { cls := .type "list", dict := none, data := .seq acc c, slots := #[] }
theorem zip_no_len : typeLookup (.type "zip") "__len__" = pure none := by rw [typeLookup_type, builtinLookup_eq_fast]; kernel_rfl
theorem zip_no_hint : typeLookup (.type "zip") "__length_hint__" = pure none := by rw [typeLookup_type, builtinLookup_eq_fast]; kernel_rfl
section
variable {prog : Program} {w : World} {A : Around} {E : Value → Shared → Prop} {s : Shared} {R : Result → Shared → Prop} {I S TI TO : Addr} {n : Nat} {res : Value} {J : Nat → Array Value → Shared → Prop}
theorem extend_any (hn : n ≤ sizeLine) (size : ∀ i acc s, J i acc s → acc.size = i)
    (item : ∀ i acc s, i < n → J i acc s → wpAny (model prog w) A.in1 (pyNext (.ref I)) (fun r s' => ∃ v c, r = some v ∧ s'.heap.get? S = some (LsO acc c) ∧ ∀ h' c', Heap.SameBut S s'.heap h' → h'.get? S = some (LsO (acc.push v) c') → J (i + 1) (acc.push v) { s' with heap := h' }) (fun _ _ => False) s)
    (done : ∀ acc s, J n acc s → wpAny (model prog w) A.in1 (pyNext (.ref I)) (fun r s' => r = none ∧ R (.ok (.ret res)) s') (fun _ _ => False) s) :
    ∀ (k i : Nat) (acc : Array Value) (s : Shared), n - i = k → i ≤ n → J i acc s → codeAny (model prog w) A (.builtin "list.extend.loop" ⟨[.ref S, .ref I, res], []⟩) R s := by
  intro k
  induction k with
  | zero =>
    intro i acc s hk hi hj
    obtain rfl : i = n := by omega
    apply codeAny_builtin F.entry_extend_loop
    rw [show A.under _ = A.in1 from Around.under_plainId F.plain_extend_loop _]
    show wpAny _ A.in1 (pyNext (.ref I) >>= fun x => _) _ _ s
    refine wpAny_bind (wpAny_mono (done acc s hj) (fun r s' q => ?_) fun _ _ z => z.elim)
    obtain ⟨rfl, q⟩ := q
    exact wpAny_pure q
  | succ k ih =>
    intro i acc s hk hi hj
    have hlt : i < n := by omega
    have hsz := size i acc s hj
    apply codeAny_builtin F.entry_extend_loop
    rw [show A.under _ = A.in1 from Around.under_plainId F.plain_extend_loop _]
    show wpAny _ A.in1 (pyNext (.ref I) >>= fun x => _) _ _ s
    refine wpAny_bind (wpAny_mono (item i acc s hlt hj) (fun r s' q => ?_) fun _ _ z => z.elim)
    obtain ⟨v, c, rfl, hS, q⟩ := q
    show wpAny _ A.in1 (updateSeq S (·.push v) >>= fun x => _) _ _ s'
    refine wpAny_bind (wpAny_updateSeq hS rfl (wpAny_pure ⟨plainId_quiet F.plain_extend_loop _, ih (i + 1) _ _ (by omega) hlt (q _ _ (Heap.SameBut.update ..) (Heap.get?_update_self _ hS rfl))⟩) (by show acc.size ≤ _; omega) (by show (acc.push v).size ≤ _; rw [Array.size_push]; omega))
theorem call_list_zipany {f0 : Value} (hn : n ≤ sizeLine) (hz : IsZip s.heap I TI TO f0) {Q : Value → Shared → Prop} (size : ∀ i acc s, J i acc s → acc.size = i)
    (item : ∀ i acc s', i < n → J i acc s' → wpAny (model prog w) A.in1.in1 (pyNext (.ref I)) (fun r s2 => ∃ v c, r = some v ∧ s2.heap.get? s.heap.objs.size = some (LsO acc c) ∧ ∀ h' c', Heap.SameBut s.heap.objs.size s2.heap h' → h'.get? s.heap.objs.size = some (LsO (acc.push v) c') → J (i + 1) (acc.push v) { s2 with heap := h' }) (fun _ _ => False) s')
    (done : ∀ acc s', J n acc s' → wpAny (model prog w) A.in1.in1 (pyNext (.ref I)) (fun r s2 => r = none ∧ Q (.ref s.heap.objs.size) s2) (fun _ _ => False) s')
    (start : ∀ h' c', (∀ b o, s.heap.get? b = some o → h'.get? b = some o) → h'.get? s.heap.objs.size = some (LsO #[] c') → J 0 #[] { s with heap := h' }) : wpAny (model prog w) A (call (.type "list") [.ref I]) Q E s := by
  have hlt : I < s.heap.objs.size := Heap.lt_size hz
  have hne : s.heap.objs.size ≠ I := Nat.ne_of_gt hlt
  refine callType_codes (Q₁ := fun obj t => obj = .ref s.heap.objs.size ∧ t = { s with heap := s.heap.push { cls := .type "list", data := .seq #[] } }) F.called_list (F.typeCall_list_1 _) F.entry_list_init (code_list_new _ ⟨rfl, rfl⟩) fun obj t ht => ?_
  obtain ⟨rfl, rfl⟩ := ht
  have hS : (s.heap.push { cls := .type "list", data := .seq #[] }).get? s.heap.objs.size = some { cls := .type "list", data := .seq #[] } := Heap.get?_push_size _ rfl
  refine ⟨⟨_, hS, rfl⟩, F.args_list_init_2 _ _, ?_⟩
  have old : ∀ b o, s.heap.get? b = some o → (s.heap.push { cls := .type "list", data := .seq #[] }).get? b = some o := fun b o e => Heap.get?_push_of_some _ e
  show wpAny _ A.in1.in1 (do let xs ← Builtin.List.listItems (.ref s.heap.objs.size); Builtin.List.listUpdate (.ref s.heap.objs.size) (fun _ => #[]); letGo xs.toList.reverse; Builtin.List.listExtendWith (.ref s.heap.objs.size) (.ref I) .none) _ _ _
  refine wpAny_bind ?_
  unfold Builtin.List.listItems
  refine wpAny_bind (wpAny_seqItems hS rfl (wpAny_pure ?_))
  show wpAny _ A.in1.in1 (updateSeq s.heap.objs.size (fun _ => #[]) >>= fun _ => letGo (#[] : Array Value).toList.reverse >>= fun _ => Builtin.List.listExtendWith (.ref s.heap.objs.size) (.ref I) .none) _ _ _
  refine wpAny_bind (wpAny_updateSeq hS rfl ?_)
  have hS2 := Heap.get?_update_self (Obj.mapSeq (fun _ => (#[] : Array Value))) hS rfl
  have old2 : ∀ b o, s.heap.get? b = some o → ((s.heap.push { cls := .type "list", data := .seq #[] }).update s.heap.objs.size (Obj.mapSeq (fun _ => (#[] : Array Value)))).get? b = some o := fun b o e => (Heap.get?_update_other _ _ (fun z => by rw [← z] at e; exact absurd (Heap.lt_size e) (Nat.lt_irrefl _))).trans (old b o e)
  generalize ((s.heap.push { cls := .type "list", data := .seq #[] }).update s.heap.objs.size (Obj.mapSeq (fun _ => (#[] : Array Value)))) = h2 at *
  refine wpAny_bind (wpAny_letGo ?_)
  have hz2 : IsZip h2 I TI TO f0 := old2 _ _ hz
  have ty : (Shared.TypeIs { s with heap := h2 } (.ref I) "zip") := ⟨_, hz2, rfl⟩
  unfold Builtin.List.listExtendWith
  refine wpAny_bind (wpAny_typeOf ty ?_)
  rw [show Builtin.List.listSameRef (.ref s.heap.objs.size) (.ref I) = false by simp [Builtin.List.listSameRef, hne], show (Value.type "zip" == Value.type "list") = false by decide, show (Value.type "zip" == Value.type "tuple") = false by decide]
  simp only [Bool.or_false, Bool.false_eq_true, if_false]
  refine wpAny_bind (wpAny_pyIter_zip hz2 ?_)
  refine wpAny_bind (wpAny_holding ?_)
  unfold Builtin.List.listLengthHint
  refine wpAny_bind (wpAny_specialOf ty zip_no_len ?_)
  show wpAny _ A.in1.in1 (specialOf (Value.ref I) (Str.ofString "__length_hint__") >>= fun x => _) _ _ _
  refine wpAny_bind (wpAny_specialOf ty zip_no_hint (wpAny_pure ?_))
  show wpAny _ A.in1.in1 (rule "list.extend.makes-room" >>= fun _ => Builtin.List.listTouch (.ref s.heap.objs.size) >>= fun _ => again (.builtin "list.extend.loop" ⟨[.ref s.heap.objs.size, .ref I, .none], []⟩)) _ _ _
  refine wpAny_bind (wpAny_rule (wpAny_bind ?_))
  show wpAny _ A.in1.in1 (updateSeq s.heap.objs.size (·.push .none) >>= fun _ => updateSeq s.heap.objs.size (·.pop)) _ _ _
  refine wpAny_bind (wpAny_updateSeq hS2 rfl ?_)
  have hS3 := Heap.get?_update_self (Obj.mapSeq (·.push Value.none)) hS2 rfl
  refine wpAny_updateSeq (hz := by seq_fits) hS3 rfl ?_
  have hS4 := Heap.get?_update_self (Obj.mapSeq (·.pop)) hS3 rfl
  have nS : ∀ {b : Addr} {o : Obj}, s.heap.get? b = some o → s.heap.objs.size ≠ b := fun {b o} e => Nat.ne_of_gt (Heap.lt_size e)
  have j0 := start _ _ (fun b o e => (Heap.get?_update_other _ _ (nS e)).trans ((Heap.get?_update_other _ _ (nS e)).trans (old2 b o e))) hS4
  refine wpAny_pure ⟨plainId_quiet F.plain_extend_loop _, codeAny_mono (extend_any (A := A.in1) (R := fun r t => r = .ok (.ret .none) ∧ Q (.ref s.heap.objs.size) t) hn size item (fun acc t ht => wpAny_mono (done acc t ht) (fun r t2 q => ⟨q.1, rfl, q.2⟩) fun _ _ z => z) n 0 #[] _ rfl (Nat.zero_le _) j0) fun r t q => ?_⟩
  obtain ⟨rfl, q⟩ := q
  exact ⟨rfl, q⟩
end
end Sv

/-! zip of two such generators: its turns. -/
namespace Sv
open PySem PySem.Spec PyProof.Rows L2 GenW
/-- one of the generators: i items are out -/
structure Gn1 (P : Program) (w : World) (A : Around) (outer : List Env) (T : Hp) (sc : Shared) (k : Nat) (out : Nat → Option V) (a : Addr) (g : Nat) (go : Obj) (M i : Nat) (own : PinL) (gs : GenState) (s : Shared) : Prop where
  ow : Pz sc.heap.objs.size s.heap own
  at_ : ZAt P w A outer T sc out a g go own M i gs
  gn : s.gens[g]? = some gs
  fr : FrG gs
  fst : i = 0 → ∃ c, gs = .fresh c ∧ QFst P w k outer T sc c own
/-- zip over both; busy: the tuple that was handed out -/
structure ZS2 (P : Program) (w : World) (A : Around) (outer : List Env) (T : Hp) (sc : Shared) (k : Nat) (out : Nat → Option V) (zz TI TO a1 : Addr) (g1 : Nat) (go1 : Obj) (a2 : Addr) (g2 : Nat) (go2 : Obj) (M i : Nat) (own1 : PinL) (gs1 : GenState) (own2 : PinL) (gs2 : GenState) (busy : Option Addr) (s : Shared) : Prop where
  gr : BZ P w T (frs outer) sc s
  x : Gn1 P w A outer T sc k out a1 g1 go1 M i own1 gs1 s
  y : Gn1 P w A outer T sc k out a2 g2 go2 M i own2 gs2 s
  gne : g1 ≠ g2
  ap12 : Apz own1 own2
  ti : IsPair s.heap TI (.ref a1) (.ref a2)
  to : ∃ x y, IsPair s.heap TO x y
  zp : match busy with
    | none => ZipAt s.heap zz TI TO .none false
    | some t => ∃ f1, ZipAt s.heap zz TI TO (rawInt t) f1
  hi : sc.heap.objs.size ≤ zz ∧ sc.heap.objs.size ≤ TI ∧ sc.heap.objs.size ≤ TO
  ne : zz ≠ TI ∧ zz ≠ TO ∧ TI ≠ TO
  ap1 : ∀ p ∈ own1, p.1 ≠ zz ∧ p.1 ≠ TI ∧ p.1 ≠ TO
  ap2 : ∀ p ∈ own2, p.1 ≠ zz ∧ p.1 ≠ TI ∧ p.1 ≠ TO
section
variable {P : Program} {w : World} {A : Around} {outer : List Env} {T : Hp} {sc s : Shared} {k : Nat} {out : Nat → Option V} {zz TI TO a a1 a2 : Addr} {g g1 g2 : Nat} {go go1 go2 : Obj} {M i : Nat} {own own1 own2 : PinL} {gs gs1 gs2 : GenState} {busy : Option Addr}
theorem Gn1.heap {h' : Heap} {tk : Nat} (G : Gn1 P w A outer T sc k out a g go M i own gs s) (q : ∀ p ∈ own, ∀ o, s.heap.get? p.1 = some o → h'.get? p.1 = some o) : Gn1 P w A outer T sc k out a g go M i own gs { s with heap := h', toks := tk } := ⟨G.ow.at q, G.at_, G.gn, G.fr, G.fst⟩
theorem Apz.symm {ps qs : PinL} (h : Apz ps qs) : Apz qs ps := fun p hp q hq z => h q hq p hp z.symm
theorem Apz.app {ps qs rs : PinL} (h : Apz ps qs) (q : Apz ps rs) : Apz ps (qs ++ rs) := fun p hp x hx => (List.mem_append.mp hx).elim (h p hp x) (q p hp x)
theorem Pz.app {n0 : Nat} {h : Heap} {ps qs : PinL} (x : Pz n0 h ps) (y : Pz n0 h qs) : Pz n0 h (ps ++ qs) := fun p hp => (List.mem_append.mp hp).elim (x p) (y p)
/-- a turn of one, the entry j0 of the other one told -/
theorem gturn {E Q : Value → Shared → Prop} {cs : PinL} (hh : A.handled = none) (hl : s.heap.NoLimit) (hroom : A.depth < recursionLimit) (hk : Room k A.in1) (hfr : A.in1.frames = some outer) (G : Gn1 P w A.in1 outer T sc k out a g go M i own gs s) (gr : BZ P w T (frs outer) sc s) (hi : i < M) (ho : out i ≠ none)
    (j0 : Nat) (hj : j0 ≠ g) (oth : i = 0 ∨ Slp s.gens j0) (hc : Pz sc.heap.objs.size s.heap cs) (hap : Apz own cs)
    (hQ : ∀ x v s' own' gs', out i = some x → RelV x v → BZ P w T (frs outer) sc s' → Gn1 P w A.in1 outer T sc k out a g go M (i + 1) own' gs' s' → Pz sc.heap.objs.size s'.heap cs → Apz own' cs → s'.gens[j0]? = s.gens[j0]? → Q v s') : wpAny (model P w) A (Builtin.SmallTypes.nextOf (.ref a)) Q E s := by
  have one := fun (Q' : Value → Shared → Prop) h => nextOf_fix (E := fun _ _ => False) (Q := Q') (cs := cs) hh hl hroom G.at_ hi G.gn G.fr gr G.ow hc hap h fun e s' z => absurd z ho
  by_cases hs : Slp s.gens j0
  · exact wpAny_mono (one Q fun x v s' own' gs' h1 h2 h3 h4 h5 h6 h7 h8 h9 h10 => hQ x v s' own' gs' h1 h2 h3 ⟨h4, h9, h7, h8, fun z => absurd z (Nat.succ_ne_zero _)⟩ h5 h6 (h10 j0 hj hs)) (fun _ _ z => z) fun _ _ z => z.elim
  · obtain rfl : i = 0 := oth.resolve_right hs
    obtain ⟨c, rfl, q⟩ := G.fst rfl
    have two := nextOf_quiet (P := P) (w := w) (A := A) (s := s) (G.at_.1.is (G.ow _ G.at_.2.1).1) hh hl hroom G.gn (q A.in1 (s.setGen g .running) hk hfr (gr.setGen rfl) G.ow)
    refine wpAny_mono (wpAny_both (one (fun v s' => ∃ x own' gs', out 0 = some x ∧ RelV x v ∧ BZ P w T (frs outer) sc s' ∧ Gn1 P w A.in1 outer T sc k out a g go M 1 own' gs' s' ∧ Pz sc.heap.objs.size s'.heap cs ∧ Apz own' cs) fun x v s' own' gs' h1 h2 h3 h4 h5 h6 h7 h8 h9 h10 => ⟨x, own', gs', h1, h2, h3, ⟨h4, h9, h7, h8, fun z => absurd z (Nat.succ_ne_zero _)⟩, h5, h6⟩) two) (fun v s' z => ?_) fun _ _ z => z.1.elim
    obtain ⟨⟨x, own', gs', h1, h2, h3, h4, h5, h6⟩, o⟩ := z
    exact hQ x v s' own' gs' h1 h2 h3 h4 h5 h6 (o j0 hj)
theorem Gn1.slp (G : Gn1 P w A outer T sc k out a g go M (i + 1) own gs s) : Slp s.gens g := by
  rcases G.at_.2.2.1 with z | ⟨k0, l0, c0, p0, fs0, cl0, e⟩
  · cases z
  · exact ⟨k0, l0, c0, p0, fs0, cl0, by rw [G.gn, e]⟩
/-- both stand as they stood, the table of generators told at g -/
theorem Gn1.over {s' : Shared} (G : Gn1 P w A outer T sc k out a g go M i own gs s) (p : Pz sc.heap.objs.size s'.heap own) (e : s'.gens[g]? = s.gens[g]?) : Gn1 P w A outer T sc k out a g go M i own gs s' := ⟨p, G.at_, e.trans G.gn, G.fr, G.fst⟩
abbrev zipO (x : Value) (f : Bool) (TI TO : Addr) : Obj := { cls := .type "zip", dict := none, data := .fields #[x, .bool f, .bool false, .ref TI, .ref TO], slots := #[] }
abbrev pairO (x y : Value) : Obj := { cls := .type "tuple", data := .seq #[x, y] }
theorem mem3 {q : Addr × Obj} {b1 b2 b3 : Addr} {o1 o2 o3 : Obj} (h : q ∈ [(b1, o1), (b2, o2), (b3, o3)]) : q.1 = b1 ∨ q.1 = b2 ∨ q.1 = b3 := by
  rcases List.mem_cons.mp h with rfl | h
  · exact .inl rfl
  rcases List.mem_cons.mp h with rfl | h
  · exact .inr (.inl rfl)
  rw [List.mem_singleton.mp h]
  exact .inr (.inr rfl)
theorem ap3 {ps : PinL} {o1 o2 o3 : Obj} (h : ∀ p ∈ ps, p.1 ≠ zz ∧ p.1 ≠ TI ∧ p.1 ≠ TO) : Apz ps [(zz, o1), (TO, o2), (TI, o3)] := fun p hp q hq => by
  obtain ⟨d1, d2, d3⟩ := h p hp
  rcases mem3 hq with z | z | z
  · rw [z]; exact d1
  · rw [z]; exact d3
  · rw [z]; exact d2
theorem of_ap3 {ps : PinL} {o1 o2 o3 : Obj} {qs : PinL} (h : Apz ps ([(zz, o1), (TO, o2), (TI, o3)] ++ qs)) : ∀ p ∈ ps, p.1 ≠ zz ∧ p.1 ≠ TI ∧ p.1 ≠ TO := fun p hp =>
  ⟨h p hp (zz, o1) (List.mem_append_left _ List.mem_cons_self), h p hp (TI, o3) (List.mem_append_left _ (List.mem_cons_of_mem _ (List.mem_cons_of_mem _ List.mem_cons_self))), h p hp (TO, o2) (List.mem_append_left _ (List.mem_cons_of_mem _ List.mem_cons_self))⟩
theorem zip2_turn {E : Value → Shared → Prop} {Q : Option Value → Shared → Prop} {cx : PinL} (hh : A.handled = none) (lim : ∀ s, BZ P w T (frs outer) sc s → s.heap.NoLimit) (hroom : A.in1.depth < recursionLimit) (hk : Room k A.in1.in1) (hfr : A.in1.in1.frames = some outer) (h0 : HOk P w T sc.heap)
    (st : ZS2 P w A.in1.in1 outer T sc k out zz TI TO a1 g1 go1 a2 g2 go2 M i own1 gs1 own2 gs2 busy s) (hi : i < M) (ho : out i ≠ none) (hc : Pz sc.heap.objs.size s.heap cx) (hcx : ∀ q ∈ cx, q.1 ≠ zz ∧ q.1 ≠ TI ∧ q.1 ≠ TO) (hc1 : Apz own1 cx) (hc2 : Apz own2 cx) (hb : ∀ t, busy = some t → ∃ o, (t, o) ∈ cx)
    (hQ : ∀ y u v Tn bz own1' gs1' own2' gs2' s', (bz = Tn ∨ busy = some bz) → out i = some y → RelV y u → RelV y v → IsPair s'.heap Tn u v → sc.heap.objs.size ≤ Tn → (∀ q ∈ cx, q.1 < Tn) → (∀ p ∈ own1', p.1 ≠ Tn) → (∀ p ∈ own2', p.1 ≠ Tn) → Tn ≠ zz → Tn ≠ TI → Tn ≠ TO → Pz sc.heap.objs.size s'.heap cx → Apz own1' cx → Apz own2' cx →
      ZS2 P w A.in1.in1 outer T sc k out zz TI TO a1 g1 go1 a2 g2 go2 M (i + 1) own1' gs1' own2' gs2' (some bz) s' → Q (some (.ref Tn)) s') : wpAny (model P w) A (pyNext (.ref zz)) Q E s := by
  obtain ⟨n1, n2, n3⟩ := st.ne
  obtain ⟨m1, m2, m3⟩ := st.hi
  have hT : s.TypeIs (.ref zz) "zip" := by
    have := st.zp
    cases busy with
    | none => exact ⟨_, this, rfl⟩
    | some t => obtain ⟨f1, z⟩ := this; exact ⟨_, z, rfl⟩
  unfold pyNext
  refine wpAny_bind (wpAny_attempt (wpAny_callSpecial?_slot (name := Str.ofString "__next__") hT F.slot_zip_next (wpAny_call_entry F.slot_zip_next hT F.entry_zip_next ?_ (F.args_zip_next_1 _))))
  have cxK : ∀ {h : Heap}, (∀ c o, c ≠ zz → c ≠ TO → s.heap.get? c = some o → h.get? c = some o) → Pz sc.heap.objs.size h cx := fun {h} k p hp => by
    obtain ⟨c1, c2, c3⟩ := hc p hp
    obtain ⟨d1, _, d3⟩ := hcx p hp
    exact ⟨k _ _ d1 d3 c1, c2, c3⟩
  have owK : ∀ {h : Heap} {ps : PinL}, (∀ p ∈ ps, p.1 ≠ zz ∧ p.1 ≠ TI ∧ p.1 ≠ TO) → (∀ c o, c ≠ zz → c ≠ TO → s.heap.get? c = some o → h.get? c = some o) → ∀ p ∈ ps, ∀ o, s.heap.get? p.1 = some o → h.get? p.1 = some o := fun {h ps} ap k p hp o e => k _ _ (ap p hp).1 (ap p hp).2.2 e
  cases busy with
  | none =>
    have hz : ZipAt s.heap zz TI TO .none false := st.zp
    obtain ⟨x0, y0, hTO⟩ := st.to
    refine zip_first hz st.ti hTO n2.symm fun h1 z1 sb1 => ?_
    have k1 : ∀ c o, c ≠ zz → c ≠ TO → s.heap.get? c = some o → h1.get? c = some o := fun c o c1 _ e => (sb1.2 c c1).trans e
    have pTO1 : IsPair h1 TO x0 y0 := (sb1.2 _ n2.symm).trans hTO
    have pTI1 : IsPair h1 TI (.ref a1) (.ref a2) := k1 _ _ n1.symm n3 st.ti
    have gr1 : BZ P w T (frs outer) sc { s with heap := h1 } := st.gr.at h0 fun c o hlt e => k1 c o (addr_ne hlt m1) (addr_ne hlt m3) e
    refine gturn (A := A.in1) (s := { s with heap := h1 }) (cs := [(zz, zipO .ellipsis false TI TO), (TO, pairO x0 y0), (TI, pairO (.ref a1) (.ref a2))] ++ (own2 ++ cx)) hh (lim _ gr1) hroom hk hfr (st.x.heap (tk := s.toks) (owK st.ap1 k1)) gr1 hi ho g2 (Ne.symm st.gne) ?_
      (Pz.app (.cons z1 m1 noCellZip (.cons pTO1 m3 noCellPair (.cons pTI1 m2 noCellPair fun p hp => by cases hp))) (Pz.app ((st.y.heap (tk := s.toks) (owK st.ap2 k1)).ow) (cxK k1))) (Apz.app (ap3 st.ap1) (Apz.app st.ap12 hc1)) fun x u s1 own1' gs1' o1 r1 gr2 G1 p1 q1 ge1 => ?_
    · by_cases hi0 : i = 0
      · exact .inl hi0
      · refine .inr ?_
        rcases st.y.at_.2.2.1 with z | ⟨k0, l0, c0, p0, fs0, cl0, e⟩
        · exact absurd z hi0
        · exact ⟨k0, l0, c0, p0, fs0, cl0, by show s.gens[g2]? = _; rw [st.y.gn, e]⟩
    have zAt : ZipAt s1.heap zz TI TO .ellipsis false := (p1 (zz, _) (List.mem_append_left _ List.mem_cons_self)).1
    have toAt : IsPair s1.heap TO x0 y0 := (p1 (TO, _) (List.mem_append_left _ (List.mem_cons_of_mem _ List.mem_cons_self))).1
    have tiAt : IsPair s1.heap TI (.ref a1) (.ref a2) := (p1 (TI, _) (List.mem_append_left _ (List.mem_cons_of_mem _ (List.mem_cons_of_mem _ List.mem_cons_self)))).1
    have own2At : Pz sc.heap.objs.size s1.heap own2 := fun p hp => p1 p (List.mem_append_right _ (List.mem_append_left _ hp))
    have cxAt : Pz sc.heap.objs.size s1.heap cx := fun p hp => p1 p (List.mem_append_right _ (List.mem_append_right _ hp))
    have a1' := of_ap3 q1
    have ap12' : Apz own1' own2 := fun p hp q hq => q1 p hp q (List.mem_append_right _ (List.mem_append_left _ hq))
    have apc' : Apz own1' cx := fun p hp q hq => q1 p hp q (List.mem_append_right _ (List.mem_append_right _ hq))
    have G2 := st.y.over (s' := s1) own2At ge1
    refine ⟨toAt, fun h3 pTO3 sb3 => ?_⟩
    have k3 : ∀ c o, c ≠ TO → s1.heap.get? c = some o → h3.get? c = some o := fun c o c2 e => (sb3.2 c c2).trans e
    have z3 := k3 _ _ n2 zAt
    have ti3 := k3 _ _ n3 tiAt
    have gr3 : BZ P w T (frs outer) sc { s1 with heap := h3 } := gr2.at h0 fun c o hlt e => k3 c o (addr_ne hlt m3) e
    have c3 : Pz sc.heap.objs.size h3 cx := fun p hp => by
      obtain ⟨d1, d2, d3⟩ := cxAt p hp
      exact ⟨k3 _ _ (hcx p hp).2.2 d1, d2, d3⟩
    refine gturn (A := A.in1) (s := { s1 with heap := h3 }) (cs := [(zz, zipO .ellipsis false TI TO), (TO, pairO u y0), (TI, pairO (.ref a1) (.ref a2))] ++ (own1' ++ cx)) hh (lim _ gr3) hroom hk hfr (G2.heap (tk := s1.toks) fun p hp o e => k3 _ _ (st.ap2 p hp).2.2 e) gr3 hi ho g1 st.gne (.inr G1.slp)
      (Pz.app (.cons z3 m1 noCellZip (.cons pTO3 m3 noCellPair (.cons ti3 m2 noCellPair fun p hp => by cases hp))) (Pz.app ((G1.heap (tk := s1.toks) fun p hp o e => k3 _ _ (a1' p hp).2.2 e).ow) c3)) (Apz.app (ap3 st.ap2) (Apz.app ap12'.symm hc2)) fun x2 v s2 own2' gs2' o2 r2 gr4 G3 p2 q2 ge2 => ?_
    rw [o1] at o2
    cases o2
    have zAt2 : ZipAt s2.heap zz TI TO .ellipsis false := (p2 (zz, _) (List.mem_append_left _ List.mem_cons_self)).1
    have toAt2 : IsPair s2.heap TO u y0 := (p2 (TO, _) (List.mem_append_left _ (List.mem_cons_of_mem _ List.mem_cons_self))).1
    have tiAt2 : IsPair s2.heap TI (.ref a1) (.ref a2) := (p2 (TI, _) (List.mem_append_left _ (List.mem_cons_of_mem _ (List.mem_cons_of_mem _ List.mem_cons_self)))).1
    have own1At : Pz sc.heap.objs.size s2.heap own1' := fun p hp => p2 p (List.mem_append_right _ (List.mem_append_left _ hp))
    have cxAt2 : Pz sc.heap.objs.size s2.heap cx := fun p hp => p2 p (List.mem_append_right _ (List.mem_append_right _ hp))
    have a2' := of_ap3 q2
    have apc2 : Apz own2' cx := fun p hp q hq => q2 p hp q (List.mem_append_right _ (List.mem_append_right _ hq))
    have G4 := G1.over (s' := s2) own1At ge2
    refine ⟨toAt2, zAt2, fun h' z' pTO' pT' sz' k' => wpAny_pure ?_⟩
    have lt : ∀ {c : Addr} {o : Obj}, s2.heap.get? c = some o → c < s2.heap.objs.size := fun e => Heap.lt_size e
    refine hQ x u v s2.heap.objs.size _ own1' gs1' own2' gs2' _ (.inl rfl) o1 r1 r2 pT' (Nat.le_trans m1 (Nat.le_of_lt (lt zAt2))) (fun q hq => lt (cxAt2 q hq).1) (fun p hp => Nat.ne_of_lt (lt (own1At p hp).1)) (fun p hp => Nat.ne_of_lt (lt (G3.ow p hp).1)) (Nat.ne_of_gt (lt zAt2)) (Nat.ne_of_gt (lt tiAt2)) (Nat.ne_of_gt (lt toAt2)) (fun p hp => ?_) apc' apc2
      ⟨gr4.at (tk := s2.toks) h0 fun c o hlt e => k' c o (addr_ne hlt m1) (addr_ne hlt m3) e, G4.heap (tk := s2.toks) fun p hp o e => k' _ o (a1' p hp).1 (a1' p hp).2.2 e, G3.heap (tk := s2.toks) fun p hp o e => k' _ o (a2' p hp).1 (a2' p hp).2.2 e, st.gne, fun p hp q hq => (q2 q hq p (List.mem_append_right _ (List.mem_append_left _ hp))).symm, k' _ _ n1.symm n3 tiAt2, ⟨_, _, pTO'⟩, ⟨false, z'⟩, st.hi, st.ne, a1', a2'⟩
    obtain ⟨d1, d2, d3⟩ := cxAt2 p hp
    exact ⟨k' _ _ (hcx p hp).1 (hcx p hp).2.2 d1, d2, d3⟩
  | some t =>
    obtain ⟨f1, hz⟩ := st.zp
    obtain ⟨x0, y0, hTO⟩ := st.to
    obtain ⟨ot, hot⟩ := hb t rfl
    refine zip_later hz st.ti (hc _ hot).1 fun h1 z1 kk1 sz1 => ?_
    have k1 : ∀ c o, c ≠ zz → c ≠ TO → s.heap.get? c = some o → h1.get? c = some o := fun c o c1 _ e => kk1 c o c1 e
    have pTO1 : IsPair h1 TO x0 y0 := kk1 _ _ n2.symm hTO
    have pTI1 : IsPair h1 TI (.ref a1) (.ref a2) := k1 _ _ n1.symm n3 st.ti
    have gr1 : BZ P w T (frs outer) sc { s with heap := h1 } := st.gr.at h0 fun c o hlt e => k1 c o (addr_ne hlt m1) (addr_ne hlt m3) e
    refine gturn (A := A.in1) (s := { s with heap := h1 }) (cs := [(zz, zipO (rawInt t) true TI TO), (TO, pairO x0 y0), (TI, pairO (.ref a1) (.ref a2))] ++ (own2 ++ cx)) hh (lim _ gr1) hroom hk hfr (st.x.heap (tk := s.toks) (owK st.ap1 k1)) gr1 hi ho g2 (Ne.symm st.gne) ?_
      (Pz.app (.cons z1 m1 noCellZip (.cons pTO1 m3 noCellPair (.cons pTI1 m2 noCellPair fun p hp => by cases hp))) (Pz.app ((st.y.heap (tk := s.toks) (owK st.ap2 k1)).ow) (cxK k1))) (Apz.app (ap3 st.ap1) (Apz.app st.ap12 hc1)) fun x u s1 own1' gs1' o1 r1 gr2 G1 p1 q1 ge1 => ?_
    · by_cases hi0 : i = 0
      · exact .inl hi0
      · refine .inr ?_
        rcases st.y.at_.2.2.1 with z | ⟨k0, l0, c0, p0, fs0, cl0, e⟩
        · exact absurd z hi0
        · exact ⟨k0, l0, c0, p0, fs0, cl0, by show s.gens[g2]? = _; rw [st.y.gn, e]⟩
    have zAt : ZipAt s1.heap zz TI TO (rawInt t) true := (p1 (zz, _) (List.mem_append_left _ List.mem_cons_self)).1
    have toAt : IsPair s1.heap TO x0 y0 := (p1 (TO, _) (List.mem_append_left _ (List.mem_cons_of_mem _ List.mem_cons_self))).1
    have tiAt : IsPair s1.heap TI (.ref a1) (.ref a2) := (p1 (TI, _) (List.mem_append_left _ (List.mem_cons_of_mem _ (List.mem_cons_of_mem _ List.mem_cons_self)))).1
    have own2At : Pz sc.heap.objs.size s1.heap own2 := fun p hp => p1 p (List.mem_append_right _ (List.mem_append_left _ hp))
    have cxAt : Pz sc.heap.objs.size s1.heap cx := fun p hp => p1 p (List.mem_append_right _ (List.mem_append_right _ hp))
    have a1' := of_ap3 q1
    have ap12' : Apz own1' own2 := fun p hp q hq => q1 p hp q (List.mem_append_right _ (List.mem_append_left _ hq))
    have apc' : Apz own1' cx := fun p hp q hq => q1 p hp q (List.mem_append_right _ (List.mem_append_right _ hq))
    have G2 := st.y.over (s' := s1) own2At ge1
    refine gturn (A := A.in1) (s := s1) (cs := [(zz, zipO (rawInt t) true TI TO), (TO, pairO x0 y0), (TI, pairO (.ref a1) (.ref a2))] ++ (own1' ++ cx)) hh (lim _ gr2) hroom hk hfr G2 gr2 hi ho g1 st.gne (.inr G1.slp)
      (Pz.app (.cons zAt m1 noCellZip (.cons toAt m3 noCellPair (.cons tiAt m2 noCellPair fun p hp => by cases hp))) (Pz.app G1.ow cxAt)) (Apz.app (ap3 st.ap2) (Apz.app ap12'.symm hc2)) fun x2 v s2 own2' gs2' o2 r2 gr4 G3 p2 q2 ge2 => ?_
    rw [o1] at o2
    cases o2
    have zAt2 : ZipAt s2.heap zz TI TO (rawInt t) true := (p2 (zz, _) (List.mem_append_left _ List.mem_cons_self)).1
    have toAt2 : IsPair s2.heap TO x0 y0 := (p2 (TO, _) (List.mem_append_left _ (List.mem_cons_of_mem _ List.mem_cons_self))).1
    have tiAt2 : IsPair s2.heap TI (.ref a1) (.ref a2) := (p2 (TI, _) (List.mem_append_left _ (List.mem_cons_of_mem _ (List.mem_cons_of_mem _ List.mem_cons_self)))).1
    have own1At : Pz sc.heap.objs.size s2.heap own1' := fun p hp => p2 p (List.mem_append_right _ (List.mem_append_left _ hp))
    have cxAt2 : Pz sc.heap.objs.size s2.heap cx := fun p hp => p2 p (List.mem_append_right _ (List.mem_append_right _ hp))
    have a2' := of_ap3 q2
    have apc2 : Apz own2' cx := fun p hp q hq => q2 p hp q (List.mem_append_right _ (List.mem_append_right _ hq))
    have G4 := G1.over (s' := s2) own1At ge2
    have lt : ∀ {c : Addr} {o : Obj}, s2.heap.get? c = some o → c < s2.heap.objs.size := fun e => Heap.lt_size e
    have kp : ∀ c o, s2.heap.get? c = some o → (s2.heap.push (pairO u v)).get? c = some o := fun c o e => Heap.get?_push_of_some _ e
    refine wpAny_pure ?_
    exact hQ x u v s2.heap.objs.size t own1' gs1' own2' gs2' _ (.inr rfl) o1 r1 r2 (Heap.get?_push_size _ rfl) (Nat.le_trans m1 (Nat.le_of_lt (lt zAt2))) (fun q hq => lt (cxAt2 q hq).1) (fun p hp => Nat.ne_of_lt (lt (own1At p hp).1)) (fun p hp => Nat.ne_of_lt (lt (G3.ow p hp).1)) (Nat.ne_of_gt (lt zAt2)) (Nat.ne_of_gt (lt tiAt2)) (Nat.ne_of_gt (lt toAt2))
      (fun p hp => let ⟨d1, d2, d3⟩ := cxAt2 p hp; ⟨kp _ _ d1, d2, d3⟩) apc' apc2
      ⟨gr4.at (tk := s2.toks) h0 fun c o _ e => kp c o e, G4.heap (tk := s2.toks) fun p hp o e => kp _ o e, G3.heap (tk := s2.toks) fun p hp o e => kp _ o e, st.gne, fun p hp q hq => (q2 q hq p (List.mem_append_right _ (List.mem_append_left _ hp))).symm, kp _ _ tiAt2, ⟨_, _, kp _ _ toAt2⟩, ⟨true, kp _ _ zAt2⟩, st.hi, st.ne, a1', a2'⟩
/-- the end -/
theorem zip2_done {E : Value → Shared → Prop} {Q : Option Value → Shared → Prop} {cx : PinL} (hh : A.handled = none) (lim : ∀ s, BZ P w T (frs outer) sc s → s.heap.NoLimit) (hroom : A.in1.depth < recursionLimit) (h0 : HOk P w T sc.heap)
    (st : ZS2 P w A.in1.in1 outer T sc k out zz TI TO a1 g1 go1 a2 g2 go2 M i own1 gs1 own2 gs2 busy s) (hi : i < M) (ho : out i = none) (hc : Pz sc.heap.objs.size s.heap cx) (hcx : ∀ q ∈ cx, q.1 ≠ zz ∧ q.1 ≠ TI ∧ q.1 ≠ TO) (hc1 : Apz own1 cx) (hb : ∀ t, busy = some t → ∃ o, (t, o) ∈ cx)
    (hQ : ∀ s', BZ P w T (frs outer) sc s' → Pz sc.heap.objs.size s'.heap cx → Q none s') : wpAny (model P w) A (pyNext (.ref zz)) Q E s := by
  obtain ⟨n1, n2, n3⟩ := st.ne
  obtain ⟨m1, m2, m3⟩ := st.hi
  have hT : s.TypeIs (.ref zz) "zip" := by
    have := st.zp
    cases busy with
    | none => exact ⟨_, this, rfl⟩
    | some t => obtain ⟨f1, z⟩ := this; exact ⟨_, z, rfl⟩
  unfold pyNext
  refine wpAny_bind (wpAny_attempt (wpAny_callSpecial?_slot (name := Str.ofString "__next__") hT F.slot_zip_next (wpAny_call_entry F.slot_zip_next hT F.entry_zip_next ?_ (F.args_zip_next_1 _))))
  have fin : ∀ (t : Shared) (e : Addr), BZ P w T (frs outer) sc t → Pz sc.heap.objs.size t.heap cx → (∃ o, t.heap.get? e = some o ∧ o.cls = .type "StopIteration") →
      wpAny (model P w) A (do if ← isInstance (.ref e) (.type "StopIteration") then pure none else throw (.ref e) : Sem (Option Value)) Q E t := fun t e gr c he => by
    obtain ⟨o, ho, hcl⟩ := he
    exact wpAny_bind (wpAny_isInstance (T := "StopIteration") (b := true) ⟨o, ho, hcl⟩ isSubtype_stop (wpAny_pure (hQ _ gr c)))
  have cxK : ∀ {h : Heap}, (∀ c o, c ≠ zz → s.heap.get? c = some o → h.get? c = some o) → Pz sc.heap.objs.size h cx := fun {h} k p hp => by
    obtain ⟨c1, c2, c3⟩ := hc p hp
    exact ⟨k _ _ (hcx p hp).1 c1, c2, c3⟩
  cases busy with
  | none =>
    have hz : ZipAt s.heap zz TI TO .none false := st.zp
    obtain ⟨x0, y0, hTO⟩ := st.to
    refine zip_first hz st.ti hTO n2.symm fun h1 z1 sb1 => ?_
    have k1 : ∀ c o, c ≠ zz → s.heap.get? c = some o → h1.get? c = some o := fun c o c1 e => (sb1.2 c c1).trans e
    have gr1 : BZ P w T (frs outer) sc { s with heap := h1 } := st.gr.at h0 fun c o hlt e => k1 c o (addr_ne hlt m1) e
    refine nextOf_fix (A := A.in1) (s := { s with heap := h1 }) (cs := [(zz, zipO .ellipsis false TI TO)] ++ cx) hh (lim _ gr1) hroom st.x.at_ hi st.x.gn st.x.fr gr1 (st.x.ow.at fun p hp o e => k1 _ o (st.ap1 p hp).1 e) (Pz.app (.cons z1 m1 noCellZip fun p hp => by cases hp) (cxK k1)) (Apz.app (fun p hp q hq => by rw [List.mem_singleton.mp hq]; exact (st.ap1 p hp).1) hc1) (fun x v s' own' gs' z => by rw [ho] at z; cases z) fun e s' _ gr2 p1 he _ => ?_
    have zAt : ZipAt s'.heap zz TI TO .ellipsis false := (p1 (zz, _) (List.mem_append_left _ List.mem_cons_self)).1
    refine ⟨zAt, fun h2 sb2 => fin _ e (gr2.at (tk := s'.toks) h0 fun c o hlt q => (sb2.2 c (addr_ne hlt m1)).trans q) (fun p hp => ?_) ?_⟩
    · obtain ⟨d1, d2, d3⟩ := p1 p (List.mem_append_right _ hp)
      exact ⟨(sb2.2 _ (hcx p hp).1).trans d1, d2, d3⟩
    · obtain ⟨o, ho', hcl⟩ := he
      have hez : e ≠ zz := fun x => by
        subst x
        rw [zAt] at ho'
        cases ho'
        simp at hcl
      exact ⟨o, (sb2.2 e hez).trans ho', hcl⟩
  | some t =>
    obtain ⟨f1, hz⟩ := st.zp
    obtain ⟨ot, hot⟩ := hb t rfl
    refine zip_later hz st.ti (hc _ hot).1 fun h1 z1 k1 sz1 => ?_
    have gr1 : BZ P w T (frs outer) sc { s with heap := h1 } := st.gr.at h0 fun c o hlt e => k1 c o (addr_ne hlt m1) e
    exact nextOf_fix (A := A.in1) (s := { s with heap := h1 }) (cs := cx) hh (lim _ gr1) hroom st.x.at_ hi st.x.gn st.x.fr gr1 (st.x.ow.at fun p hp o e => k1 _ o (st.ap1 p hp).1 e) (cxK k1) hc1 (fun x v s' own' gs' z => by rw [ho] at z; cases z) fun e s' _ gr2 p1 he _ => fin s' e gr2 p1 he
end
end Sv

/-! list(zip(o.m(i, j), o.m(i, j))) of a generator method. -/
namespace Sv
open PySem PySem.Spec PyProof.Rows L2 GenW
/-- behind generators' turns: what stood stands, new objects are told -/
theorem ends_more {X : Cx} {pins : PinL} {σ : L2.St} {H1 H2 T : Hp} {sc s' : Shared} (I : Inv X pins σ H1 sc) (sm : Same T H1) (ti : Tiny T) (b : BZ X.prog X.w T (frs X.stack) sc s') (sm2 : Same H1 H2)
    (hnew : ∀ c o, H1 c = none → H2 c = some o → sc.heap.objs.size ≤ c) (hok : ∀ c o, H1 c = none → H2 c = some o → ObjOk X.prog X.w H2 s'.heap c o) : Inv X pins σ H2 s' := by
  have frf : ∀ b ∈ frs X.stack, H1 b = none := I.stkFree
  have u := un_up sm b.un
  have hk := hok_up ti sm frf I.hok b.un b.hok
  refine I.call' (ch := []) b.os ⟨u.keep, u.slot, fun c o e n hx => ?_, u.there, fun c xs e => sm2 _ _ e, fun c o x e => sm2 _ _ e, fun c ps e => ⟨#[], by rw [sm2 _ _ e]; simp⟩⟩ (fun c o e => ?_) b.bare fun c z => absurd z (by simp)
  · cases q : H2 c with
    | none => rfl
    | some o2 => exact absurd (hnew c o2 n q) (Nat.not_le.mpr (Heap.lt_size e))
  · cases q : H1 c with
    | none => exact hok c o q e
    | some o2 =>
      have e2 := sm2 _ _ q
      rw [e] at e2
      cases e2
      exact (hk c o q).stay (fun _ _ _ z => z) (fun d z => sm2 _ _ z) fun d xs z => sm2 _ _ z
theorem same_refl' {H : Hp} : Same H H := fun _ _ e => e
theorem ends_same {X : Cx} {pins : PinL} {σ : L2.St} {H1 T : Hp} {sc s' : Shared} (I : Inv X pins σ H1 sc) (sm : Same T H1) (ti : Tiny T) (b : BZ X.prog X.w T (frs X.stack) sc s') : Inv X pins σ H1 s' := ends_more I sm ti b same_refl' (fun c o e1 e2 => by rw [e1] at e2; cases e2) fun c o e1 e2 => by rw [e1] at e2; cases e2
/-! ### zip(generator, generator) -/
abbrev ggH1 (h : Heap) (a b : Addr) : Heap := h.push { cls := .type "tuple", data := .seq #[.ref a, .ref b] }
abbrev ggH2 (h : Heap) (a b : Addr) : Heap := (ggH1 h a b).push { cls := .type "tuple", data := .seq #[.none, .none] }
abbrev ggH3 (h : Heap) (a b : Addr) : Heap := (ggH2 h a b).push { cls := .type "zip", data := .fields #[.none, .bool false, .bool false, .ref h.objs.size, .ref (ggH1 h a b).objs.size] }
theorem meets_zip_gg (a b : Addr) (g g' : Nat) : Meets (Builtin.«zip.__new__» ⟨[.type "zip", .ref a, .ref b], []⟩) (fun _ R s => s.heap.IsGen a g ∧ s.heap.IsGen b g' ∧ R (.ok (.ret (.ref (ggH2 s.heap a b).objs.size))) { s with heap := ggH3 s.heap a b }) :=
  .of_wp fun prog w A R s h => by
    obtain ⟨hp, gs, d, tk, os⟩ := s
    obtain ⟨hl1, hl2, h⟩ := h
    have hsub := sub_zip
    have pA : Heap.IsGen (Shared.heap ⟨hp, gs, d, tk, os⟩) a g := hl1
    have pB : Heap.IsGen (Shared.heap ⟨hp, gs, d, tk, os⟩) b g' := hl2
    wp_walk using wpAny_pyIter_gen pA, wpAny_pyIter_gen pB
    exact ⟨_, rfl, h⟩
theorem call_zip_gg {prog : Program} {w : World} {A : Around} {E : Value → Shared → Prop} {s : Shared} {a b : Addr} {g g' : Nat} {Q : Value → Shared → Prop} (ha : s.heap.IsGen a g) (hb : s.heap.IsGen b g')
    (h : ∀ h', ZipAt h' (s.heap.objs.size + 2) s.heap.objs.size (s.heap.objs.size + 1) .none false → IsPair h' s.heap.objs.size (.ref a) (.ref b) → IsPair h' (s.heap.objs.size + 1) .none .none →
      (∀ c o, s.heap.get? c = some o → h'.get? c = some o) → Q (.ref (s.heap.objs.size + 2)) { s with heap := h' }) : wpAny (model prog w) A (call (.type "zip") [.ref a, .ref b]) Q E s := by
  refine callType_new F.called_zip (by decide) (F.typeCall_zip_2 _ _) (F.newCall_zip_2 _ _) (fun obj => F.args_object_init_3 obj _ _) F.entry_zip_new (meets_zip_gg a b g g') ⟨ha, hb, ?_⟩
  have z1 : (ggH1 s.heap a b).objs.size = s.heap.objs.size + 1 := Heap.size_push ..
  have z2 : (ggH2 s.heap a b).objs.size = s.heap.objs.size + 2 := by rw [Heap.size_push, z1]
  have q3 : (ggH3 s.heap a b).get? (ggH2 s.heap a b).objs.size = some _ := Heap.get?_push_size _ rfl
  have q2 : (ggH3 s.heap a b).get? (ggH1 s.heap a b).objs.size = some _ := Heap.get?_push_of_some _ (Heap.get?_push_size _ rfl)
  have q1 : (ggH3 s.heap a b).get? s.heap.objs.size = some _ := Heap.get?_push_of_some _ (Heap.get?_push_of_some _ (Heap.get?_push_size _ rfl))
  show _ ∧ _
  rw [z1, z2] at q3
  rw [z1] at q2
  rw [z2]
  exact ⟨⟨_, q3, rfl⟩, h _ q3 q1 q2 fun c o e => Heap.get?_push_of_some _ (Heap.get?_push_of_some _ (Heap.get?_push_of_some _ e))⟩
/-- o.m(..), such a generator method of the class at C, its first turn quiet -/
structure ZMtQ (P : Program) (w : World) (K : PySem.W.Frag) (mg : Str → Option Value) (base : Heap) (C : Addr) (m : Str) (k : Nat) (sp : SpZ) : Prop where
  ex : ∃ f fd ps, Cls K C ∧ Meth K C m f ∧ ZFnQ P w K mg base k f fd ps sp ∧ Binds K fd ps []
section
variable {X : Cx} {N L S G B : List Str} {σ : L2.St} {H T : Hp} {pins : PinL} {s s0 : Shared} {k : Nat} {o m : Str} {i j : Int} {oa C dx : Addr} {fs : List (Str × V)} {sp : SpZ} {out : Nat → Option V}
/-- the call: a generator, not begun -/
theorem ev_gen {p1 apos pi pj pos : Pos} {xi xj : Nat} {pl : Sem Bool} (F : ZMtQ X.prog X.w X.K X.mg X.base C m k sp) (c : Nm X N L S G B) (hr : Room k X.A) (I : Inv X pins σ H s) (sm : Same T H) (ti : Tiny T) (ha : At N σ o (.ref oa)) (mo : Mb o L) (hH : H oa = some (.ins C dx fs)) (hl : fs.lookup m = none)
    (e00 : Env0 X.prog X.w X.K X.mg X.base X.A X.stack s0 T) (hsz : s0.heap.objs.size ≤ s.heap.objs.size) (g0 : BZ X.prog X.w T (frs X.stack) s0 s) (hsp : sp [.ref oa, .int i, .int j] T out)
    (hst : starEach [.Constant (.int i) xi pi, .Constant (.int j) xj pj] X.env = (false, eval (.Constant (.int i) xi pi) X.env) :: starEach [.Constant (.int j) xj pj] X.env) (hst2 : starEach [.Constant (.int j) xj pj] X.env = (false, eval (.Constant (.int j) xj pj) X.env) :: starEach [] X.env)
    (hpl : (backTo pos (starEach [.Constant (.int j) xj pj] X.env)).any (·.1) = false)
    (ht : eval (.Call (.Attribute (.Name o p1) m apos) [.Constant (.int i) xi pi, .Constant (.int j) xj pj] [] pos) X.env = (do
      let ov ← eval (.Name o p1) X.env
      standAt apos.atName
      let (f, first) ← holding [ov] (getMethod ov m pl)
      callWith pos f first (backTo pos (starEach [.Constant (.int i) xi pi, .Constant (.int j) xj pj] X.env)) (backToKw pos (keywordEach [] X.env)))) :
    wpAny (model X.prog X.w) X.A (eval (.Call (.Attribute (.Name o p1) m apos) [.Constant (.int i) xi pi, .Constant (.int j) xj pj] [] pos) X.env) (fun u s' => ∃ tk, ZMadeQ X.prog X.w k X.stack T s0 { s with toks := tk } out u s') X.xe s := by
  obtain ⟨f, fd, ps, cl, hm, F, hB⟩ := F.ex
  obtain ⟨ix, h1, h2⟩ := ha.ix
  obtain ⟨hv, hd, hcd⟩ := c.vis o mo.mem
  obtain ⟨mm, hn, hlk⟩ := I.loc
  obtain ⟨u, r, l⟩ := hlk ix o _ (by rw [c.names]; exact h1) h2 hv
  obtain rfl : u = Value.ref oa := r
  have nm : ∀ (Q : Value → Shared → Prop), Q (.ref oa) s → wpAny (model X.prog X.w) X.A (eval (.Name o p1) X.env) Q X.xe s := fun Q q => by
    rcases l with ⟨hk, hm⟩ | ⟨hk | hk, cc, hc, hcell⟩
    · exact wpAny_Name (wpAny_loadName_local I.ok.kind hk hn hm q) hd
    · exact wpAny_Name (wpAny_loadName_cell I.ok.kind hk hc hcell q) hd
    · exact wpAny_Name (wpAny_loadName_free I.ok.kind hk hc hcell q hcd) hd
  refine PySem.W.methodCall_KW (pl := pl) (nm _ ?_) ht
  refine getmeth_ok I hH cl hm hl ?_
  refine PySem.W.callWith_K (first := [.ref oa]) (h₀ := X.base) I.ok.mod.kin hm.kp ?_ hst hpl
  rw [hst, hst2]
  show wpAny _ _ (spliced ((false, eval (.Constant (.int i) xi pi) X.env) :: backTo pos ((false, eval (.Constant (.int j) xj pj) X.env) :: starEach [] X.env))) _ _ s
  refine Calls.spliced_cons (wpAny_Constant_int ?_)
  show wpAny _ _ (spliced ((false, eval (.Constant (.int j) xj pj) X.env) :: backTo pos (starEach [] X.env))) _ _ _
  refine Calls.spliced_cons (wpAny_Constant_int (Calls.spliced_nil ⟨I.kIn, ?_⟩))
  have I2 := I.tok (s.toks + 1 + 1)
  have e1 := I2.env0
  have e0 : Env0 X.prog X.w X.K X.mg X.base X.A X.stack { s with toks := s.toks + 1 + 1 } T := ⟨e1.frames, e1.mod, fun b o e => ⟨(e1.bs b o e).1, sm.free (e1.bs b o e).2⟩, e1.bsz, e1.funs, fun b hb => sm.free (e1.frf b hb), hok_down ti sm e1.hok, e1.bare⟩
  have rv : Vals [V.ref oa, V.int i, V.int j] [.ref oa, .int i s.toks, .int j (s.toks + 1)] := .cons rfl (.cons ⟨_, rfl⟩ (.cons ⟨_, rfl⟩ .nil))
  have hlen : ([Value.ref oa, .int i s.toks, .int j (s.toks + 1)] ++ []).length = ps.length := by rw [List.append_nil, ← rv.length]; exact F.len _ _ _ hsp
  have hbt := hB { s with toks := s.toks + 1 + 1 } _ I2.kIn hlen
  rw [List.append_nil] at hbt
  refine wpAny_call (codeAny_mono (F.run X.A X.stack s0 { s with toks := s.toks + 1 + 1 } T ⟨_, []⟩ _ _ out hr e00 e0 hsz ⟨g0.os, g0.bare, g0.un, g0.hok⟩ ti hbt rv hsp) fun rr s' hq => ?_)
  cases rr with
  | error e => exact hq.elim
  | ok fl =>
    cases fl with
    | ret u => exact ⟨_, hq⟩
    | next => exact hq.elim
    | brk => exact hq.elim
    | cont => exact hq.elim
end
end Sv

/-! The list of pairs, told. -/
namespace Sv
open PySem PySem.Spec PyProof.Rows L2 GenW
/-! ### pairs by their addresses -/
theorem lk_none : ∀ {Ts : List Addr} {ys : List V} {b : Addr}, b ∉ Ts → (Ts.zip ys).lookup b = none
  | [], _, _, _ => rfl
  | _ :: _, [], _, _ => rfl
  | t :: Ts, y :: ys, b, h => by
    have h1 : b ≠ t := fun z => h (by rw [z]; exact List.mem_cons_self)
    have h2 : b ∉ Ts := fun z => h (List.mem_cons_of_mem _ z)
    rw [List.zip_cons_cons, List.lookup_cons]
    rw [show (b == t) = false from beq_eq_false_iff_ne.mpr h1]
    exact lk_none h2
theorem lk_at : ∀ {Ts : List Addr} {ys : List V} (i : Nat), Ts.Nodup → Ts.length = ys.length → (h : i < Ts.length) → (Ts.zip ys).lookup Ts[i] = ys[i]?
  | [], _, i, _, _, h => absurd h (Nat.not_lt_zero _)
  | t :: Ts, [], i, _, e, h => by cases e
  | t :: Ts, y :: ys, 0, _, _, _ => by
    rw [List.zip_cons_cons, List.lookup_cons]
    simp
  | t :: Ts, y :: ys, i + 1, nd, e, h => by
    rw [List.nodup_cons] at nd
    have hlt : i < Ts.length := Nat.lt_of_succ_lt_succ h
    have hm : Ts[i] ∈ Ts := List.getElem_mem hlt
    rw [List.zip_cons_cons, List.lookup_cons]
    rw [show ((t :: Ts)[i + 1] == t) = false from beq_eq_false_iff_ne.mpr fun z => nd.1 (by rw [← z]; exact hm)]
    exact lk_at i nd.2 (by simpa using e) hlt
theorem lk_some : ∀ {Ts : List Addr} {ys : List V} {b : Addr} {y : V}, (Ts.zip ys).lookup b = some y → ∃ i : Nat, Ts[i]? = some b ∧ ys[i]? = some y
  | [], _, _, _, h => by cases h
  | _ :: _, [], _, _, h => by cases h
  | t :: Ts, z :: ys, b, y, h => by
    rw [List.zip_cons_cons, List.lookup_cons] at h
    by_cases e : b = t
    · subst e
      simp at h
      exact ⟨0, rfl, by rw [h]; rfl⟩
    · rw [show (b == t) = false from beq_eq_false_iff_ne.mpr e] at h
      obtain ⟨i, h1, h2⟩ := lk_some h
      exact ⟨i + 1, h1, h2⟩
/-- the pairs at Ts, the list of them at S -/
def pairsH (H : Hp) (S : Addr) (Ts : List Addr) (ys : List V) : Hp := fun b => if b = S then some (.lst (Ts.map V.ref)) else match (Ts.zip ys).lookup b with
  | some y => some (.tup [y, y])
  | none => H b
theorem pairsH_S {H : Hp} {S : Addr} {Ts : List Addr} {ys : List V} : pairsH H S Ts ys S = some (.lst (Ts.map V.ref)) := if_pos rfl
theorem pairsH_T {H : Hp} {S : Addr} {Ts : List Addr} {ys : List V} {i : Nat} {y : V} (nd : Ts.Nodup) (e : Ts.length = ys.length) (hS : S ∉ Ts) (h : i < Ts.length) (hy : ys[i]? = some y) : pairsH H S Ts ys Ts[i] = some (.tup [y, y]) := by
  unfold pairsH
  rw [if_neg fun z => hS (by rw [← z]; exact List.getElem_mem h), lk_at i nd e h, hy]
theorem pairsH_old {H : Hp} {S : Addr} {Ts : List Addr} {ys : List V} {b : Addr} (h1 : b ≠ S) (h2 : b ∉ Ts) : pairsH H S Ts ys b = H b := by
  unfold pairsH
  rw [if_neg h1, lk_none h2]
/-- the list under way: the pairs so far -/
structure LZ (P : Program) (w : World) (A : Around) (outer : List Env) (T : Hp) (sc : Shared) (k : Nat) (out : Nat → Option V) (zz TI TO a1 : Addr) (g1 : Nat) (go1 : Obj) (a2 : Addr) (g2 : Nat) (go2 : Obj) (M : Nat) (S : Addr) (ys : List V) (i : Nat) (acc : Array Value) (s : Shared) : Prop where
  ex : ∃ (own1 : PinL) (gs1 : GenState) (own2 : PinL) (gs2 : GenState) (busy : Option Addr) (ps : PinL) (c : Nat), ZS2 P w A outer T sc k out zz TI TO a1 g1 go1 a2 g2 go2 M i own1 gs1 own2 gs2 busy s ∧ s.heap.get? S = some (LsO acc c) ∧
    acc = (ps.map fun p => Value.ref p.1).toArray ∧ ps.length = i ∧ Pz sc.heap.objs.size s.heap ps ∧ (∀ (t : Nat) p, ps[t]? = some p → ∃ u v y, p.2 = pairO u v ∧ ys[t]? = some y ∧ RelV y u ∧ RelV y v) ∧ (∀ p ∈ ps, p.1 ≠ zz ∧ p.1 ≠ TI ∧ p.1 ≠ TO ∧ p.1 ≠ S) ∧ (ps.map (·.1)).Nodup ∧
    Apz own1 ps ∧ Apz own2 ps ∧ (∀ p ∈ own1, p.1 ≠ S) ∧ (∀ p ∈ own2, p.1 ≠ S) ∧ ∀ t, busy = some t → t ∈ ps.map (·.1)
theorem noCellLs {acc : Array Value} {c : Nat} : ∀ v, (LsO acc c).data ≠ .cell v := fun v e => by cases e
section
variable {P : Program} {w : World} {A : Around} {outer : List Env} {T : Hp} {sc s : Shared} {k : Nat} {out : Nat → Option V} {zz TI TO a1 a2 S : Addr} {g1 g2 : Nat} {go1 go2 : Obj} {M i : Nat} {own1 own2 : PinL} {gs1 gs2 : GenState} {busy : Option Addr} {ys : List V} {acc : Array Value}
/-- only the object at S has changed -/
theorem ZS2.but {h' : Heap} {tk : Nat} (st : ZS2 P w A outer T sc k out zz TI TO a1 g1 go1 a2 g2 go2 M i own1 gs1 own2 gs2 busy s) (h0 : HOk P w T sc.heap) (hS : sc.heap.objs.size ≤ S) (nS : S ≠ zz ∧ S ≠ TI ∧ S ≠ TO) (o1 : ∀ p ∈ own1, p.1 ≠ S) (o2 : ∀ p ∈ own2, p.1 ≠ S) (q : ∀ b o, b ≠ S → s.heap.get? b = some o → h'.get? b = some o) :
    ZS2 P w A outer T sc k out zz TI TO a1 g1 go1 a2 g2 go2 M i own1 gs1 own2 gs2 busy { s with heap := h', toks := tk } := by
  obtain ⟨x, y, hto⟩ := st.to
  refine ⟨st.gr.at h0 fun c o hlt e => q c o (addr_ne hlt hS) e, st.x.heap fun p hp o e => q _ o (o1 p hp) e, st.y.heap fun p hp o e => q _ o (o2 p hp) e, st.gne, st.ap12, q _ _ nS.2.1.symm st.ti, ⟨x, y, q _ _ nS.2.2.symm hto⟩, ?_, st.hi, st.ne, st.ap1, st.ap2⟩
  have := st.zp
  cases busy with
  | none => exact q _ _ nS.1.symm this
  | some t => obtain ⟨f1, z⟩ := this; exact ⟨f1, q _ _ nS.1.symm z⟩
theorem lz_item {E : Value → Shared → Prop} (hh : A.handled = none) (lim : ∀ s, BZ P w T (frs outer) sc s → s.heap.NoLimit) (hroom : A.in1.depth < recursionLimit) (hk : Room k A.in1.in1) (hfr : A.in1.in1.frames = some outer) (h0 : HOk P w T sc.heap) (hS : sc.heap.objs.size ≤ S) (nS : S ≠ zz ∧ S ≠ TI ∧ S ≠ TO)
    (L : LZ P w A.in1.in1 outer T sc k out zz TI TO a1 g1 go1 a2 g2 go2 M S ys i acc s) (hi : i < M) {y : V} (ho : out i = some y) (hy : ys[i]? = some y) :
    wpAny (model P w) A (pyNext (.ref zz)) (fun r s' => ∃ v c, r = some v ∧ s'.heap.get? S = some (LsO acc c) ∧ ∀ h' c', Heap.SameBut S s'.heap h' → h'.get? S = some (LsO (acc.push v) c') → LZ P w A.in1.in1 outer T sc k out zz TI TO a1 g1 go1 a2 g2 go2 M S ys (i + 1) (acc.push v) { s' with heap := h' }) E s := by
  obtain ⟨own1, gs1, own2, gs2, busy, ps, c, st, hSo, hacc, hpl, hpz, hpy, hpn, hnd, hp1, hp2, ho1, ho2, hbz⟩ := L.ex
  refine zip2_turn (cx := (S, LsO acc c) :: ps) hh lim hroom hk hfr h0 st hi (by rw [ho]; exact fun z => nomatch z) (.cons hSo hS noCellLs hpz) (fun q hq => ?_) (.cons ho1 hp1) (.cons ho2 hp2) (fun t e => ?_) fun y' u v Tn bz own1' gs1' own2' gs2' s' hb' hoy ru rv hpair hTn hcx ht1 ht2 n1 n2 n3 hcz ha1 ha2 st' => ?_
  · rcases List.mem_cons.mp hq with rfl | hq
    · exact nS
    · obtain ⟨d1, d2, d3, _⟩ := hpn q hq
      exact ⟨d1, d2, d3⟩
  · obtain ⟨p, hp, e2⟩ := List.mem_map.mp (hbz t e)
    subst e2
    exact ⟨p.2, List.mem_cons_of_mem _ hp⟩
  rw [ho] at hoy
  cases hoy
  have hST : S < Tn := hcx (S, _) List.mem_cons_self
  have hltT : ∀ p ∈ ps, p.1 < Tn := fun p hp => hcx p (List.mem_cons_of_mem _ hp)
  have aS1 : ∀ p ∈ own1', p.1 ≠ S := fun p hp => ha1 p hp (S, _) List.mem_cons_self
  have aS2 : ∀ p ∈ own2', p.1 ≠ S := fun p hp => ha2 p hp (S, _) List.mem_cons_self
  refine ⟨_, c, rfl, (hcz (S, _) List.mem_cons_self).1, fun h' c' sb hS' => ⟨own1', gs1', own2', gs2', some bz, ps ++ [(Tn, pairO u v)], c', st'.but (tk := s'.toks) h0 hS nS aS1 aS2 fun b o hb e => (sb.2 b hb).trans e, hS', ?_, ?_, fun p hp => ?_, fun t p hp => ?_, fun p hp => ?_, ?_, ?_, ?_, aS1, aS2, fun t e => ?_⟩⟩
  · rw [hacc, List.map_append]
    simp
  · rw [List.length_append, hpl]; rfl
  · rcases List.mem_append.mp hp with hp | hp
    · obtain ⟨d1, d2, d3⟩ := hcz p (List.mem_cons_of_mem _ hp)
      exact ⟨(sb.2 _ (hpn p hp).2.2.2).trans d1, d2, d3⟩
    · obtain rfl := List.mem_singleton.mp hp
      exact ⟨(sb.2 _ (Nat.ne_of_gt hST)).trans hpair, hTn, noCellPair⟩
  · by_cases ht : t < ps.length
    · rw [List.getElem?_append_left ht] at hp
      exact hpy t p hp
    · rw [List.getElem?_append_right (by omega)] at hp
      have ht2 : t - ps.length = 0 := by
        have := (List.getElem?_eq_some_iff.mp hp).1
        simp at this
        omega
      rw [ht2] at hp
      cases hp
      exact ⟨u, v, y, rfl, by rw [show t = i by omega]; exact hy, ru, rv⟩
  · rcases List.mem_append.mp hp with hp | hp
    · exact hpn p hp
    · obtain rfl := List.mem_singleton.mp hp
      exact ⟨n1, n2, n3, Nat.ne_of_gt hST⟩
  · rw [List.map_append, List.nodup_append]
    refine ⟨hnd, by simp, fun x hx z hz => ?_⟩
    obtain ⟨p, hp, e⟩ := List.mem_map.mp hx
    have hz : z = Tn := by simpa using hz
    rw [← e, hz]
    exact Nat.ne_of_lt (hltT p hp)
  · exact Apz.app (fun p hp q hq => ha1 p hp q (List.mem_cons_of_mem _ hq)) fun p hp q hq => by rw [List.mem_singleton.mp hq]; exact ht1 p hp
  · exact Apz.app (fun p hp q hq => ha2 p hp q (List.mem_cons_of_mem _ hq)) fun p hp q hq => by rw [List.mem_singleton.mp hq]; exact ht2 p hp
  · cases e
    rw [List.map_append]
    rcases hb' with z | z
    · exact List.mem_append_right _ (by rw [z]; exact List.mem_cons_self)
    · exact List.mem_append_left _ (hbz _ z)
theorem lz_done {E : Value → Shared → Prop} {Q : Option Value → Shared → Prop} (hh : A.handled = none) (lim : ∀ s, BZ P w T (frs outer) sc s → s.heap.NoLimit) (hroom : A.in1.depth < recursionLimit) (h0 : HOk P w T sc.heap) (hS : sc.heap.objs.size ≤ S) (nS : S ≠ zz ∧ S ≠ TI ∧ S ≠ TO)
    (L : LZ P w A.in1.in1 outer T sc k out zz TI TO a1 g1 go1 a2 g2 go2 M S ys i acc s) (hi : i < M) (ho : out i = none) (hys : ys.length = i)
    (hQ : ∀ (Ts : List Addr) (n : Nat) s', BZ P w T (frs outer) sc s' → Ts.Nodup → Ts.length = ys.length → S ∉ Ts → (∀ t ∈ Ts, sc.heap.objs.size ≤ t) → s'.heap.get? S = some (LsO (Ts.map Value.ref).toArray n) → (∀ (t : Nat) b, Ts[t]? = some b → ∃ u v y, IsPair s'.heap b u v ∧ ys[t]? = some y ∧ RelV y u ∧ RelV y v) → Q none s') :
    wpAny (model P w) A (pyNext (.ref zz)) Q E s := by
  obtain ⟨own1, gs1, own2, gs2, busy, ps, c, st, hSo, hacc, hpl, hpz, hpy, hpn, hnd, hp1, hp2, ho1, ho2, hbz⟩ := L.ex
  refine zip2_done (cx := (S, LsO acc c) :: ps) hh lim hroom h0 st hi ho (.cons hSo hS noCellLs hpz) (fun q hq => ?_) (.cons ho1 hp1) (fun t e => ?_) fun s' gr hc => ?_
  · rcases List.mem_cons.mp hq with rfl | hq
    · exact nS
    · obtain ⟨d1, d2, d3, _⟩ := hpn q hq
      exact ⟨d1, d2, d3⟩
  · obtain ⟨p, hp, e2⟩ := List.mem_map.mp (hbz t e)
    subst e2
    exact ⟨p.2, List.mem_cons_of_mem _ hp⟩
  refine hQ (ps.map (·.1)) c s' gr hnd (by rw [List.length_map, hpl, hys]) (fun hm => ?_) (fun t ht => ?_) ?_ fun t b hb => ?_
  · obtain ⟨p, hp, e⟩ := List.mem_map.mp hm
    exact (hpn p hp).2.2.2 e
  · obtain ⟨p, hp, e⟩ := List.mem_map.mp ht
    rw [← e]
    exact (hc p (List.mem_cons_of_mem _ hp)).2.1
  · rw [List.map_map]
    have := (hc (S, LsO acc c) List.mem_cons_self).1
    rw [hacc] at this
    exact this
  · rw [List.getElem?_map] at hb
    cases hp : ps[t]? with
    | none => rw [hp] at hb; cases hb
    | some p =>
      rw [hp] at hb
      cases hb
      obtain ⟨u, v, y, e, r⟩ := hpy t p hp
      have := (hc p (List.mem_cons_of_mem _ (List.mem_of_getElem? hp))).1
      rw [e] at this
      exact ⟨u, v, y, this, r⟩
end
end Sv

/-! list(zip(o.m(i, j), o.m(i, j))): the rule. -/
namespace Sv
open PySem PySem.Spec PyProof.Rows L2 GenW
theorem lk_mem : ∀ {Ts : List Addr} {ys : List V} {b : Addr} {o : V}, (Ts.zip ys).lookup b = some o → b ∈ Ts := fun h => let ⟨i, h1, _⟩ := lk_some h; List.mem_of_getElem? h1
theorem vals_refs2 : ∀ Ts : List Addr, Vals (Ts.map V.ref) (Ts.map Value.ref)
  | [] => .nil
  | _ :: Ts => .cons rfl (vals_refs2 Ts)
theorem pairs_new {H : Hp} {S : Addr} {Ts : List Addr} {ys : List V} {n : Nat} (hH : ∀ c o, H c = some o → c < n) (hS : n ≤ S) (hT : ∀ t ∈ Ts, n ≤ t) : Same H (pairsH H S Ts ys) ∧ ∀ c o, H c = none → pairsH H S Ts ys c = some o → n ≤ c := by
  refine ⟨fun c o e => ?_, fun c o e1 e2 => ?_⟩
  · have hc := hH c o e
    rw [pairsH_old (Nat.ne_of_lt (Nat.lt_of_lt_of_le hc hS)) fun z => absurd (hT c z) (Nat.not_le.mpr hc)]
    exact e
  · by_cases h1 : c = S
    · rw [h1]; exact hS
    · by_cases h2 : c ∈ Ts
      · exact hT c h2
      · rw [pairsH_old h1 h2, e1] at e2
        cases e2
/-- such a generator stands, not begun -/
theorem zmq_gn {P : Program} {w : World} {k : Nat} {outer : List Env} {T : Hp} {s0 s s' : Shared} {out : Nat → Option V} {u : Value} (h : ZMadeQ P w k outer T s0 s out u s') : ∃ (a : Addr) (g : Nat) (go : Obj) (c : Code) (own : PinL), u = .ref a ∧ s'.gens[g]? = some (.fresh c) ∧ s.gens.size ≤ g ∧ BZ P w T (frs outer) s0 s' ∧ Pz s0.heap.objs.size s'.heap own ∧
    (∀ p ∈ own, s.heap.objs.size ≤ p.1) ∧ (∀ b o, s.heap.get? b = some o → s'.heap.get? b = some o) ∧ s.heap.objs.size ≤ s'.heap.objs.size ∧ (∀ (i : Nat) x, s.gens[i]? = some x → s'.gens[i]? = some x) ∧
    (∀ (A : Around) (M : Nat), Room k A → A.frames = some outer → ZAt P w A outer T s0 out a g go own M 0 (.fresh c)) ∧ QFst P w k outer T s0 c own := by
  obtain ⟨a, g, go, c, own, e1, e2, e3, e4, e5, e6, e7, e8, e9, e10, e11, h, hq⟩ := h
  refine ⟨a, g, go, c, own, e1, e4, e5, e7, e8, e9, e10, e11, e6, fun A M hr hf => ⟨e2, e3, .inl rfl, fun cs s2 n hn r1 r2 r3 r4 => ⟨rfl, ?_⟩⟩, hq⟩
  obtain rfl : n = M := hn
  exact h n A cs s2 hr hf r1 r2 r3 r4
section
variable {X : Cx} {σ : L2.St} {H T : Hp} {k j : Nat} {sp : SpZ} {out : Nat → Option V} {Q : VK} {ys : List V} {pins : PinL} {s0 s1 s2 : Shared} {u1 u2 : Value} {tk1 tk2 : Tok}
/-- list(zip(..)) of two that were made -/
theorem zip2_list {E : Value → Shared → Prop} (hr : Room (k + 4) X.A) (hc : X.calm = true) (I : Inv X pins σ H s0) (sm : Same T H) (ti : Tiny T) (hy : ∀ t : Nat, out t = ys[t]?) (hyl : ys.length < 4096)
    (q : ∀ (D : Addr) (Ts : List Addr) (H' : Hp), Same H H' → Ts.length = ys.length → H' D = some (.lst (Ts.map V.ref)) → (∀ (t : Nat) b, Ts[t]? = some b → ∃ y, ys[t]? = some y ∧ H' b = some (.tup [y, y])) → Q (.ref D) H')
    (m1 : ZMadeQ X.prog X.w k X.stack T s0 { s0 with toks := tk1 } out u1 s1) (m2 : ZMadeQ X.prog X.w k X.stack T s0 { s1 with toks := tk2 } out u2 s2) :
    wpAny (model X.prog X.w) X.A (call (.type "zip") [u1, u2]) (fun v s3 => wpAny (model X.prog X.w) X.A (call (.type "list") [v]) (EP X pins σ Q) E s3) E s2 := by
  obtain ⟨a1, g1, go1, c1, own1, rfl, f1, n1, b1, p1, lo1, kp1, sz1, kg1, at1, q1⟩ := zmq_gn m1
  obtain ⟨a2, g2, go2, c2, own2, rfl, f2, n2, b2, p2, lo2, kp2, sz2, kg2, at2, q2⟩ := zmq_gn m2
  have hz : sizeLine = 16777216 := sizeLine_eq
  have gne : g1 ≠ g2 := fun z => by
    have := (Array.getElem?_eq_some_iff.mp f1).1
    have n2 : s1.gens.size ≤ g2 := n2
    omega
  have z1 := at1 X.A.in1.in1.in1.in1 (ys.length + 1) (hr.in1.in1.in1.in1) I.ok.frames
  have z2 := at2 X.A.in1.in1.in1.in1 (ys.length + 1) (hr.in1.in1.in1.in1) I.ok.frames
  have p1' : Pz s0.heap.objs.size s2.heap own1 := p1.at fun p hp o e => kp2 _ _ e
  have isg1 : s2.heap.IsGen a1 g1 := z1.1.is (p1' _ z1.2.1).1
  have isg2 : s2.heap.IsGen a2 g2 := z2.1.is (p2 _ z2.2.1).1
  have gr2 : BZ X.prog X.w T (frs X.stack) s0 s2 := b2
  have szs : s0.heap.objs.size ≤ s2.heap.objs.size := Nat.le_trans sz1 sz2
  have h0 : HOk X.prog X.w T s0.heap := hok_down ti sm I.hok
  have lim : ∀ s, BZ X.prog X.w T (frs X.stack) s0 s → s.heap.NoLimit := fun s b => I.ok.mod.nolimit.keeps fun c o e => b.un.keep c o (I.bs c o e).1 (sm.free (I.bs c o e).2) (fun z => by
    have := (I.stack.mem z).1
    rw [e] at this
    cases this) (by simp)
  have lt : ∀ {c : Addr} {o : Obj}, s2.heap.get? c = some o → c < s2.heap.objs.size := fun e => Heap.lt_size e
  have ap12 : Apz own1 own2 := fun p hp x hx z => by
    have e1 : p.1 < s1.heap.objs.size := Heap.lt_size (p1 p hp).1
    have e2 : s1.heap.objs.size ≤ x.1 := lo2 x hx
    rw [z] at e1
    exact absurd e1 (Nat.not_lt.mpr e2)
  refine call_zip_gg isg1 isg2 fun h' pz pTI pTO k' => ?_
  have gr3 : BZ X.prog X.w T (frs X.stack) s0 { s2 with heap := h' } := gr2.heap (tk := s2.toks) k'
  have szh : s2.heap.objs.size + 2 < h'.objs.size := Heap.lt_size pz
  generalize hS : h'.objs.size = S at szh
  have eS : (Shared.heap { s2 with heap := h' }).objs.size = S := hS
  have ltb : ∀ (d : Nat), d ≤ 2 → ∀ {ps : PinL}, Pz s0.heap.objs.size s2.heap ps → ∀ p ∈ ps, p.1 ≠ s2.heap.objs.size + d := fun d hd {ps} hp p h => Nat.ne_of_lt (Nat.lt_of_lt_of_le (lt (hp p h).1) (Nat.le_add_right _ _))
  have ltS : ∀ {ps : PinL}, Pz s0.heap.objs.size s2.heap ps → ∀ p ∈ ps, p.1 ≠ S := fun {ps} hp p h => by
    exact Nat.ne_of_lt (Nat.lt_trans (lt (hp p h).1) (Nat.lt_of_le_of_lt (Nat.le_add_right _ _) szh))
  have nS : S ≠ s2.heap.objs.size + 2 ∧ S ≠ s2.heap.objs.size ∧ S ≠ s2.heap.objs.size + 1 := ⟨Nat.ne_of_gt szh, Nat.ne_of_gt (Nat.lt_of_le_of_lt (Nat.le_add_right _ _) szh), Nat.ne_of_gt (Nat.lt_trans (Nat.lt_succ_self _) szh)⟩
  have sS : s0.heap.objs.size ≤ S := Nat.le_trans szs (Nat.le_of_lt (Nat.lt_of_le_of_lt (Nat.le_add_right _ 2) szh))
  have hdl : X.A.in1.in1.handled = none := I.ok.hd hc
  refine call_list_zipany (n := ys.length) (f0 := .none) (I := s2.heap.objs.size + 2) (TI := s2.heap.objs.size) (TO := s2.heap.objs.size + 1) (J := fun i acc s => LZ X.prog X.w X.A.in1.in1.in1.in1 X.stack T s0 k out (s2.heap.objs.size + 2) s2.heap.objs.size (s2.heap.objs.size + 1) a1 g1 go1 a2 g2 go2 (ys.length + 1) S ys i acc s)
    (by omega) pz (fun i acc s L => ?_) (fun i acc s' hi L => ?_) (fun acc s' L => ?_) fun h4 c4 k4 hD4 => ?_
  · obtain ⟨_, _, _, _, _, ps, _, _, _, hacc, hpl, _⟩ := L.ex
    rw [hacc]
    simp [hpl]
  · obtain ⟨y, hyi⟩ : ∃ y, ys[i]? = some y := ⟨ys[i], List.getElem?_eq_getElem hi⟩
    rw [eS]
    exact lz_item hdl lim hr.in1.in1.in1.depth hr.in1.in1.in1.in1 I.ok.frames h0 sS nS L (by omega) ((hy i).trans hyi) hyi
  · rw [eS]
    refine lz_done hdl lim hr.in1.in1.in1.depth h0 sS nS L (by omega) ((hy _).trans (List.getElem?_eq_none (Nat.le_refl _))) rfl fun Ts n s5 g5 nd hTl hST hTlo hSo hTs => ⟨rfl, .ref S, pairsH H S Ts ys, ?_, rfl, ?_⟩
    · have hnew := pairs_new (ys := ys) (fun c o e => (I.hok c o e).lt) sS hTlo
      refine ends_more I sm ti g5 hnew.1 hnew.2 fun c o e1 e2 => ?_
      by_cases hcS : c = S
      · subst hcS
        rw [pairsH_S] at e2
        cases e2
        exact ⟨by rw [List.length_map]; omega, _, n, vals_refs2 Ts, hSo⟩
      · unfold pairsH at e2
        rw [if_neg hcS] at e2
        cases hlk : (Ts.zip ys).lookup c with
        | none => rw [hlk] at e2; rw [e1] at e2; cases e2
        | some y =>
          rw [hlk] at e2
          cases e2
          obtain ⟨i, hi1, hi2⟩ := lk_some hlk
          obtain ⟨u, v, y', hp, hy', ru, rv⟩ := hTs i c hi1
          rw [hi2] at hy'
          cases hy'
          exact ⟨by show 2 ≤ sizeLine; omega, [u, v], .cons ru (.cons rv .nil), _, hp, rfl, _, rfl⟩
    · have hnew := pairs_new (ys := ys) (fun c o e => (I.hok c o e).lt) sS hTlo
      refine q S Ts _ hnew.1 hTl pairsH_S fun t b hb => ?_
      obtain ⟨ht, e⟩ := List.getElem?_eq_some_iff.mp hb
      obtain ⟨y, hyt⟩ : ∃ y, ys[t]? = some y := ⟨ys[t]'(by omega), List.getElem?_eq_getElem _⟩
      exact ⟨y, hyt, by rw [← e]; exact pairsH_T nd hTl hST ht hyt⟩
  · rw [eS] at hD4
    have kk : ∀ b o, s2.heap.get? b = some o → h4.get? b = some o := fun b o e => k4 _ _ (k' _ _ e)
    refine ⟨⟨own1, .fresh c1, own2, .fresh c2, none, [], c4, ?_, hD4, rfl, rfl, (fun p hp => by cases hp), (fun t p hp => by cases hp), (fun p hp => by cases hp), List.nodup_nil, (fun p _ q hq => by cases hq), (fun p _ q hq => by cases hq), ltS p1', ltS p2, fun t e => by cases e⟩⟩
    exact ⟨gr3.heap (tk := s2.toks) k4, ⟨p1'.at fun p hp o e => kk _ _ e, z1, kg2 _ _ f1, (fun k l c p fs cl e => by cases e), fun _ => ⟨c1, rfl, q1⟩⟩, ⟨p2.at fun p hp o e => kk _ _ e, z2, f2, (fun k l c p fs cl e => by cases e), fun _ => ⟨c2, rfl, q2⟩⟩, gne, ap12, k4 _ _ pTI, ⟨_, _, k4 _ _ pTO⟩, k4 _ _ pz,
      ⟨Nat.le_trans szs (Nat.le_add_right _ _), szs, Nat.le_trans szs (Nat.le_add_right _ _)⟩, ⟨(by omega : s2.heap.objs.size + 2 ≠ s2.heap.objs.size), (by omega : s2.heap.objs.size + 2 ≠ s2.heap.objs.size + 1), (by omega : s2.heap.objs.size ≠ s2.heap.objs.size + 1)⟩, fun p hp => ⟨ltb 2 (by omega) p1' p hp, ltb 0 (by omega) p1' p hp, ltb 1 (by omega) p1' p hp⟩, fun p hp => ⟨ltb 2 (by omega) p2 p hp, ltb 0 (by omega) p2 p hp, ltb 1 (by omega) p2 p hp⟩⟩
end
section
variable {X : Cx} {N L S G B : List Str} {σ : L2.St} {H T : Hp} {k j : Nat} {o m : Str} {i1 i2 : Int} {oa C dx : Addr} {fs : List (Str × V)} {sp : SpZ} {out : Nat → Option V} {Q : VK} {ys : List V}
theorem x_listZ2 {p1 apos1 pi1 pj1 pos1 p2 apos2 pi2 pj2 pos2 pz posz lp pos : Pos} {xi1 xj1 xi2 xj2 : Nat} {pln1 pln2 : Sem Bool} (F : ZMtQ X.prog X.w X.K X.mg X.base C m k sp) (c : Nm X N L S G B) (mz : Mb "zip" B) (ml : Mb "list" B) (hr : Room j X.A) (hj : k + 4 ≤ j) (ha : At N σ o (.ref oa)) (mo : Mb o L)
    (hH : H oa = some (.ins C dx fs)) (hl : fs.lookup m = none) (sm : Same T H) (ti : Tiny T) (hsp : sp [.ref oa, .int i1, .int i2] T out) (hy : ∀ t : Nat, out t = ys[t]?) (hyl : ys.length < 4096)
    (q : ∀ (D : Addr) (Ts : List Addr) (H' : Hp), Same H H' → Ts.length = ys.length → H' D = some (.lst (Ts.map V.ref)) → (∀ (t : Nat) b, Ts[t]? = some b → ∃ y, ys[t]? = some y ∧ H' b = some (.tup [y, y])) → Q (.ref D) H')
    (hst1 : starEach [.Constant (.int i1) xi1 pi1, .Constant (.int i2) xj1 pj1] X.env = (false, eval (.Constant (.int i1) xi1 pi1) X.env) :: starEach [.Constant (.int i2) xj1 pj1] X.env := by with_unfolding_all rfl) (hst2 : starEach [.Constant (.int i2) xj1 pj1] X.env = (false, eval (.Constant (.int i2) xj1 pj1) X.env) :: starEach [] X.env := by with_unfolding_all rfl)
    (hpl1 : (backTo pos1 (starEach [.Constant (.int i2) xj1 pj1] X.env)).any (·.1) = false := by with_unfolding_all rfl)
    (ht1 : eval (.Call (.Attribute (.Name o p1) m apos1) [.Constant (.int i1) xi1 pi1, .Constant (.int i2) xj1 pj1] [] pos1) X.env = (do
      let ov ← eval (.Name o p1) X.env
      standAt apos1.atName
      let (f, first) ← holding [ov] (getMethod ov m pln1)
      callWith pos1 f first (backTo pos1 (starEach [.Constant (.int i1) xi1 pi1, .Constant (.int i2) xj1 pj1] X.env)) (backToKw pos1 (keywordEach [] X.env))) := by with_unfolding_all rfl)
    (hst3 : starEach [.Constant (.int i1) xi2 pi2, .Constant (.int i2) xj2 pj2] X.env = (false, eval (.Constant (.int i1) xi2 pi2) X.env) :: starEach [.Constant (.int i2) xj2 pj2] X.env := by with_unfolding_all rfl) (hst4 : starEach [.Constant (.int i2) xj2 pj2] X.env = (false, eval (.Constant (.int i2) xj2 pj2) X.env) :: starEach [] X.env := by with_unfolding_all rfl)
    (hpl2 : (backTo pos2 (starEach [.Constant (.int i2) xj2 pj2] X.env)).any (·.1) = false := by with_unfolding_all rfl)
    (ht2 : eval (.Call (.Attribute (.Name o p2) m apos2) [.Constant (.int i1) xi2 pi2, .Constant (.int i2) xj2 pj2] [] pos2) X.env = (do
      let ov ← eval (.Name o p2) X.env
      standAt apos2.atName
      let (f, first) ← holding [ov] (getMethod ov m pln2)
      callWith pos2 f first (backTo pos2 (starEach [.Constant (.int i1) xi2 pi2, .Constant (.int i2) xj2 pj2] X.env)) (backToKw pos2 (keywordEach [] X.env))) := by with_unfolding_all rfl)
    (hs1 : starEach [.Call (.Attribute (.Name o p1) m apos1) [.Constant (.int i1) xi1 pi1, .Constant (.int i2) xj1 pj1] [] pos1, .Call (.Attribute (.Name o p2) m apos2) [.Constant (.int i1) xi2 pi2, .Constant (.int i2) xj2 pj2] [] pos2] X.env = (false, eval (.Call (.Attribute (.Name o p1) m apos1) [.Constant (.int i1) xi1 pi1, .Constant (.int i2) xj1 pj1] [] pos1) X.env) :: starEach [.Call (.Attribute (.Name o p2) m apos2) [.Constant (.int i1) xi2 pi2, .Constant (.int i2) xj2 pj2] [] pos2] X.env := by with_unfolding_all rfl)
    (hs2 : starEach [.Call (.Attribute (.Name o p2) m apos2) [.Constant (.int i1) xi2 pi2, .Constant (.int i2) xj2 pj2] [] pos2] X.env = (false, eval (.Call (.Attribute (.Name o p2) m apos2) [.Constant (.int i1) xi2 pi2, .Constant (.int i2) xj2 pj2] [] pos2) X.env) :: starEach [] X.env := by with_unfolding_all rfl)
    (hs3 : starEach [.Call (.Name "zip" pz) [.Call (.Attribute (.Name o p1) m apos1) [.Constant (.int i1) xi1 pi1, .Constant (.int i2) xj1 pj1] [] pos1, .Call (.Attribute (.Name o p2) m apos2) [.Constant (.int i1) xi2 pi2, .Constant (.int i2) xj2 pj2] [] pos2] [] posz] X.env =
      (false, eval (.Call (.Name "zip" pz) [.Call (.Attribute (.Name o p1) m apos1) [.Constant (.int i1) xi1 pi1, .Constant (.int i2) xj1 pj1] [] pos1, .Call (.Attribute (.Name o p2) m apos2) [.Constant (.int i1) xi2 pi2, .Constant (.int i2) xj2 pj2] [] pos2] [] posz) X.env) :: starEach [] X.env := by with_unfolding_all rfl) :
    WE X (.Call (.Name "list" lp) [.Call (.Name "zip" pz) [.Call (.Attribute (.Name o p1) m apos1) [.Constant (.int i1) xi1 pi1, .Constant (.int i2) xj1 pj1] [] pos1, .Call (.Attribute (.Name o p2) m apos2) [.Constant (.int i1) xi2 pi2, .Constant (.int i2) xj2 pj2] [] pos2] [] posz] [] pos) σ H Q := by
  refine ⟨fun pins s I => ?_⟩
  have hr4 : Room (k + 4) X.A := hr.mono hj
  have hrk : Room k X.A := hr.mono (by omega)
  refine wpAny_Call_Name_kw (ld_blt I (c.bgl _ ml.mem).1 (c.blt _ ml.mem) PyProof.Rows.boot_list ?_ (by decide) (by decide))
  refine PyProof.Rows.callWith_type1 ?_ hs3 (by with_unfolding_all rfl)
  rw [hs3]
  show wpAny _ _ (spliced ((false, eval (.Call (.Name "zip" pz) _ [] posz) X.env) :: backTo pos (starEach [] X.env))) _ _ s
  refine Calls.spliced_cons ?_
  refine wpAny_Call_Name_kw (ld_blt I (c.bgl _ mz.mem).1 (c.blt _ mz.mem) PyProof.Rows.boot_zip ?_ (by decide) (by decide))
  refine PyProof.Rows.callWith_type1 ?_ hs1 (by rw [hs2]; rfl)
  rw [hs1, hs2]
  show wpAny _ _ (spliced ((false, eval (.Call (.Attribute (.Name o p1) m apos1) [.Constant (.int i1) xi1 pi1, .Constant (.int i2) xj1 pj1] [] pos1) X.env) :: backTo posz ((false, eval (.Call (.Attribute (.Name o p2) m apos2) [.Constant (.int i1) xi2 pi2, .Constant (.int i2) xj2 pj2] [] pos2) X.env) :: starEach [] X.env))) _ _ s
  have e1 := I.env0
  have e0 : Env0 X.prog X.w X.K X.mg X.base X.A X.stack s T := ⟨e1.frames, e1.mod, fun b o e => ⟨(e1.bs b o e).1, sm.free (e1.bs b o e).2⟩, e1.bsz, e1.funs, fun b hb => sm.free (e1.frf b hb), hok_down ti sm e1.hok, e1.bare⟩
  refine Calls.spliced_cons (thn (ev_gen (s0 := s) F c hrk I sm ti ha mo hH hl e0 (Nat.le_refl _) ⟨rfl, I.bare, Un.refl, e0.hok⟩ hsp hst1 hst2 hpl1 ht1) fun u1 s1 ⟨tk1, m1⟩ => ?_)
  obtain ⟨_, _, _, _, _, _, _, _, b1, _, _, _, sz1, _⟩ := zmq_gn m1
  have I1 : Inv X pins σ H s1 := ends_same I sm ti b1
  show wpAny _ _ (spliced ((false, eval (.Call (.Attribute (.Name o p2) m apos2) [.Constant (.int i1) xi2 pi2, .Constant (.int i2) xj2 pj2] [] pos2) X.env) :: backTo posz (starEach [] X.env))) _ _ s1
  refine Calls.spliced_cons (thn (ev_gen (s0 := s) F c hrk I1 sm ti ha mo hH hl e0 sz1 b1 hsp hst3 hst4 hpl2 ht2) fun u2 s2 ⟨tk2, m2⟩ => ?_)
  refine Calls.spliced_nil ?_
  refine wpAny_mono (zip2_list (E := X.xe) hr4 c.calm I sm ti hy hyl q m1 m2) (fun v s3 h3 => ?_) fun _ _ z => z
  exact Calls.spliced_nil h3
end
end Sv

/-! list(o.m(..)) whose generator may raise; list(zip([], o.m(..))): a generator that is never begun. -/
namespace Sv
open PySem PySem.Spec PyProof.Rows L2 GenW
theorem passC {X : Cx} {W : L2.WX} (tk : Takes X W) (σ : L2.St) (C : Value) : PassesAt (L2.CX X.prog X.w) X σ (fun cls d H => cls = C ∧ W cls d σ H) := fun pins H s e s' I c => tk e s' (XE.of_call I (fun _ _ _ h => h.2) c)
section
variable {X : Cx} {N L S G B : List Str} {o e e1 : Expr} {es : List Expr} {m : Str} {C : Addr} {k j : Nat} {sp : L2.SpG} {σ : L2.St} {H : Hp} {Q : VK} {p apos pos' pos pz posz : Pos} {pl : Sem Bool} {E : XK}
theorem x_listMA (c : Nm X N L S G B) (mm : Mb "list" B) (F : GMt X.prog X.w X.K X.mg X.base C m k sp) (hr : Room j X.A) (hj : k + 3 ≤ j) (hx : PassesAt (L2.CX X.prog X.w) X σ E) (hns : NoStop X.K E)
    (h : WE X o σ H fun x H1 => ∃ a dx fs, x = .ref a ∧ H1 a = some (.ins C dx fs) ∧ fs.lookup m = none ∧ WA X (e :: es) σ H1 fun vs H2 => sp (.ref a :: vs) H2 (fun out H3 => ∀ q, H3 q = none → Q (.ref q) (upd H3 q (.lst out))) E)
    (hst : starEach (e :: es) X.env = (false, eval e X.env) :: starEach es X.env := by with_unfolding_all rfl) (hpl : (backTo pos' (starEach es X.env)).any (·.1) = false := by with_unfolding_all rfl)
    (ht : eval (.Call (.Attribute o m apos) (e :: es) [] pos') X.env = (do
      let ov ← eval o X.env
      standAt apos.atName
      let (f, first) ← holding [ov] (getMethod ov m pl)
      callWith pos' f first (backTo pos' (starEach (e :: es) X.env)) (backToKw pos' (keywordEach [] X.env))) := by with_unfolding_all rfl)
    (he : starEach [.Call (.Attribute o m apos) (e :: es) [] pos'] X.env = (false, eval (.Call (.Attribute o m apos) (e :: es) [] pos') X.env) :: starEach [] X.env := by with_unfolding_all rfl) :
    WE X (.Call (.Name "list" p) [.Call (.Attribute o m apos) (e :: es) [] pos'] [] pos) σ H Q := by
  obtain ⟨f, fd, ps, cl, hm, F, hB⟩ := F.ex
  have h0 := pgen_meth (E := E) pe_w cl hm F (hr.mono (by omega)) hB .nil pa_w hst hpl ht
  refine ⟨fun pins s I => ?_⟩
  refine wpAny_Call_Name_kw (ld_blt I (c.bgl _ mm.mem).1 (c.blt _ mm.mem) bt_list ?_ (by decide) (by decide))
  refine PyProof.Rows.callWith_type1 ?_ he rfl
  rw [he]
  show wpAny _ _ (spliced ((false, eval (.Call (.Attribute o m apos) (e :: es) [] pos') X.env) :: backTo pos (starEach [] X.env))) _ _ s
  refine Calls.spliced_cons (thn (h0.run pins s σ H (fun out H3 => ∀ q, H3 q = none → Q (.ref q) (upd H3 q (.lst out))) I ?_) fun u s1 ⟨H1, sc, ex, I1, hex, hG⟩ => ?_)
  · refine WE.imp h fun x H1 ⟨a, dx, fs, ex, ha, hl, q⟩ => ⟨a, dx, fs, ex, ha, hl, WA.imp q fun vs H2 q2 => ?_⟩
    rw [List.append_nil, ex]
    exact q2
  refine Calls.spliced_nil ?_
  have hsz : sc.heap.objs.size ≤ s1.heap.objs.size := by
    obtain ⟨a, g, c, _, h1, h2, _⟩ := hG
    exact Nat.le_trans h1 (Nat.le_of_lt h2)
  refine call_list_new (hr.mono hj) I1.ok.frames hG (fun S s' acc c H' ys q0 q1 q2 hl q3 q4 q5 q6 q7 q8 => ?_) fun e s' g hc => ?_
  · exact ⟨.ref S, upd H' S (.lst ys), I1.drained (Nat.le_trans hsz q0) hl q1 q2 hex q3 q4 q5 q6 q7, rfl, q8 S q7⟩
  · have kin : X.K.In s'.heap := by
      obtain ⟨a, B, H', cls, d, _, fl, _, ub, _⟩ := id hc
      refine I1.ok.mod.kin.keeps fun b o eb => fl.1 b o (ub.keep b o (I1.bs b o eb).1 (I1.bs b o eb).2 fun hm => ?_)
      rcases List.mem_cons.mp (I1.stkSub b hm) with z | z
      · have h1 := Heap.lt_size eb
        have h2 := Nat.le_trans I1.ok.bsz I1.ok.above
        rw [z] at h1
        exact absurd (Nat.lt_of_lt_of_le h1 h2) (Nat.lt_irrefl _)
      · exact I1.ok.nofr eb z
    refine ⟨notStop_of hns kin hc, hx pins H1 sc e _ I1 ?_⟩
    obtain ⟨a, B, H', cls, d, z1, fl, z2, ub, z3, z4, z5, z6⟩ := hc
    exact ⟨a, B, H', cls, d, z1, fl, z2, ub, z3, z4, allBare_setGen z5 rfl, z6⟩
end
/-! ### a generator that is never begun -/
section
variable {prog : Program} {w : World} {A : Around} {s : Shared} {zz TI TO i1 i2 l : Addr} {x0 y0 : Value}
theorem zip0_end {E : Value → Shared → Prop} {Q : Option Value → Shared → Prop} (hh : A.handled = none) (hz : ZipAt s.heap zz TI TO .none false) (pTI : IsPair s.heap TI (.ref i1) (.ref i2)) (pTO : IsPair s.heap TO x0 y0) (n2 : TO ≠ zz) (n3 : i1 ≠ zz) (nl : l ≠ zz)
    (hit : s.heap.IsListIter i1 l 0) {ol : Obj} (hol : s.heap.get? l = some ol) (hlist : ∀ h : Heap, h.get? l = some ol → h.IsList l #[])
    (hQ : ∀ h', (∀ c o, c ≠ zz → c ≠ i1 → s.heap.get? c = some o → h'.get? c = some o) → Q none { s with heap := h' }) : wpAny (model prog w) A (pyNext (.ref zz)) Q E s := by
  have hT : s.TypeIs (.ref zz) "zip" := ⟨_, hz, rfl⟩
  have itAt : ∀ {h : Heap}, (∀ o, s.heap.get? i1 = some o → h.get? i1 = some o) → h.IsListIter i1 l 0 := fun {h} k => by
    obtain ⟨o, e1, e2, e3⟩ := hit
    exact ⟨o, k o e1, e2, e3⟩
  unfold pyNext
  refine wpAny_bind (wpAny_attempt (wpAny_callSpecial?_slot (name := Str.ofString "__next__") hT F.slot_zip_next (wpAny_call_entry F.slot_zip_next hT F.entry_zip_next ?_ (F.args_zip_next_1 _))))
  refine zip_first hz pTI pTO n2 fun h1 z1 sb1 => ?_
  refine wpAny_nextOf_list_end (s := { s with heap := h1 }) hh (itAt fun o e => (sb1.2 _ n3).trans e) (hlist h1 ((sb1.2 _ nl).trans hol)) (by simp) fun h2 e sb2 he => ?_
  have z2 : ZipAt h2 zz TI TO .ellipsis false := sb2 _ _ n3.symm z1
  refine ⟨z2, fun h3 sb3 => ?_⟩
  obtain ⟨o, ho, hcl⟩ := he
  have hez : e ≠ zz := fun x => by
    subst x
    rw [z2] at ho
    cases ho
    simp at hcl
  have k3 : ∀ c o, c ≠ zz → c ≠ i1 → s.heap.get? c = some o → h3.get? c = some o := fun c o c1 c2 q => (sb3.2 c c1).trans (sb2 c o c2 ((sb1.2 c c1).trans q))
  refine wpAny_bind (wpAny_isInstance (T := "StopIteration") (b := true) ⟨o, (sb3.2 e hez).trans ho, hcl⟩ isSubtype_stop ?_)
  exact wpAny_pure (hQ _ k3)
end
section
variable {X : Cx} {N L S G B : List Str} {o e e1 : Expr} {es : List Expr} {m : Str} {C : Addr} {k j : Nat} {sp : L2.SpG} {σ : L2.St} {H : Hp} {Q : VK} {p apos pos' pos pz posz : Pos} {pl : Sem Bool} {E : XK}
theorem x_listZ0 (c : Nm X N L S G B) (ml : Mb "list" B) (mz : Mb "zip" B) (F : GMt X.prog X.w X.K X.mg X.base C m k sp) (hr : Room j X.A) (hj : k ≤ j)
    (h : WE X e1 σ H fun v H0 => ∃ l, v = .ref l ∧ WE X o σ H0 fun x H1 => ∃ a dx fs, x = .ref a ∧ H1 a = some (.ins C dx fs) ∧ fs.lookup m = none ∧ WA X (e :: es) σ H1 fun vs H2 => H2 l = some (.lst []) ∧ sp (.ref a :: vs) H2 (fun _ _ => True) E ∧ ∀ q, H2 q = none → Q (.ref q) (upd H2 q (.lst [])))
    (hst : starEach (e :: es) X.env = (false, eval e X.env) :: starEach es X.env := by with_unfolding_all rfl) (hpl : (backTo pos' (starEach es X.env)).any (·.1) = false := by with_unfolding_all rfl)
    (ht : eval (.Call (.Attribute o m apos) (e :: es) [] pos') X.env = (do
      let ov ← eval o X.env
      standAt apos.atName
      let (f, first) ← holding [ov] (getMethod ov m pl)
      callWith pos' f first (backTo pos' (starEach (e :: es) X.env)) (backToKw pos' (keywordEach [] X.env))) := by with_unfolding_all rfl)
    (hs1 : starEach [e1, .Call (.Attribute o m apos) (e :: es) [] pos'] X.env = (false, eval e1 X.env) :: starEach [.Call (.Attribute o m apos) (e :: es) [] pos'] X.env := by with_unfolding_all rfl)
    (hs2 : starEach [.Call (.Attribute o m apos) (e :: es) [] pos'] X.env = (false, eval (.Call (.Attribute o m apos) (e :: es) [] pos') X.env) :: starEach [] X.env := by with_unfolding_all rfl)
    (hs3 : starEach [.Call (.Name "zip" pz) [e1, .Call (.Attribute o m apos) (e :: es) [] pos'] [] posz] X.env = (false, eval (.Call (.Name "zip" pz) [e1, .Call (.Attribute o m apos) (e :: es) [] pos'] [] posz) X.env) :: starEach [] X.env := by with_unfolding_all rfl) :
    WE X (.Call (.Name "list" p) [.Call (.Name "zip" pz) [e1, .Call (.Attribute o m apos) (e :: es) [] pos'] [] posz] [] pos) σ H Q := by
  obtain ⟨f, fd, ps, cl, hm, F, hB⟩ := F.ex
  refine ⟨fun pins s I => ?_⟩
  refine wpAny_Call_Name_kw (ld_blt I (c.bgl _ ml.mem).1 (c.blt _ ml.mem) PyProof.Rows.boot_list ?_ (by decide) (by decide))
  refine PyProof.Rows.callWith_type1 ?_ hs3 (by with_unfolding_all rfl)
  rw [hs3]
  show wpAny _ _ (spliced ((false, eval (.Call (.Name "zip" pz) _ [] posz) X.env) :: backTo pos (starEach [] X.env))) _ _ s
  refine Calls.spliced_cons ?_
  refine wpAny_Call_Name_kw (ld_blt I (c.bgl _ mz.mem).1 (c.blt _ mz.mem) PyProof.Rows.boot_zip ?_ (by decide) (by decide))
  refine PyProof.Rows.callWith_type1 ?_ hs1 (by rw [hs2]; rfl)
  rw [hs1, hs2]
  show wpAny _ _ (spliced ((false, eval e1 X.env) :: backTo posz ((false, eval (.Call (.Attribute o m apos) (e :: es) [] pos') X.env) :: starEach [] X.env))) _ _ s
  refine Calls.spliced_cons (thn (h.run pins s I) fun u1 s1 ⟨v, H0, I0, r1, l, ev, h1⟩ => ?_)
  subst ev
  obtain rfl : u1 = Value.ref l := r1
  show wpAny _ _ (spliced ((false, eval (.Call (.Attribute o m apos) (e :: es) [] pos') X.env) :: backTo posz (starEach [] X.env))) _ _ s1
  refine Calls.spliced_cons ?_
  refine PySem.W.methodCall_KW (pl := pl) (thn (h1.run pins s1 I0) fun u s2 ⟨x, H1, I1, rx, a, dx, fs, ex, ea, lk, q⟩ => ?_) ht
  subst ex
  obtain rfl : u = Value.ref a := rx
  refine getmeth_ok I1 ea cl hm lk ?_
  refine PySem.W.callWith_K (first := [.ref a]) (h₀ := X.base) I.ok.mod.kin hm.kp (thn (q.run pos' pins s2 I1) fun us s3 ⟨vs, H2, I2, r, hl2, hsp, q2⟩ => ⟨I2.kIn, ?_⟩) hst hpl
  have r2 : Vals (V.ref a :: vs) (Value.ref a :: us) := .cons rfl r
  have hlen : ((Value.ref a :: us) ++ []).length = ps.length := by rw [List.append_nil, ← r2.length]; exact F.len _ _ _ _ hsp
  have hbt := hB s3 (.ref a :: us) I2.kIn hlen
  rw [List.append_nil] at hbt
  refine wpAny_call (codeAny_mono (F.run X.A X.stack s3 H2 ⟨.ref a :: us, []⟩ (.ref a :: us) (.ref a :: vs) (fun _ _ => True) E (hr.mono hj) I2.env0 hbt r2 hsp) fun rr s4 hq => ?_)
  cases rr with
  | error e => exact False.elim hq
  | ok fl =>
    cases fl with
    | next => exact False.elim hq
    | brk => exact False.elim hq
    | cont => exact False.elim hq
    | ret u =>
      obtain ⟨ga, g, cc, rfl, z1, z2, isg, _, z3, z4, _, kp, _⟩ := hq
      refine Calls.spliced_nil ?_
      have I4 : Inv X pins σ H2 s4 := I2.call' (ch := []) z3 (Un.kept kp) (I2.hok.kept kp) z4 fun c z => absurd z (by simp)
      obtain ⟨its, rits, plc, _⟩ := I4.list (.inl (.inl hl2))
      have eits : its = [] := by
        have := rits.length
        exact List.length_eq_zero_iff.mp this.symm
      subst eits
      have hls := plc.isList
      obtain ⟨ol, hol, hrest⟩ := id hls
      have hll : l < s4.heap.objs.size := Heap.lt_size hol
      refine call_zip_lg hls isg fun h' pz pTI pTO pit k' => ?_
      refine Calls.spliced_nil ?_
      have sz' : s4.heap.objs.size + 3 < h'.objs.size := Heap.lt_size pz
      have n32 : (s4.heap.objs.size + 2 : Nat) ≠ s4.heap.objs.size + 3 := by omega
      have n30 : (s4.heap.objs.size : Nat) ≠ s4.heap.objs.size + 3 := by omega
      have n3l : l ≠ s4.heap.objs.size + 3 := Nat.ne_of_lt (Nat.lt_of_lt_of_le hll (Nat.le_add_right _ _))
      have nS3 : h'.objs.size ≠ s4.heap.objs.size + 3 := Nat.ne_of_gt sz'
      have nS0 : h'.objs.size ≠ s4.heap.objs.size := Nat.ne_of_gt (Nat.lt_of_le_of_lt (Nat.le_add_right _ 3) sz')
      refine call_list_zipany (n := 0) (f0 := .none) (s := { s4 with heap := h' }) (I := s4.heap.objs.size + 3) (TI := s4.heap.objs.size + 1) (TO := s4.heap.objs.size + 2)
        (J := fun i acc s' => acc = #[] ∧ i = 0 ∧ ∃ h5 c5, s' = { s4 with heap := h5 } ∧ (∀ b o, h'.get? b = some o → h5.get? b = some o) ∧ h5.get? h'.objs.size = some (LsO #[] c5)) (Nat.zero_le _) pz (fun i acc s' L => ?_) (fun i acc s' hi L => absurd hi (Nat.not_lt_zero _)) (fun acc s' L => ?_) fun h5 c5 k5 hS => ⟨rfl, rfl, h5, c5, rfl, k5, hS⟩
      · rw [L.1, L.2.1]; rfl
      · obtain ⟨_, _, h5, c5, rfl, k5, hS⟩ := L
        refine zip0_end (s := { s4 with heap := h5 }) (I.ok.hd c.calm) (k5 _ _ pz) (k5 _ _ pTI) (k5 _ _ pTO) n32 n30 n3l ?_ (k5 _ _ (k' _ _ hol)) (fun h e => ⟨ol, e, hrest⟩) fun h6 k6 => ⟨rfl, .ref h'.objs.size, upd H2 h'.objs.size (.lst []), ?_, rfl, q2 _ (I4.hok.fresh (Nat.le_of_lt (Nat.lt_of_le_of_lt (Nat.le_add_right _ 3) sz')))⟩
        · obtain ⟨oi, e1, e2, e3⟩ := pit
          exact ⟨oi, k5 _ _ e1, e2, e3⟩
        · exact I4.laid (h' := h6) (t' := s4.toks) (fun b o e => k6 b o (Nat.ne_of_lt (Nat.lt_of_lt_of_le (Heap.lt_size e) (Nat.le_add_right _ _))) (Nat.ne_of_lt (Heap.lt_size e)) (k5 _ _ (k' _ _ e))) (Nat.le_of_lt (Nat.lt_of_le_of_lt (Nat.le_add_right _ 3) sz')) ⟨Nat.zero_le _, [], c5, .nil, k6 _ _ nS3 nS0 hS⟩
end
end Sv

namespace Sv
open PySem PySem.Spec PyProof.Rows L2
local macro_rules
  | `(tactic| walk_at "mb") => `(tactic| with_reducible (repeat' first | exact Mb.here | apply Mb.there))
local macro_rules
  | `(tactic| walk_at "at") => `(tactic| with_reducible (repeat' first | exact At.here | apply At.there))
local macro_rules
  | `(tactic| walk_at "put") => `(tactic| with_reducible (repeat' first | exact Put.here | apply Put.there))
local macro_rules
  | `(tactic| walk_at "hm") => `(tactic| first | rfl | exact nomark _ | with_unfolding_all rfl)
local macro_rules
  | `(tactic| walk_at "built") => `(tactic| first
    | refine x_len (by assumption) (by walk_at "mb") ?_
    | refine x_isi (by assumption) (by walk_at "mb") (by walk_at "mb") bt_int ?_
    | refine x_isi (by assumption) (by walk_at "mb") (by walk_at "mb") bt_bool ?_
    | refine x_isi (by assumption) (by walk_at "mb") (by walk_at "mb") bt_str ?_
    | refine x_all (by assumption) (by walk_at "mb") ?_
    | refine x_sum (by assumption) (by walk_at "mb") ?_
    | refine x_set (by assumption) (by walk_at "mb") ?_
    | refine x_max (by assumption) (by walk_at "mb") ?_
    | refine x_min (by assumption) (by walk_at "mb") ?_
    | refine x_dm (by assumption) (by walk_at "mb") ?_
    | refine x_abs (by assumption) (by walk_at "mb") ?_
    | refine x_int (by assumption) (by walk_at "mb") ?_
    | refine x_list (by assumption) (by walk_at "mb") ?_)
local macro_rules
  | `(tactic| walk_at "we") => `(tactic| first
    | (refine gNm ?_; refine w_name (by assumption) (by walk_at "at") (by walk_at "mb") ?_)
    | (refine gCn ?_; first | refine w_int ?_ | refine w_str ?_ | refine w_bl ?_ | refine w_non ?_)
    | (refine gCall ?_; walk_at "built")
    | refine w_bin ?_ | refine w_cmp ?_ (by walk_at "hm") | refine w_attr ?_ | refine w_ix ?_ | refine w_slice ?_ | refine w_and ?_ | refine w_or ?_ | refine w_one ?_ | refine w_not ?_ | refine w_un ?_ | refine w_if ?_
    | refine w_lst ?_ | refine w_tup ?_)
local macro_rules
  | `(tactic| walk_at "ws") => `(tactic| first
    | refine ws_set (by assumption) (by walk_at "mb") ?_ | refine ws_ret ?_ | refine ws_if ?_ | refine ws_expr ?_ | refine ws_retN ?_ | refine ws_pass ?_ | refine ws_break ?_ | refine ws_continue ?_)
local macro_rules
  | `(tactic| walk_at "wt") => `(tactic| first
    | refine wt_cmp ?_ (by walk_at "hm") | refine wt_of_ww (ww_and ?_) | refine wt_of_ww (ww_or ?_) | refine wt_not ?_ | refine wt_chain ?_ | refine wt_val ?_)
local macro_rules
  | `(tactic| walk_at "ww") => `(tactic| first | refine ww_and ?_ | refine ww_or ?_ | refine ww_and1 ?_ | refine ww_or1 ?_)
local macro_rules
  | `(tactic| walk_at "wb") => `(tactic| first
    | (refine gBo ?_; first | refine b_add ?_ | refine b_sub ?_)
    | (refine gCo ?_; first | refine b_lt ?_ | refine b_le ?_ | refine b_gt ?_ | refine b_ge ?_ | refine b_eqI ?_ | refine b_neI ?_ | refine b_eqS ?_ | refine b_neS ?_ | refine b_eqB ?_ | refine b_neB ?_ | refine b_isN ?_ | refine b_notN ?_ | refine b_isB ?_ | refine b_notB ?_))
local macro_rules
  | `(tactic| walk_at "v1") => `(tactic| with_reducible first
    | (refine gWE ?_; walk_at "we")
    | (refine gWB ?_; walk_at "wb")
    | (refine gWL ?_; refine wl_nil ?_)
    | (refine gWS ?_; walk_at "ws")
    | (refine gWT ?_; walk_at "wt")
    | (refine gWA ?_; first | refine wa_cons ?_ | refine wa_nil ?_)
    | (refine gWW ?_; walk_at "ww")
    | (refine gWU ?_; refine u_neg ?_)
    | (refine gWG ?_; refine wg_name (by assumption) (by walk_at "put") (by walk_at "mb") ?_)
    | (refine gWGs ?_; first | refine wgs_cons ?_ | refine wgs_nil ?_)
    | apply ite_t | apply ite_f | apply ite_nt | apply ite_nf | apply ite_nn | apply ite_rn | apply ite_nnn | apply ite_nrn
    | (apply gEx; first
        | (refine ⟨_, (by walk_at "put"), ?_⟩)
        | refine ⟨_, _, tInt, kit_self, ?_⟩ | refine ⟨_, _, tInt, kit_int_bool, ?_⟩ | refine ⟨_, _, tBl, kit_bool_int, ?_⟩ | refine ⟨_, _, tBl, kit_self, ?_⟩ | refine ⟨_, _, tStr, kit_self, ?_⟩ | refine ⟨_, _, tStr, kit_str_int, ?_⟩ | refine ⟨_, _, tInt, kit_int_str, ?_⟩
        | refine ⟨_, tru_bl, ?_⟩
        | refine ⟨_, rfl, ?_⟩)
    | apply wp_none | apply wp_some)
local macro_rules
  | `(tactic| walk_at "s") => `(tactic| first | walk_at "v1" | with_reducible refine wl_cons ?_)
local macro_rules
  | `(tactic| walk_at "w") => `(tactic| repeat walk_at "s")
local macro_rules
  | `(tactic| walk_at "v") => `(tactic| repeat walk_at "v1")
local macro_rules
  | `(tactic| walk_at "go") => `(tactic| refine wl_cons ?_)

section
variable {P : Program} {w : World} {K : PySem.W.Frag} {mg : Str → Option Value} {base : Heap} {f : Addr} {fd : FuncData}
/-- data that repr shows -/
structure Shw (K : PySem.W.Frag) (H : Hp) (v : V) (d : PyData) : Prop where
  dp : Dp K H v d
  sh : d.showable = true
  nd : d.hasDict = false
  dep : d.depth < 60
  len : d.shown.length ≤ sizeLine
mutual
theorem dp_same {H H' : Hp} (e : Same H H') : ∀ (d : PyData) (v : V), Dp K H v d → Dp K H' v d
  | .none, _, h => by cases h; exact .non
  | .bool b, _, h => by cases h; exact .bl b
  | .int i, _, h => by cases h; exact .int i
  | .str x, _, h => by cases h; exact .str x
  | .list ds, _, h => by
    cases h with
    | lst h1 h2 => exact .lst (Same.seq e h1) (dpall_same e ds _ h2)
  | .tuple ds, _, h => by
    cases h with
    | tup h1 h2 => exact .tup (same_t e h1) (dpall_same e ds _ h2)
  | .dict ds, _, h => by cases h
theorem dpall_same {H H' : Hp} (e : Same H H') : ∀ (ds : List PyData) (vs : List V), DpAll K H vs ds → DpAll K H' vs ds
  | [], _, h => by cases h; exact .nil
  | d :: ds, _, h => by
    cases h with
    | cons h1 h2 => exact .cons (dp_same e d _ h1) (dpall_same e ds _ h2)
end
theorem Shw.same {H H' : Hp} {v : V} {d : PyData} (h : Shw K H v d) (e : Same H H') : Shw K H' v d := ⟨dp_same e d v h.dp, h.sh, h.nd, h.dep, h.len⟩
/-- the error of class c with its field, wished for -/
def Rs (K : PySem.W.Frag) (c fld : Str) (v : V) (H : Hp) (E : XK) : Prop := ∀ d H', Same H H' → H' d = some (.xd [(fld, v)]) → E (.ref (He.ga K c)) (some d) H'
theorem Rs.at {c fld : Str} {v : V} {H H1 : Hp} {E : XK} (h : Rs K c fld v H E) (e : Same H H1) : ∀ d, H1 d = none → E (.ref (He.ga K c)) (some d) (upd H1 d (.xd [(fld, v)])) := fun d hd => h d _ (e.trans (same_new hd)) upd_same
theorem Rs.same {c fld : Str} {v : V} {H H1 : Hp} {E : XK} (h : Rs K c fld v H E) (e : Same H H1) : Rs K c fld v H1 E := fun d H' e' hd => h d H' (e.trans e') hd
/-- what an error's class owes its __init__ -/
structure SvE (K : PySem.W.Frag) (mg : Str → Option Value) : Prop where
  g : mg "SieveError" = some (.ref (He.ga K "SieveError"))
  r : ClX.CRead K (He.ga K "SieveError") (.type "type")
  v : PySem.W.findCls K (.ref (He.ga K "SieveError")) (.type "type") "__init__" = some (.val (.builtin "ValueError.__init__"))
theorem ok_InvalidNumber___init__ (F : FunD K "__init__" "InvalidNumber.__init__" (defArgs s_InvalidNumber___init__) (defBody s_InvalidNumber___init__) (defScope s_InvalidNumber___init__) [] [] f fd) (hb : ∀ x ∈ BB, mg x = none) (SE : SvE K mg) (ER : ErrC K (He.ga K "InvalidNumber") "value" (He.ma K (He.ga K "InvalidNumber") "__init__")) : FnR P w K mg base (L2.CX P w) 1 f (spErrI K (He.ga K "InvalidNumber") "value") := by
  refine fnr_of F sc_InvalidNumber___init__ (fun vs H Q E h => ?_) (fun kV doc pm an cdv ct us hl => match us, hl with | [_, _], _ => rfl) (fun x hx => hb x (by revert x; decide +kernel)) fun cd A outer s H vs Q E hr hc h => ?_
  · obtain ⟨a, v, rfl, _⟩ := h; rfl
  · obtain ⟨a, v, rfl, ha, q⟩ := h
    refine wl_start (σ' := [some (.ref a), some v]) rfl (wl_cons ?_)
    refine ws_expr ?_
    refine w_oinit hc (by walk_at "mb") SE.g SE.r SE.v ?_
    walk_at "w"
    refine ⟨a, He.ga K "InvalidNumber", _, rfl, (by decide), ER.T, ha, ?_⟩
    walk_at "go"
    refine ws_ost ?_
    walk_at "w"
    refine ⟨a, He.ga K "InvalidNumber", rfl, ER.T, ER.no, ha, fun dx h1 h2 => ?_⟩
    walk_at "w"
    exact q dx h1 h2
def NotInt (K : PySem.W.Frag) (H : Hp) (v : V) : Prop := (∃ b, v = .bl b) ∨ ∃ t, TyX K H v t ∧ PySem.W.kitOne K t (.type "int") = some false
def spInt2 (K : PySem.W.Frag) : Sp := fun vs H Q _ => ∃ v m, vs = [v, .int m] ∧ ((∃ i, v = .int i ∧ Q (.bl (decide (m ≤ i))) H) ∨ (NotInt K H v ∧ Q (.bl false) H))
def spIsInt (K : PySem.W.Frag) : Sp := fun vs H Q _ => ∃ v m, (vs = [v, .int m] ∨ (vs = [v] ∧ m = 0)) ∧ ((∃ i, v = .int i ∧ Q (.bl (decide (m ≤ i))) H) ∨ (NotInt K H v ∧ Q (.bl false) H))
theorem ok_is_integer {P : Program} {w : World} {K : PySem.W.Frag} {mg : Str → Option Value} {base : Heap} {f : Addr} {fd : FuncData} (F : FunD K "is_integer" "is_integer" (defArgs s_is_integer) (defBody s_is_integer) (defScope s_is_integer) [.int 0] [] f fd) (hb : ∀ x ∈ BB, mg x = none) : FnR P w K mg base (L2.CX P w) 2 f (spIsInt K) := by
  have G : FnOk P w K mg base (L2.CX P w) 2 f fd ["value", "minimum"] (spInt2 K) := by
    refine fnr_ofD F sc_is_integer (fun vs H Q E h => ?_) (fun x hx => hb x (by revert x; decide +kernel)) fun cd A outer s H vs Q E hr hc h => ?_
    · obtain ⟨v, m, rfl, _⟩ := h; rfl
    · obtain ⟨v, m, rfl, h⟩ := h
      refine wl_start (σ' := [some v, some (.int m)]) rfl (wl_cons ?_)
      rcases h with ⟨i, rfl, q⟩ | ⟨⟨b, rfl⟩ | ⟨t, ht, hk⟩, q⟩
      · walk_at "w"
        exact q
      · walk_at "w"
        exact q
      · walk_at "w"
        refine ⟨_, _, ht, hk, ?_⟩
        walk_at "w"
        exact q
  obtain ⟨ds, rd, hB⟩ := F.binds1 (ps := ["value", "minimum"]) 1 0 (by simp) rfl fun T kV doc pm an cdv ct us its h1 h2 => match us, its, h1, h2 with
    | [u], [d], _, _ => ⟨_, rfl, rfl⟩
  obtain ⟨ds', rd', hB'⟩ := F.binds1 (ps := ["value", "minimum"]) 2 1 (by simp) rfl fun T kV doc pm an cdv ct us its h1 h2 => match us, its, h1, h2 with
    | [u, u2], [d], _, _ => ⟨_, rfl, rfl⟩
  refine (fnr_or (G.raw hB rd) (G.raw hB' rd')).imp fun vs H Q E h => ?_
  obtain ⟨v, m, rfl | ⟨rfl, rfl⟩, h⟩ := h
  · exact .inr ⟨v, m, rfl, h⟩
  · exact .inl ⟨v, 0, rfl, h⟩
/-- v is no integer from m on -/
def Bad (K : PySem.W.Frag) (H : Hp) (v : V) (m : Int) : Prop := NotInt K H v ∨ ∃ i, v = .int i ∧ i < m
abbrev cS (K : PySem.W.Frag) : Addr := He.ga K "Sieve"
structure SvC (K : PySem.W.Frag) (mg : Str → Option Value) : Prop where
  cls : Cls K (cS K)
  nt : NoAttr K (cS K) "text"
  nm : NoAttr K (cS K) "marks"
  g : mg "Sieve" = some (.ref (cS K))
  rd : ClX.CRead K (cS K) (.type "type")
  lim : ∃ u, ClX.CVal K (cS K) (.type "type") "LONGEST" (.int 10000) u
  eqT : ∀ {H : Hp} {a dx : Addr} {fs : List (Str × V)}, H a = some (.ins (cS K) dx fs) → TyX K H (.ref a) (.ref (cS K))
def SieveAt (K : PySem.W.Frag) (H : Hp) (a : Addr) (l : List Bool) : Prop :=
  Good l ∧ ∃ dx p, H a = some (.ins (cS K) dx [("text", .str (sOf l)), ("marks", .ref p)]) ∧ H p = some (.lst ((marks l).map fun i => V.int (i : Nat)))
theorem SieveAt.same {H H' : Hp} {a : Addr} {l : List Bool} (h : SieveAt K H a l) (e : Same H H') : SieveAt K H' a l := by
  obtain ⟨g, dx, p, h1, h2⟩ := h
  exact ⟨g, dx, p, e _ _ h1, e _ _ h2⟩
def spCheckN : Sp := fun vs H Q _ => ∃ i : Int, vs = [.int i] ∧ 0 ≤ i ∧ Q .non H
def spCheckE (K : PySem.W.Frag) : Sp := fun vs H Q E => ∃ v, vs = [v] ∧ ((∃ i : Int, v = .int i ∧ 0 ≤ i ∧ Q .non H) ∨ (Bad K H v 0 ∧ Rs K "InvalidNumber" "value" v H E))
theorem ok_check_number (F : FunD K "check_number" "check_number" (defArgs s_check_number) (defBody s_check_number) (defScope s_check_number) [] [] f fd) (hb : ∀ x ∈ BB, mg x = none) (h1 : Fn P w K mg base "is_integer" 2 (spIsInt K)) (gE : mg "InvalidNumber" = some (.ref (He.ga K "InvalidNumber"))) (ER : Err P w K mg base (He.ga K "InvalidNumber") "value" 1) : FnR P w K mg base (L2.CX P w) 3 f (spCheckE K) := by
  refine fnr_of F sc_check_number (fun vs H Q E h => ?_) (fun kV doc pm an cdv ct us hl => match us, hl with | [_], _ => rfl) (fun x hx => hb x (by revert x; decide +kernel)) fun cd A outer s H vs Q E hr hc h => ?_
  · obtain ⟨v, rfl, _⟩ := h; rfl
  · obtain ⟨v, rfl, h⟩ := h
    refine wl_start (σ' := [some v]) rfl (wl_cons ?_)
    walk_at "w"
    refine w_call hc (by walk_at "mb") h1 hr (by decide) passL ?_
    walk_at "w"
    have bad : Rs K "InvalidNumber" "value" v H E → WL (cx P w K mg base N_check_number "check_number" (defScope s_check_number) f cd A outer s H E) (match defBody s_check_number with | .If _ b _ _ :: _ => b | _ => []) { nx := fun σ' H' => WL (cx P w K mg base N_check_number "check_number" (defScope s_check_number) f cd A outer s H E) ((defBody s_check_number).drop 1) { nx := fun _ H' => Q .non H', rt := Q } σ' H', rt := Q } [some v] H := fun hE => by
      refine wl_cons ?_
      refine ws_raise hc takes_cx ?_
      refine wmk_err hc (by walk_at "mb") gE ER hr (by decide) ?_
      walk_at "w"
      exact hE.at (Same.refl _)
    refine ⟨v, 0, .inr ⟨rfl, rfl⟩, ?_⟩
    rcases h with ⟨i, rfl, hi, q⟩ | ⟨hn | ⟨i, rfl, hi⟩, hE⟩
    · refine .inl ⟨i, rfl, ?_⟩
      rw [decide_eq_true hi]
      walk_at "w"
      exact q
    · refine .inr ⟨hn, ?_⟩
      walk_at "v"
      exact bad hE
    · refine .inl ⟨i, rfl, ?_⟩
      rw [decide_eq_false (show ¬ (0 : Int) ≤ i by omega)]
      walk_at "v"
      exact bad hE
theorem wk_check_number (h : Fn P w K mg base "check_number" 3 (spCheckE K)) : Fn P w K mg base "check_number" 3 spCheckN := by
  obtain ⟨f, a, b, F⟩ := h.ex
  exact ⟨f, a, b, F.imp fun vs H Q E ⟨i, e, hi, q⟩ => ⟨.int i, e, .inl ⟨i, rfl, hi, q⟩⟩⟩
def spLeast : Sp := fun vs H Q _ => ∃ l, vs = [.str (sOf l)] ∧ Pat l ∧ ∀ m, Good m → (∀ n, kp m n = kp l n) → m.length ∣ l.length → Q (.str (sOf m)) H
theorem ok_least_pattern (F : FunD K "least_pattern" "least_pattern" (defArgs s_least_pattern) (defBody s_least_pattern) (defScope s_least_pattern) [] [] f fd) (hb : ∀ x ∈ BB, mg x = none) : FnR P w K mg base (L2.CX P w) 3 f spLeast := by
  refine fnr_of F sc_least_pattern (fun vs H Q E h => ?_) (fun kV doc pm an cdv ct us hl => match us, hl with | [_], _ => rfl) (fun x hx => hb x (by revert x; decide +kernel)) fun cd A outer s H vs Q E hr hc h => ?_
  · obtain ⟨i, rfl, _⟩ := h; rfl
  · obtain ⟨l, rfl, p, q⟩ := h
    have hz : sizeLine = 16777216 := sizeLine_eq
    have hp1 := p.one
    have hp2 := p.most
    refine wl_start (σ' := [some (.str (sOf l)), none, none]) rfl (wl_cons ?_)
    walk_at "w"
    refine ⟨l.length, ⟨by rw [sOf_len]; omega, by rw [sOf_len]⟩, ?_⟩
    walk_at "w"
    refine ws_for owns_cx hc ?_
    refine wi_range2 hc (by walk_at "mb") ?_
    walk_at "w"
    refine ⟨_, _, rfl, rfl, ⟨by omega, by omega, by omega, by omega⟩, ?_⟩
    refine ⟨_, _, wlk_range, fun i σ' H' => H' = H ∧ (∃ o, σ' = [some (.str (sOf l)), some (.int (l.length : Nat)), o]) ∧ ∀ e, 0 < e → e ≤ i → ¬ Cuts l e, ⟨rfl, ⟨_, rfl⟩, fun e h1 h2 => by omega⟩, fun i σ' H' ⟨h, _⟩ => by rw [h]; exact Same.refl _, fun i σ' H' hi ⟨hH, ⟨o, hσ⟩, hn⟩ => ?_, fun σ' H' ⟨hH, ⟨o, hσ⟩, hn⟩ => ?_⟩
    · subst hH hσ
      refine wg_name hc (by walk_at "put") (by walk_at "mb") ?_
      have ek : (1 : Int) + (i : Nat) = ((i + 1 : Nat) : Int) := by omega
      have hi' : i + 1 ≤ l.length := by omega
      rw [ek]
      walk_at "go"
      walk_at "w"
      refine b_mod (by omega) ?_
      walk_at "w"
      refine if_dec (fun h1 => ?_) (fun h1 => ?_)
      · have hm : l.length % (i + 1) = 0 := by omega
        walk_at "w"
        refine sl_s (by rw [sOf_len]; omega) ?_
        rw [cut_to l rfl hi']
        walk_at "w"
        refine b_fdiv (by omega) (by omega) ?_
        rw [← Int.natCast_ediv]
        have hd : l.length / (i + 1) * (i + 1) = l.length := Nat.div_mul_cancel (Nat.dvd_of_mod_eq_zero hm)
        have ht : (l.take (i + 1)).length = i + 1 := by rw [List.length_take]; omega
        refine b_mulS (Int.natCast_nonneg _) (by have := Nat.div_le_self l.length (i + 1); omega) (by rw [sOf_len, ht, Int.toNat_natCast, Nat.mul_comm, hd]; omega) ?_
        rw [Int.toNat_natCast, rep_sOf]
        walk_at "w"
        refine if_dec (fun h2 => ?_) (fun h2 => ?_)
        · have hc2 : Cuts l (i + 1) := ⟨Nat.dvd_of_mod_eq_zero hm, (cuts_iff (by omega) hi' hm).mp (sOf_inj h2)⟩
          walk_at "w"
          refine sl_s (by rw [sOf_len]; omega) ?_
          rw [cut_to l rfl hi']
          have hg := least_good p (by omega) hi' hc2 fun e h1 h2 => hn e h1 (by omega)
          exact q _ hg.1 hg.2.1 hg.2.2
        · walk_at "w"
          refine ⟨rfl, ⟨_, rfl⟩, fun e h3 h4 h5 => ?_⟩
          by_cases he : e = i + 1
          · subst he
            exact h2 (congrArg sOf ((cuts_iff (by omega) hi' hm).mpr h5.2))
          · exact hn e h3 (by omega) h5
      · walk_at "w"
        refine ⟨rfl, ⟨_, rfl⟩, fun e h3 h4 h5 => ?_⟩
        by_cases he : e = i + 1
        · subst he
          have := Nat.mod_eq_zero_of_dvd h5.1
          omega
        · exact hn e h3 (by omega) h5
    · exact absurd ⟨Nat.dvd_refl _, kp_per l⟩ (hn l.length hp1 (by omega))

def spPatOf (K : PySem.W.Frag) : Sp := fun vs H Q _ => ∃ (a : Addr) (ns : List Int) (p : Nat), vs = [.ref a, .int (p : Nat)] ∧ SqL K H a (ns.map V.int) ∧ ns.length < 4090 ∧ p ≤ 10000 ∧ ∀ H', Same H H' → Q (.str (sOf (lof (fun i => ns.any (· == ((i : Nat) : Int))) p))) H'
theorem ok_pattern_of (F : FunD K "pattern_of" "pattern_of" (defArgs s_pattern_of) (defBody s_pattern_of) (defScope s_pattern_of) [] [] f fd) (hb : ∀ x ∈ BB, mg x = none) : FnR P w K mg base (L2.CX P w) 3 f (spPatOf K) := by
  refine fnr_of F sc_pattern_of (fun vs H Q E h => ?_) (fun kV doc pm an cdv ct us hl => match us, hl with | [_, _], _ => rfl) (fun x hx => hb x (by revert x; decide +kernel)) fun cd A outer s H vs Q E hr hc h => ?_
  · obtain ⟨a, ns, p, rfl, _⟩ := h; rfl
  · obtain ⟨a, ns, p, rfl, hs, hn, hp, q⟩ := h
    have hz : sizeLine = 16777216 := sizeLine_eq
    have hsb : scanBound = 4096 := by decide +kernel
    refine wl_start (σ' := [some (.ref a), some (.int (p : Nat)), none, none]) rfl (wl_cons ?_)
    walk_at "w"
    refine ⟨_, ns, rfl, hs, by omega, fun ps H1 n hps e1 hset => ?_⟩
    walk_at "w"
    refine w_join ?_
    walk_at "w"
    refine w_lc hc (own := bO_pattern_of_0) (by kernel_rfl) (fun i acc => acc = (lof (fun i => ns.any (· == ((i : Nat) : Int))) i).map fun b => V.str (sOf [b])) ?_
    refine wi_range1 hc (by walk_at "mb") ?_
    walk_at "w"
    refine ⟨by omega, by omega, _, _, wlk_range, by omega, rfl, fun i acc H' hi hl hP hS => ?_, fun acc D H' hl hP hD hS hDa => ?_⟩
    · intro X1 b1
      have c1 := nm_blk (L' := bL_pattern_of_0) (S' := bS_pattern_of_0) (G' := bG_pattern_of_0) (B' := bB_pattern_of_0) b1 hc (by kernel_rfl) (fun x hx => nomatch hx)
      obtain ⟨_, _, _, _, _, rfl⟩ := b1
      simp only [wipe, List.map_cons, List.map_nil, List.set_cons_succ, List.set_cons_zero]
      refine wg_name c1 (by walk_at "put") (by walk_at "mb") ?_
      refine ⟨rfl, rfl, ?_⟩
      intro X2 b2
      refine wts_nil ?_
      refine ⟨Same.refl _, ite_t ?_⟩
      have c2 := nm_blk (L' := bL_pattern_of_0) (S' := bS_pattern_of_0) (G' := bG_pattern_of_0) (B' := bB_pattern_of_0) b2 hc (by kernel_rfl) (fun x hx => nomatch hx)
      intro X3 b3
      have c3 := nm_blk (L' := bL_pattern_of_0) (S' := bS_pattern_of_0) (G' := bG_pattern_of_0) (B' := bB_pattern_of_0) b3 hc (by kernel_rfl) (fun x hx => nomatch hx)
      obtain ⟨_, _, _, _, _, rfl⟩ := b3
      walk_at "w"
      refine b_inSetI (hS _ _ hset) ?_
      have e0 : (0 : Int) + (i : Nat) = ((i : Nat) : Int) := by omega
      rw [e0]
      have hlast : ∀ b, (ns.any fun x => x == ((i : Nat) : Int)) = b → acc ++ [V.str (sOf [b])] = List.map (fun b => V.str (sOf [b])) (lof (fun i => ns.any fun x => x == ((i : Nat) : Int)) (i + 1)) := fun b e => by
        rw [hP, ← e]
        simp [lof, List.range_succ]
      cases hb2 : (ns.any fun x => x == ((i : Nat) : Int)) with
      | true =>
        walk_at "w"
        exact ⟨Same.refl _, hlast true hb2⟩
      | false =>
        walk_at "w"
        exact ⟨Same.refl _, hlast false hb2⟩
    · have e2 : acc = (((lof (fun i => ns.any fun x => x == ((i : Nat) : Int)) p)).map fun b => sOf [b]).map V.str := by
        rw [hP, Int.toNat_natCast, List.map_map]; rfl
      refine ⟨D, _, rfl, .inl (.inl (.inl (by rw [hDa, e2]))), ?_, ?_⟩
      · have hl1 : ∀ l : List Bool, ((l.map fun b => sOf [b]).map fun x => x.length).sum = l.length := fun l => by
          induction l with
          | nil => rfl
          | cons b r ih => simp only [List.map_cons, List.sum_cons, ih, sOf_len, List.length_cons, List.length_nil]; omega
        rw [hl1, lof_len, List.length_map, lof_len]
        have : ("" : Str).length = 0 := by decide +kernel
        rw [this]
        omega
      · rw [join_sOf]
        exact q _ (e1.trans hS)

def spIsPat : Sp := fun vs H Q _ => ∃ l, vs = [.str (sOf l)] ∧ Pat l ∧ ∀ H', Same H H' → Q (.bl true) H'
theorem ok_Sieve_is_pattern (F : FunD K "is_pattern" "Sieve.is_pattern" (defArgs s_Sieve_is_pattern) (defBody s_Sieve_is_pattern) (defScope s_Sieve_is_pattern) [] [] f fd) (hb : ∀ x ∈ BB, mg x = none) (SC : SvC K mg) : FnR P w K mg base (L2.CX P w) 3 f spIsPat := by
  refine fnr_of F sc_Sieve_is_pattern (fun vs H Q E h => ?_) (fun kV doc pm an cdv ct us hl => match us, hl with | [_], _ => rfl) (fun x hx => hb x (by revert x; decide +kernel)) fun cd A outer s H vs Q E hr hc h => ?_
  · obtain ⟨l, rfl, _⟩ := h; rfl
  · obtain ⟨l, rfl, p, q⟩ := h
    have hz : sizeLine = 16777216 := sizeLine_eq
    have p1 := p.one
    have p2 := p.most
    obtain ⟨u, hu⟩ := SC.lim
    refine wl_start (σ' := [some (.str (sOf l)), none]) rfl (wl_cons ?_)
    walk_at "w"
    refine ⟨l.length, ⟨by rw [sOf_len]; omega, by rw [sOf_len]⟩, ?_⟩
    walk_at "w"
    rw [decide_eq_true (show (1 : Int) ≤ (l.length : Nat) by omega)]
    walk_at "w"
    refine w_gref hc (by walk_at "mb") SC.g ?_
    refine a_cval SC.rd hu ?_
    walk_at "w"
    rw [decide_eq_true (show ((l.length : Nat) : Int) ≤ 10000 by omega)]
    walk_at "w"
    refine b_inPlus ?_
    rw [decide_eq_true p.plus]
    walk_at "w"
    refine w_lc hc (own := bO_Sieve_is_pattern_0) (by kernel_rfl) (fun i acc => acc = (List.replicate i true).map V.bl) ?_
    refine wi_str ?_
    walk_at "w"
    refine ⟨_, _, wlk_str, ?_, rfl, fun i acc H' hi hl hP hS => ?_, fun acc D H' hl hP hD hS hDa => ?_⟩
    · have := sOf_len l
      show (sOf l).length < sizeLine
      omega
    · have hi' : i < l.length := by
        have := sOf_len l
        show i < l.length
        rw [← this]; exact hi
      intro X1 b1
      have c1 := nm_blk (L' := bL_Sieve_is_pattern_0) (S' := bS_Sieve_is_pattern_0) (G' := bG_Sieve_is_pattern_0) (B' := bB_Sieve_is_pattern_0) b1 hc (by kernel_rfl) (fun x hx => nomatch hx)
      simp only [wipe, List.map_cons, List.map_nil, List.set_cons_succ, List.set_cons_zero]
      refine wg_name c1 (by walk_at "put") (by walk_at "mb") ?_
      refine ⟨rfl, rfl, ?_⟩
      intro X2 b2
      refine wts_nil ?_
      refine ⟨Same.refl _, ite_t ?_⟩
      intro X3 b3
      have c3 := nm_blk (L' := bL_Sieve_is_pattern_0) (S' := bS_Sieve_is_pattern_0) (G' := bG_Sieve_is_pattern_0) (B' := bB_Sieve_is_pattern_0) b3 hc (by kernel_rfl) (fun x hx => nomatch hx)
      walk_at "w"
      rw [signAt_sOf hi']
      refine b_inPM ?_
      refine ⟨Same.refl _, ?_⟩
      rw [hP, List.replicate_succ', List.map_append]; rfl
    · refine ⟨D, _, rfl, .inl (.inl (by rw [hDa, hP])), ?_⟩
      have e : ((List.replicate (sOf l).cps.size true).all fun k => k) = true := by simp
      rw [e]
      walk_at "w"
      exact q _ hS
def spSvInit (K : PySem.W.Frag) : Sp := fun vs H Q _ => ∃ (a dx : Addr) (l : List Bool), vs = [.ref a, .str (sOf l)] ∧ H a = some (.ins (cS K) dx []) ∧ Pat l ∧
  ∀ m H', Good m → (∀ n, kp m n = kp l n) → m.length ∣ l.length → (∀ b o, b ≠ a → H b = some o → H' b = some o) → SieveAt K H' a m → Q .non H'
theorem ok_Sieve___init__ (F : FunD K "__init__" "Sieve.__init__" (defArgs s_Sieve___init__) (defBody s_Sieve___init__) (defScope s_Sieve___init__) [] [] f fd) (hb : ∀ x ∈ BB, mg x = none) (SC : SvC K mg) (h1 : SMt P w K mg base (cS K) "is_pattern" 3 spIsPat) (h2 : Fn P w K mg base "least_pattern" 3 spLeast) : FnR P w K mg base (L2.CX P w) 4 f (spSvInit K) := by
  refine fnr_of F sc_Sieve___init__ (fun vs H Q E h => ?_) (fun kV doc pm an cdv ct us hl => match us, hl with | [_, _], _ => rfl) (fun x hx => hb x (by revert x; decide +kernel)) fun cd A outer s H vs Q E hr hc h => ?_
  · obtain ⟨a, dx, l, rfl, _⟩ := h; rfl
  · obtain ⟨a, dx, l, rfl, ha, p, q⟩ := h
    have hz : sizeLine = 16777216 := sizeLine_eq
    refine wl_start (σ' := [some (.ref a), some (.str (sOf l)), none, none]) rfl (wl_cons ?_)
    walk_at "w"
    refine w_smeth h1 hr (by decide) passL ?_
    refine w_gref hc (by walk_at "mb") SC.g ⟨rfl, ?_⟩
    walk_at "w"
    refine ⟨l, rfl, p, fun H1 e1 => ?_⟩
    walk_at "w"
    refine ws_fld ?_
    refine w_call hc (by walk_at "mb") h2 hr (by decide) passL ?_
    walk_at "w"
    refine ⟨l, rfl, p, fun m gm km dm => ?_⟩
    walk_at "w"
    refine ⟨a, _, _, _, rfl, e1 _ _ ha, SC.cls, SC.nt, by decide, ?_⟩
    walk_at "w"
    refine ws_fld ?_
    refine w_lcT hc (own := bO_Sieve___init___0) (by kernel_rfl) (fun i acc => acc = ((List.range i).filter fun i => m.getD i false).map fun i => V.int (i : Nat)) ?_
    refine wi_enumS hc (by walk_at "mb") ?_
    walk_at "w"
    refine a_fld SC.cls SC.nt upd_same rfl ?_
    have hml : (sOf m).length = m.length := sOf_len m
    have hm1 := gm.most
    refine ⟨_, rfl, _, _, wlk_g, (by show (sOf m).length < sizeLine; omega), rfl, fun i acc H0 H' T hi hl hP hS0 hS hT => ?_, fun acc D H' hl hP hD hS hDa => ?_⟩
    · have hi' : i < m.length := by
        show i < m.length
        rw [← hml]; exact hi
      intro X1 b1
      have c1 := nm_blk (L' := bL_Sieve___init___0) (S' := bS_Sieve___init___0) (G' := bG_Sieve___init___0) (B' := bB_Sieve___init___0) b1 hc (by kernel_rfl) (fun x hx => nomatch hx)
      simp only [wipe, List.map_cons, List.map_nil, List.set_cons_succ, List.set_cons_zero]
      refine wg_tup c1 (.inl (.inl hT)) ?_
      walk_at "w"
      refine ⟨rfl, rfl, ?_⟩
      intro X2 b2
      refine wts_one ?_
      have c2 := nm_blk (L' := bL_Sieve___init___0) (S' := bS_Sieve___init___0) (G' := bG_Sieve___init___0) (B' := bB_Sieve___init___0) b2 hc (by kernel_rfl) (fun x hx => nomatch hx)
      walk_at "w"
      rw [signAt_sOf hi']
      refine b_eqPlus ?_
      have hst := marks_step hi'
      refine ⟨_, rfl, Same.refl _, ?_⟩
      cases hb2 : m[i] with
      | true =>
        refine ite_t ?_
        intro X3 b3
        have c3 := nm_blk (L' := bL_Sieve___init___0) (S' := bS_Sieve___init___0) (G' := bG_Sieve___init___0) (B' := bB_Sieve___init___0) b3 hc (by kernel_rfl) (fun x hx => nomatch hx)
        walk_at "w"
        refine ⟨Same.refl _, ?_⟩
        rw [hst, hb2, hP, if_pos rfl, List.map_append]; rfl
      | false =>
        refine ite_f ?_
        rw [hst, hb2, hP]; simp
    · walk_at "w"
      refine ⟨a, _, _, _, rfl, hS _ _ upd_same, SC.cls, SC.nm, (by show 1 < 1000; decide), ?_⟩
      walk_at "w"
      have hDa2 : D ≠ a := fun z => by
        rw [z, upd_same] at hD
        cases hD
      refine q m _ gm km dm (fun b o hb2 ho => ?_) ⟨gm, dx, D, upd_same, ?_⟩
      · rw [upd_ne hb2]
        exact hS _ _ (by rw [upd_ne hb2]; exact e1 _ _ ho)
      · rw [upd_ne hDa2, hDa, hP]
        have e : (sOf m).cps.size = m.length := hml
        rw [e]; rfl
/-- what C(pattern) promises -/
def spMkSv (K : PySem.W.Frag) (l : List Bool) (H : Hp) (Q : VK) : Prop := Pat l ∧ ∀ a m H', Same H H' → Good m → (∀ n, kp m n = kp l n) → m.length ∣ l.length → SieveAt K H' a m → Q (.ref a) H'
theorem made_sv {H : Hp} {Q : VK} {E : XK} {l : List Bool} (h : spMkSv K l H Q) : Made (cS K) (spSvInit K) [.str (sOf l)] H Q E := by
  intro x dx H2 h1 h2 h3 e h4 h5
  refine ⟨x, dx, l, rfl, h5, h.1, fun m H' gm km dm hf hs => ⟨rfl, h.2 x m H' (fun b o ho => ?_) gm km dm hs⟩⟩
  exact hf b o (fun z => by rw [z, h1] at ho; cases ho) (e _ _ ho)
def spEvery (K : PySem.W.Frag) : Sp := fun vs H Q _ => vs = [.ref (cS K)] ∧ ∀ a H', Same H H' → SieveAt K H' a [true] → Q (.ref a) H'
theorem good_one : Good [true] := ⟨⟨by decide, by decide, by decide⟩, fun d h1 h2 => by
  have : d < 1 := h2
  omega⟩
structure SvP (P : Program) (w : World) (K : PySem.W.Frag) (mg : Str → Option Value) (base : Heap) (m : Str) (sp : Sp) : Prop where
  ex : ∃ p g, PropOf K (cS K) m p g ∧ FnR P w K mg base (L2.CX P w) 3 g sp
/-- o.m, a property of a sieve -/
theorem a_svp {X : Cx} {m : Str} {σ : L2.St} {H : Hp} {Q : VK} {sp : Sp} {j : Nat} {a : Addr} {l : List Bool} (SC : SvC X.K X.mg) (F : SvP X.prog X.w X.K X.mg X.base m sp) (hr : Room j X.A) (hj : 4 ≤ j) (hs : SieveAt X.K H a l) (q : sp [.ref a] H Q E0) : WAt X (.ref a) m σ H Q := by
  obtain ⟨p, g, c, F⟩ := F.ex
  obtain ⟨_, dx, p2, ha, _⟩ := hs
  exact a_prop (E := E0) SC.cls c F (hr.mono hj) ha q
def spPat (K : PySem.W.Frag) : Sp := fun vs H Q _ => ∃ a l, vs = [.ref a] ∧ SieveAt K H a l ∧ Q (.str (sOf l)) H
def spPer (K : PySem.W.Frag) : Sp := fun vs H Q _ => ∃ a l, vs = [.ref a] ∧ SieveAt K H a l ∧ Q (.int (l.length : Nat)) H
def spSize (K : PySem.W.Frag) : Sp := fun vs H Q _ => ∃ a l, vs = [.ref a] ∧ SieveAt K H a l ∧ Q (.int (ct (kp l) l.length : Nat)) H
theorem ok_Sieve_pattern (F : FunD K "pattern" "Sieve.pattern" (defArgs s_Sieve_pattern) (defBody s_Sieve_pattern) (defScope s_Sieve_pattern) [] [] f fd) (hb : ∀ x ∈ BB, mg x = none) (SC : SvC K mg) : FnR P w K mg base (L2.CX P w) 3 f (spPat K) := by
  refine FnR.mono (fnr_of (k := 1) F sc_Sieve_pattern (fun vs H Q E h => ?_) (fun kV doc pm an cdv ct us hl => match us, hl with | [_], _ => rfl) (fun x hx => hb x (by revert x; decide +kernel)) fun cd A outer s H vs Q E hr hc h => ?_) (by decide)
  · obtain ⟨a, l, rfl, _⟩ := h; rfl
  · obtain ⟨a, l, rfl, ⟨g, dx, p, ha, hp⟩, q⟩ := h
    refine wl_start (σ' := [some (.ref a)]) rfl (wl_cons ?_)
    walk_at "w"
    refine a_fld SC.cls SC.nt ha rfl ?_
    exact q
theorem ok_Sieve_period (F : FunD K "period" "Sieve.period" (defArgs s_Sieve_period) (defBody s_Sieve_period) (defScope s_Sieve_period) [] [] f fd) (hb : ∀ x ∈ BB, mg x = none) (SC : SvC K mg) : FnR P w K mg base (L2.CX P w) 3 f (spPer K) := by
  refine FnR.mono (fnr_of (k := 1) F sc_Sieve_period (fun vs H Q E h => ?_) (fun kV doc pm an cdv ct us hl => match us, hl with | [_], _ => rfl) (fun x hx => hb x (by revert x; decide +kernel)) fun cd A outer s H vs Q E hr hc h => ?_) (by decide)
  · obtain ⟨a, l, rfl, _⟩ := h; rfl
  · obtain ⟨a, l, rfl, ⟨g, dx, p, ha, hp⟩, q⟩ := h
    have hz : sizeLine = 16777216 := sizeLine_eq
    have hm := g.most
    refine wl_start (σ' := [some (.ref a)]) rfl (wl_cons ?_)
    walk_at "w"
    refine a_fld SC.cls SC.nt ha rfl ?_
    exact ⟨l.length, ⟨by rw [sOf_len]; omega, by rw [sOf_len]⟩, q⟩
def spKeptE (K : PySem.W.Frag) : Sp := fun vs H Q _ => ∃ (a : Addr) (l : List Bool) (v : V), vs = [.ref a, v] ∧ SieveAt K H a l ∧ ((∃ n : Nat, v = .int n ∧ Q (.bl (kp l n)) H) ∨ (Bad K H v 0 ∧ Q (.bl false) H))
theorem ok_Sieve_is_kept (F : FunD K "is_kept" "Sieve.is_kept" (defArgs s_Sieve_is_kept) (defBody s_Sieve_is_kept) (defScope s_Sieve_is_kept) [] [] f fd) (hb : ∀ x ∈ BB, mg x = none) (SC : SvC K mg) (h1 : Fn P w K mg base "is_integer" 2 (spIsInt K)) : FnR P w K mg base (L2.CX P w) 4 f (spKeptE K) := by
  refine fnr_of F sc_Sieve_is_kept (fun vs H Q E h => ?_) (fun kV doc pm an cdv ct us hl => match us, hl with | [_, _], _ => rfl) (fun x hx => hb x (by revert x; decide +kernel)) fun cd A outer s H vs Q E hr hc h => ?_
  · obtain ⟨a, l, n, rfl, _⟩ := h; rfl
  · obtain ⟨a, l, v, rfl, ⟨g, dx, p, ha, hp⟩, h⟩ := h
    have hz : sizeLine = 16777216 := sizeLine_eq
    have hm := g.most
    have h0 := g.one
    refine wl_start (σ' := [some (.ref a), some v]) rfl (wl_cons ?_)
    walk_at "w"
    refine w_call hc (by walk_at "mb") h1 hr (by decide) passL ?_
    walk_at "w"
    refine ⟨v, 0, .inr ⟨rfl, rfl⟩, ?_⟩
    rcases h with ⟨n, rfl, q⟩ | ⟨hn | ⟨i, rfl, hi⟩, q⟩
    · refine .inl ⟨_, rfl, ?_⟩
      rw [decide_eq_true (show (0 : Int) ≤ (n : Nat) by omega)]
      walk_at "w"
      refine a_fld SC.cls SC.nt ha rfl ?_
      walk_at "w"
      refine a_fld SC.cls SC.nt ha rfl ?_
      refine ⟨l.length, ⟨by rw [sOf_len]; omega, by rw [sOf_len]⟩, ?_⟩
      refine b_mod (by omega) ?_
      have hi : n % l.length < l.length := Nat.mod_lt _ h0
      refine ix_s (by rw [sOf_len]; omega) (sOf_at (i := n % l.length) (by simp) hi) ?_
      walk_at "w"
      rw [dec_plus]
      have e : l[n % l.length] = kp l n := by rw [← kp_lt hi, (kp_per l).mod]
      rw [e]
      exact q
    · refine .inr ⟨hn, ?_⟩
      walk_at "w"
      exact q
    · refine .inl ⟨i, rfl, ?_⟩
      rw [decide_eq_false (show ¬ (0 : Int) ≤ i by omega)]
      walk_at "w"
      exact q
theorem mul_small {i j : Int} (h0 : 0 ≤ j) (h : j ≤ 1000000000) : IntMulOk i j := .of_right (intBits_le_64 (by omega) (by omega))
theorem mul_small' {i j : Int} (h0 : 0 ≤ i) (h : i ≤ 1000000000) : IntMulOk i j := .of_left (intBits_le_64 (by omega) (by omega))
def spNth (K : PySem.W.Frag) : Sp := fun vs H Q _ => ∃ (a : Addr) (l : List Bool) (i : Nat), vs = [.ref a, .int i] ∧ SieveAt K H a l ∧ ∀ n H', Same H H' → kp l n = true → ct (kp l) n = i → Q (.int (n : Nat)) H'
theorem va_Sieve_nth (F : FunD K "nth" "Sieve.nth" (defArgs s_Sieve_nth) (defBody s_Sieve_nth) (defScope s_Sieve_nth) [] [] f fd) (hb : ∀ x ∈ BB, mg x = none) (SC : SvC K mg) (h1 : Fn P w K mg base "check_number" 3 spCheckN) : FnR P w K mg base (L2.CX P w) 4 f (spNth K) := by
  refine fnr_of F sc_Sieve_nth (fun vs H Q E h => ?_) (fun kV doc pm an cdv ct us hl => match us, hl with | [_, _], _ => rfl) (fun x hx => hb x (by revert x; decide +kernel)) fun cd A outer s H vs Q E hr hc h => ?_
  · obtain ⟨a, l, n, rfl, _⟩ := h; rfl
  · obtain ⟨a, l, i, rfl, hs, q⟩ := h
    obtain ⟨g, dx, p, ha, hp⟩ := hs
    have hz : sizeLine = 16777216 := sizeLine_eq
    have hm := g.most
    have h0 := g.one
    have hsz := g.toPat.size
    have hsz2 := ct_le (kp l) l.length
    refine wl_start (σ' := [some (.ref a), some (.int i), none, none]) rfl (wl_cons ?_)
    walk_at "w"
    refine w_call hc (by walk_at "mb") h1 hr (by decide) passL ?_
    walk_at "w"
    refine ⟨_, rfl, by omega, ?_⟩
    walk_at "w"
    refine ws_asg ?_
    walk_at "w"
    refine a_fld SC.cls SC.nm ha rfl ?_
    refine ⟨_, .inl ⟨_, .inl (.inl hp), rfl⟩, ?_⟩
    rw [List.length_map, marks_len]
    refine ⟨_, _, rfl, rfl, ⟨by omega, by omega⟩, fun T H1 hT e1 hT1 => ?_⟩
    refine wg_tup hc (.inl (.inl hT1)) ?_
    walk_at "w"
    refine a_fld SC.cls SC.nt (e1 _ _ ha) rfl ?_
    refine ⟨l.length, ⟨by rw [sOf_len]; omega, by rw [sOf_len]⟩, ?_⟩
    refine b_mul (mul_small (by omega) (by omega)) ?_
    walk_at "w"
    refine a_fld SC.cls SC.nm (e1 _ _ ha) rfl ?_
    walk_at "w"
    have hr2 : i % ct (kp l) l.length < ct (kp l) l.length := Nat.mod_lt _ hsz
    obtain ⟨m, e2, m1, m2, m3⟩ := filter_range hr2
    refine ix_l (.inl (.inl (e1 _ _ hp))) (at_of (i := i % ct (kp l) l.length) (v := .int (m : Nat)) (by simp) (by rw [List.getElem?_map, marks_eq, e2]; rfl)) ?_
    walk_at "w"
    have e3 : (i : Int) / (ct (kp l) l.length : Nat) * (l.length : Nat) + (m : Nat) = ((i / ct (kp l) l.length * l.length + m : Nat) : Int) := by simp
    rw [e3]
    refine q _ _ e1 ?_ ?_
    · rw [Nat.add_comm, (kp_per l).mul]; exact m2
    · rw [ct_mul (kp_per l), m3, Nat.mul_comm, Nat.div_add_mod]
/-- the argument is no number -/
def erNth (K : PySem.W.Frag) : Sp := fun vs H _ E => ∃ (a : Addr) (v : V), vs = [.ref a, v] ∧ Bad K H v 0 ∧ Rs K "InvalidNumber" "value" v H E
theorem er_Sieve_nth (F : FunD K "nth" "Sieve.nth" (defArgs s_Sieve_nth) (defBody s_Sieve_nth) (defScope s_Sieve_nth) [] [] f fd) (hb : ∀ x ∈ BB, mg x = none) (h1 : Fn P w K mg base "check_number" 3 (spCheckE K)) : FnR P w K mg base (L2.CX P w) 4 f (erNth K) := by
  refine fnr_of F sc_Sieve_nth (fun vs H Q E h => ?_) (fun kV doc pm an cdv ct us hl => match us, hl with | [_, _], _ => rfl) (fun x hx => hb x (by revert x; decide +kernel)) fun cd A outer s H vs Q E hr hc h => ?_
  · obtain ⟨a, v, rfl, _⟩ := h; rfl
  · obtain ⟨a, v, rfl, hB, hE⟩ := h
    refine wl_start (σ' := [some (.ref a), some v, none, none]) rfl (wl_cons ?_)
    walk_at "w"
    refine w_callA hc (by walk_at "mb") h1 hr (by decide) (passA takes_cx _) ?_
    walk_at "w"
    exact ⟨v, rfl, .inr ⟨hB, hE⟩⟩
def spNthE (K : PySem.W.Frag) : Sp := fun vs H Q E => spNth K vs H Q E ∨ erNth K vs H Q E
theorem ok_Sieve_nth (F : FunD K "nth" "Sieve.nth" (defArgs s_Sieve_nth) (defBody s_Sieve_nth) (defScope s_Sieve_nth) [] [] f fd) (hb : ∀ x ∈ BB, mg x = none) (SC : SvC K mg) (h1 : Fn P w K mg base "check_number" 3 (spCheckE K)) : FnR P w K mg base (L2.CX P w) 4 f (spNthE K) := by exact fnr_or (va_Sieve_nth F hb SC (wk_check_number h1)) (er_Sieve_nth F hb h1)
theorem wk_Sieve_nth (h : Mth P w K mg base (cS K) "nth" 4 (spNthE K)) : Mth P w K mg base (cS K) "nth" 4 (spNth K) := by
  obtain ⟨f, a, b, F⟩ := h.ex
  exact ⟨f, a, b, F.imp fun vs H Q E h => .inl h⟩

def spRank (K : PySem.W.Frag) : Sp := fun vs H Q _ => ∃ (a : Addr) (l : List Bool) (n : Nat), vs = [.ref a, .int n] ∧ SieveAt K H a l ∧ ∀ H', Same H H' → Q (.int (ct (kp l) n : Nat)) H'
theorem va_Sieve_rank (F : FunD K "rank" "Sieve.rank" (defArgs s_Sieve_rank) (defBody s_Sieve_rank) (defScope s_Sieve_rank) [] [] f fd) (hb : ∀ x ∈ BB, mg x = none) (SC : SvC K mg) (h1 : Fn P w K mg base "check_number" 3 spCheckN) : FnR P w K mg base (L2.CX P w) 4 f (spRank K) := by
  refine fnr_of F sc_Sieve_rank (fun vs H Q E h => ?_) (fun kV doc pm an cdv ct us hl => match us, hl with | [_, _], _ => rfl) (fun x hx => hb x (by revert x; decide +kernel)) fun cd A outer s H vs Q E hr hc h => ?_
  · obtain ⟨a, l, n, rfl, _⟩ := h; rfl
  · obtain ⟨a, l, i, rfl, hs, q⟩ := h
    obtain ⟨g, dx, p, ha, hp⟩ := hs
    have hz : sizeLine = 16777216 := sizeLine_eq
    have hm := g.most
    have h0 := g.one
    have hsz := g.toPat.size
    have hsz2 := ct_le (kp l) l.length
    refine wl_start (σ' := [some (.ref a), some (.int i), none, none]) rfl (wl_cons ?_)
    walk_at "w"
    refine w_call hc (by walk_at "mb") h1 hr (by decide) passL ?_
    walk_at "w"
    refine ⟨_, rfl, by omega, ?_⟩
    walk_at "w"
    refine ws_asg ?_
    walk_at "w"
    refine a_fld SC.cls SC.nt ha rfl ?_
    refine ⟨l.length, ⟨by rw [sOf_len]; omega, by rw [sOf_len]⟩, ?_⟩
    refine ⟨_, _, rfl, rfl, ⟨by omega, by omega⟩, fun T H1 hT e1 hT1 => ?_⟩
    refine wg_tup hc (.inl (.inl hT1)) ?_
    walk_at "w"
    refine a_fld SC.cls SC.nm (e1 _ _ ha) rfl ?_
    refine ⟨_, .inl ⟨_, .inl (.inl (e1 _ _ hp)), rfl⟩, ?_⟩
    rw [List.length_map, marks_len]
    refine b_mul (mul_small (by omega) (by omega)) ?_
    refine w_count ?_
    walk_at "w"
    refine a_fld SC.cls SC.nt (e1 _ _ ha) rfl ?_
    walk_at "w"
    have hr2 : i % l.length < l.length := Nat.mod_lt _ h0
    refine sl_s (by rw [sOf_len]; omega) ?_
    rw [cut_to l (d := i % l.length) (by simp) (by omega)]
    walk_at "w"
    rw [count_sOf, countP_take (by omega)]
    walk_at "w"
    have e3 : (i : Int) / (l.length : Nat) * (ct (kp l) l.length : Nat) + (ct (kp l) (i % l.length) : Nat) = ((ct (kp l) i : Nat) : Int) := by
      rw [ct_mod (kp_per l) i]; simp
    rw [e3]
    exact q _ e1
/-- the argument is no number -/
def erRank (K : PySem.W.Frag) : Sp := fun vs H _ E => ∃ (a : Addr) (v : V), vs = [.ref a, v] ∧ Bad K H v 0 ∧ Rs K "InvalidNumber" "value" v H E
theorem er_Sieve_rank (F : FunD K "rank" "Sieve.rank" (defArgs s_Sieve_rank) (defBody s_Sieve_rank) (defScope s_Sieve_rank) [] [] f fd) (hb : ∀ x ∈ BB, mg x = none) (h1 : Fn P w K mg base "check_number" 3 (spCheckE K)) : FnR P w K mg base (L2.CX P w) 4 f (erRank K) := by
  refine fnr_of F sc_Sieve_rank (fun vs H Q E h => ?_) (fun kV doc pm an cdv ct us hl => match us, hl with | [_, _], _ => rfl) (fun x hx => hb x (by revert x; decide +kernel)) fun cd A outer s H vs Q E hr hc h => ?_
  · obtain ⟨a, v, rfl, _⟩ := h; rfl
  · obtain ⟨a, v, rfl, hB, hE⟩ := h
    refine wl_start (σ' := [some (.ref a), some v, none, none]) rfl (wl_cons ?_)
    walk_at "w"
    refine w_callA hc (by walk_at "mb") h1 hr (by decide) (passA takes_cx _) ?_
    walk_at "w"
    exact ⟨v, rfl, .inr ⟨hB, hE⟩⟩
def spRankE (K : PySem.W.Frag) : Sp := fun vs H Q E => spRank K vs H Q E ∨ erRank K vs H Q E
theorem ok_Sieve_rank (F : FunD K "rank" "Sieve.rank" (defArgs s_Sieve_rank) (defBody s_Sieve_rank) (defScope s_Sieve_rank) [] [] f fd) (hb : ∀ x ∈ BB, mg x = none) (SC : SvC K mg) (h1 : Fn P w K mg base "check_number" 3 (spCheckE K)) : FnR P w K mg base (L2.CX P w) 4 f (spRankE K) := by exact fnr_or (va_Sieve_rank F hb SC (wk_check_number h1)) (er_Sieve_rank F hb h1)
theorem wk_Sieve_rank (h : Mth P w K mg base (cS K) "rank" 4 (spRankE K)) : Mth P w K mg base (cS K) "rank" 4 (spRank K) := by
  obtain ⟨f, a, b, F⟩ := h.ex
  exact ⟨f, a, b, F.imp fun vs H Q E h => .inl h⟩
def spSvEq (K : PySem.W.Frag) : Sp := fun vs H Q _ => ∃ (a b : Addr) (l m : List Bool), vs = [.ref a, .ref b] ∧ SieveAt K H a l ∧ SieveAt K H b m ∧ Q (.bl (decide (l = m))) H
theorem ok_Sieve___eq__ (F : FunD K "__eq__" "Sieve.__eq__" (defArgs s_Sieve___eq__) (defBody s_Sieve___eq__) (defScope s_Sieve___eq__) [] [] f fd) (hb : ∀ x ∈ BB, mg x = none) (SC : SvC K mg) : FnR P w K mg base (L2.CX P w) 4 f (spSvEq K) := by
  refine fnr_of F sc_Sieve___eq__ (fun vs H Q E h => ?_) (fun kV doc pm an cdv ct us hl => match us, hl with | [_, _], _ => rfl) (fun x hx => hb x (by revert x; decide +kernel)) fun cd A outer s H vs Q E hr hc h => ?_
  · obtain ⟨a, b, l, n, rfl, _⟩ := h; rfl
  · obtain ⟨a, b, l, m, rfl, ⟨g, dx, p, ha, hp⟩, ⟨g2, dx2, p2, hb2, hp2⟩, q⟩ := h
    refine wl_start (σ' := [some (.ref a), some (.ref b)]) rfl (wl_cons ?_)
    walk_at "w"
    refine x_isiC hc (by walk_at "mb") (by walk_at "mb") SC.g ?_
    walk_at "w"
    refine ⟨_, true, SC.eqT hb2, kit_own, ?_⟩
    walk_at "w"
    refine a_fld SC.cls SC.nt ha rfl ?_
    walk_at "w"
    refine a_fld SC.cls SC.nt hb2 rfl ?_
    walk_at "w"
    have e : decide (sOf l = sOf m) = decide (l = m) := by
      by_cases h : l = m
      · rw [decide_eq_true h, decide_eq_true (congrArg sOf h)]
      · rw [decide_eq_false h, decide_eq_false (fun z => h (sOf_inj z))]
    rw [e]
    exact q
def spGcd : Sp := fun vs H Q _ => ∃ a b : Nat, vs = [.int a, .int b] ∧ Q (.int (Nat.gcd a b : Nat)) H
def spLcm : Sp := fun vs H Q _ => ∃ a b : Nat, vs = [.int a, .int b] ∧ 0 < a ∧ a < 1000000000 ∧ 0 < b ∧ b < 1000000000 ∧ Q (.int (Nat.lcm a b : Nat)) H
def spLimit : Sp := fun vs H Q _ => ∃ p : Nat, vs = [.int p] ∧ p ≤ 10000 ∧ Q .non H
def spSvFrom (K : PySem.W.Frag) : Sp := fun vs H Q _ => ∃ (a : Addr) (ns : List Int) (p : Nat), vs = [.ref a, .int (p : Nat)] ∧ SqL K H a (ns.map V.int) ∧ ns.length < 4090 ∧ 0 < p ∧ p ≤ 10000 ∧
  ((ns = [] ∧ Q .non H) ∨ ∃ f : Nat → Bool, ns ≠ [] ∧ Per f p ∧ (∃ i, f i = true) ∧ (∀ i, i < p → (ns.any (· == ((i : Nat) : Int))) = f i) ∧ ∀ b m H', Same H H' → (∀ n, kp m n = f n) → m.length ∣ p → SieveAt K H' b m → Q (.ref b) H')
/-- the numbers that survivors hands out -/
def surv (f : Nat → Bool) (i j : Nat) : List Nat := sel (fun n => decide (i ≤ n) && f n) j
theorem sel_gap {g : Nat → Bool} {M M' : Nat} (h : M ≤ M') (k : ∀ m, M ≤ m → m < M' → g m = false) : sel g M' = sel g M := by
  induction h with
  | refl => rfl
  | step h ih =>
    rename_i m
    rw [sel_step, k m h (by omega), ih fun m' h1 h2 => k m' h1 (by omega)]
    simp
theorem ct_gap {f : Nat → Bool} {M M' : Nat} (h : ct f M = ct f M') {m : Nat} (h1 : M ≤ m) (h2 : m < M') : f m = false := by
  cases e : f m with
  | false => rfl
  | true =>
    have a := ct_mono f h1
    have b := ct_lt e h2
    omega
def spSurv (K : PySem.W.Frag) : SpG := fun vs H Q _ => ∃ (a : Addr) (l : List Bool) (i j : Nat), vs = [.ref a, .int i, .int j] ∧ SieveAt K H a l ∧ i < 1000000000 ∧ j < 1000000000 ∧ ct (kp l) j < 16000000 ∧ ∀ H', Same H H' → Q (((surv (kp l) i j).map fun n => ((n : Nat) : Int)).map V.int) H'
/-- from any number to any number, if not too many are handed out -/
def spSurvB (K : PySem.W.Frag) : SpG := fun vs H Q _ => ∃ (a : Addr) (l : List Bool) (i j : Nat), vs = [.ref a, .int i, .int j] ∧ SieveAt K H a l ∧ ct (kp l) (max i j) - ct (kp l) i < 16000000 ∧ ∀ H', Same H H' → Q (((surv (kp l) i j).map fun n => ((n : Nat) : Int)).map V.int) H'
theorem spSurv_B {K : PySem.W.Frag} {vs : List V} {H : Hp} {Q : List V → Hp → Prop} {E : XK} (h : spSurv K vs H Q E) : spSurvB K vs H Q E := by
  obtain ⟨a, l, i, j, rfl, ha, hi, hj, hcap, q⟩ := h
  refine ⟨a, l, i, j, rfl, ha, ?_, q⟩
  have hij : ct (kp l) (max i j) ≤ ct (kp l) i + ct (kp l) j := by
    rcases Nat.le_total i j with z | z
    · rw [Nat.max_eq_right z]; omega
    · rw [Nat.max_eq_left z]; omega
  omega
theorem ct_from {f : Nat → Bool} {i : Nat} : ∀ m, i ≤ m → ct f m = ct f i + ct (fun n => decide (i ≤ n) && f n) m := fun m hm => by
  induction hm with
  | refl =>
    have : ∀ m, m ≤ i → ct (fun n => decide (i ≤ n) && f n) m = 0 := fun m => by
      induction m with
      | zero => intro _; rfl
      | succ m ih =>
        intro h
        rw [ct_succ_f (by show (decide (i ≤ m) && f m) = false; rw [decide_eq_false (by omega)]; rfl)]
        exact ih (by omega)
    rw [this i (Nat.le_refl _)]; omega
  | step h ih =>
    rename_i m
    rw [ct_succ, ct_succ, ih]
    rw [show (decide (i ≤ m) && f m) = f m by rw [decide_eq_true (show i ≤ m from h)]; rfl]
    omega
theorem va_Sieve_survivors (F : FunD K "survivors" "Sieve.survivors" (defArgs s_Sieve_survivors) (defBody s_Sieve_survivors) (defScope s_Sieve_survivors) [] [] f fd) (hb : ∀ x ∈ BB, mg x = none) (SC : SvC K mg) (h1 : Fn P w K mg base "check_number" 3 spCheckN) (h3 : Mth P w K mg base (cS K) "nth" 4 (spNth K)) (h4 : Mth P w K mg base (cS K) "rank" 4 (spRank K)) : GFn P w K mg base 5 f fd ["self", "start", "stop"] (spSurvB K) := by
  refine gfn_by F sc_Sieve_survivors (fun vs H Q E h => ?_) (fun x hx => hb x (by revert x; decide +kernel)) fun cd A outer s H vs Q E pn hr hc h => ?_
  · obtain ⟨a, l, i, j, rfl, _⟩ := h; rfl
  · obtain ⟨a, l, i, j, rfl, ha, hcap, q⟩ := h
    have hz : sizeLine = 16777216 := sizeLine_eq
    have hci := ct_le (kp l) i
    have hcj := ct_le (kp l) j
    refine wl_startG (σ' := [some (.ref a), some (.int i), some (.int j), none]) rfl (gwl_cons ?_)
    refine gws_plain ?_
    walk_at "w"
    refine w_call hc (by walk_at "mb") h1 hr (by decide) passL ?_
    walk_at "w"
    refine ⟨_, rfl, by omega, ?_⟩
    refine gwl_cons ?_
    refine gws_plain ?_
    walk_at "w"
    refine w_call hc (by walk_at "mb") h1 hr (by decide) passL ?_
    walk_at "w"
    refine ⟨_, rfl, by omega, ?_⟩
    refine gwl_cons ?_
    refine gws_for owns_gcx hc ?_
    refine wi_range2B hc (by walk_at "mb") ?_
    refine w_meth h4 hr (by decide) passL ?_
    walk_at "w"
    obtain ⟨_, dx, p, hi1, hi2⟩ := id ha
    refine ⟨_, _, _, rfl, hi1, rfl, ?_⟩
    walk_at "w"
    refine ⟨a, l, i, rfl, ha, fun H1 e1 => ?_⟩
    refine w_meth h4 hr (by decide) passL ?_
    walk_at "w"
    refine ⟨_, _, _, rfl, e1 _ _ hi1, rfl, ?_⟩
    walk_at "w"
    refine ⟨_, _, rfl, rfl, ?_⟩
    walk_at "w"
    have ej : (if ((j : Nat) : Int) > ((i : Nat) : Int) then ((j : Nat) : Int) else ((i : Nat) : Int)) = ((max i j : Nat) : Int) := by split <;> omega
    refine ⟨a, l, max i j, congrArg (fun z => [V.ref a, V.int z]) ej, ha.same e1, fun H2 e2 => ?_⟩
    have hmx : ct (kp l) (max i j) ≤ max i j := ct_le _ _
    have hmono := ct_mono (kp l) (show i ≤ max i j by omega)
    have s2 : Same H H2 := e1.trans e2
    refine ⟨_, _, rfl, rfl, ?_⟩
    refine ⟨_, _, wlk_range, fun t ys σ' H' => Same H2 H' ∧ (∃ o, σ' = [some (.ref a), some (.int i), some (.int j), o]) ∧ t ≤ ct (kp l) (max i j) - ct (kp l) i ∧ ∃ M, i ≤ M ∧ ct (kp l) M = ct (kp l) i + t ∧ ys = ((sel (fun n => decide (i ≤ n) && kp l n) M).map fun n => ((n : Nat) : Int)).map V.int, ⟨Same.refl _, ⟨_, rfl⟩, Nat.zero_le _, i, Nat.le_refl _, rfl, ?_⟩, fun t ys σ' H' h => h.1, fun t ys σ' H' ht ⟨eS, ⟨o, hσ⟩, htl, M, hM, hMc, hys⟩ => ?_, fun ys σ' H' ⟨eS, ⟨o, hσ⟩, htl, M, hM, hMc, hys⟩ => ?_⟩
    · have : sel (fun n => decide (i ≤ n) && kp l n) i = [] := by
        have := sel_gap (g := fun n => decide (i ≤ n) && kp l n) (M := 0) (M' := i) (Nat.zero_le _) fun m _ h2 => by
          show (decide (i ≤ m) && kp l m) = false
          rw [decide_eq_false (by omega)]; rfl
        rw [this]; rfl
      rw [this]; rfl
    · subst hσ
      have ht2 : t < ct (kp l) (max i j) - ct (kp l) i := by omega
      refine wg_name hc (by walk_at "put") (by walk_at "mb") ?_
      refine gwl_cons ?_
      have hlen : ys.length < sizeLine := by
        rw [hys, List.length_map, List.length_map, sel_len]
        have := ct_from (f := kp l) M hM
        omega
      refine gws_yield hlen ?_ (by kernel_rfl) (by with_unfolding_all rfl)
      refine w_meth h3 hr (by decide) passL ?_
      walk_at "w"
      have ha2 := ha.same (s2.trans eS)
      obtain ⟨_, dx2, p2, hi3, hi4⟩ := id ha2
      refine ⟨_, _, _, rfl, hi3, rfl, ?_⟩
      walk_at "w"
      refine ⟨a, l, ct (kp l) i + t, congrArg (fun z => [V.ref a, V.int z]) (by omega), ha2, fun n H3 e3 k1 k2 => ?_⟩
      refine gwl_nil ?_
      have hMn : M ≤ n := by
        rcases Nat.lt_or_ge n M with z | z
        · have := ct_lt k1 z
          omega
        · exact z
      refine ⟨eS.trans e3, ⟨_, rfl⟩, by omega, n + 1, by omega, by rw [ct_succ_t k1, k2]; omega, ?_⟩
      have hgap : sel (fun n => decide (i ≤ n) && kp l n) n = sel (fun n => decide (i ≤ n) && kp l n) M := sel_gap hMn fun m h1 h2 => by
        show (decide (i ≤ m) && kp l m) = false
        rw [ct_gap (f := kp l) (M := M) (M' := n) (by omega) h1 h2, Bool.and_false]
      rw [hys, sel_step, hgap]
      have hn : (decide (i ≤ n) && kp l n) = true := by rw [k1, decide_eq_true (by omega)]; rfl
      rw [if_pos hn, List.map_append, List.map_append]; rfl
    · refine gwl_nil ?_
      have e9 : ct (kp l) M = ct (kp l) (max i j) := by omega
      have e10 : sel (fun n => decide (i ≤ n) && kp l n) M = surv (kp l) i j := by
        have gm : ∀ {a b : Nat}, ct (kp l) a = ct (kp l) b → a ≤ b → sel (fun n => decide (i ≤ n) && kp l n) b = sel (fun n => decide (i ≤ n) && kp l n) a := fun {a b} e hab => sel_gap hab fun m h1 h2 => by
          show (decide (i ≤ m) && kp l m) = false
          rw [ct_gap (f := kp l) e h1 h2, Bool.and_false]
        have e11 : sel (fun n => decide (i ≤ n) && kp l n) M = sel (fun n => decide (i ≤ n) && kp l n) (max i j) := by
          rcases Nat.le_total M (max i j) with z | z
          · exact (gm e9 z).symm
          · exact gm e9.symm z
        rw [e11]
        unfold surv
        refine sel_gap (by omega) fun m h1 h2 => ?_
        show (decide (i ≤ m) && kp l m) = false
        rw [decide_eq_false (by omega)]; rfl
      rw [hys, e10]
      exact q _ (s2.trans eS)
theorem gfn_or {P : Program} {w : World} {K : PySem.W.Frag} {mg : Str → Option Value} {base : Heap} {k : Nat} {f : Addr} {fd : FuncData} {ps : List Str} {sp1 sp2 : L2.SpG} (h1 : GFn P w K mg base k f fd ps sp1) (h2 : GFn P w K mg base k f fd ps sp2) : GFn P w K mg base k f fd ps (fun vs H Q E => sp1 vs H Q E ∨ sp2 vs H Q E) :=
  ⟨fun vs H Q E h => h.elim (h1.len vs H Q E) (h2.len vs H Q E), fun A outer s H args us vs Q E hr e0 bt r h => h.elim (h1.run A outer s H args us vs Q E hr e0 bt r) (h2.run A outer s H args us vs Q E hr e0 bt r)⟩
theorem takes_gcx {P : Program} {w : World} {K : PySem.W.Frag} {mg : Str → Option Value} {base : Heap} {N : List Str} {qual : Str} {sc : Scope} {f : Addr} {cd : Value} {A : Around} {outer : List Env} {s : Shared} {H : Hp} {E : XK} {pn : List (Addr × Obj)} : Takes (gcx P w K mg base N qual sc f cd A outer s H E pn) (fun cls d _ H' => E cls d H') := fun u s' x =>
  XE.leaveG (W := fun cls d _ H => E cls d H) (E := E) rfl rfl rfl (fun _ _ _ _ h => h) x
/-- one of the arguments is no number -/
def erSurv (K : PySem.W.Frag) : L2.SpG := fun vs H _ E => ∃ (a : Addr) (v1 v2 : V), vs = [.ref a, v1, v2] ∧ ((Bad K H v1 0 ∧ Rs K "InvalidNumber" "value" v1 H E) ∨ ∃ i : Int, v1 = .int i ∧ 0 ≤ i ∧ Bad K H v2 0 ∧ Rs K "InvalidNumber" "value" v2 H E)
theorem er_Sieve_survivors (F : FunD K "survivors" "Sieve.survivors" (defArgs s_Sieve_survivors) (defBody s_Sieve_survivors) (defScope s_Sieve_survivors) [] [] f fd) (hb : ∀ x ∈ BB, mg x = none) (h1 : Fn P w K mg base "check_number" 3 (spCheckE K)) : GFn P w K mg base 5 f fd ["self", "start", "stop"] (erSurv K) := by
  refine gfn_by F sc_Sieve_survivors (fun vs H Q E h => ?_) (fun x hx => hb x (by revert x; decide +kernel)) fun cd A outer s H vs Q E pn hr hc h => ?_
  · obtain ⟨a, v1, v2, rfl, _⟩ := h; rfl
  · obtain ⟨a, v1, v2, rfl, h⟩ := h
    refine wl_startG (σ' := [some (.ref a), some v1, some v2, none]) rfl (gwl_cons ?_)
    refine gws_plain ?_
    walk_at "w"
    refine w_callA hc (by walk_at "mb") h1 hr (by decide) (passA takes_gcx _) ?_
    walk_at "w"
    rcases h with ⟨hB, hE⟩ | ⟨i, rfl, hi, hB, hE⟩
    · exact ⟨v1, rfl, .inr ⟨hB, hE⟩⟩
    · refine ⟨_, rfl, .inl ⟨i, rfl, hi, ?_⟩⟩
      refine gwl_cons ?_
      refine gws_plain ?_
      walk_at "w"
      refine w_callA hc (by walk_at "mb") h1 hr (by decide) (passA takes_gcx _) ?_
      walk_at "w"
      exact ⟨v2, rfl, .inr ⟨hB, hE⟩⟩
def spSurvE (K : PySem.W.Frag) : L2.SpG := fun vs H Q E => spSurvB K vs H Q E ∨ erSurv K vs H Q E
theorem ok_Sieve_survivors (F : FunD K "survivors" "Sieve.survivors" (defArgs s_Sieve_survivors) (defBody s_Sieve_survivors) (defScope s_Sieve_survivors) [] [] f fd) (hb : ∀ x ∈ BB, mg x = none) (SC : SvC K mg) (h1 : Fn P w K mg base "check_number" 3 (spCheckE K)) (h3 : Mth P w K mg base (cS K) "nth" 4 (spNth K)) (h4 : Mth P w K mg base (cS K) "rank" 4 (spRank K)) : GFn P w K mg base 5 f fd ["self", "start", "stop"] (spSurvE K) := by exact gfn_or (va_Sieve_survivors F hb SC (wk_check_number h1) h3 h4) (er_Sieve_survivors F hb h1)

/-! survivors beside other generators: code that leaves the table of generators as it is -/
theorem ql_start {Gn : Array GenState} {X : Cx} {sts : List Stmt} {D : Ends} {σ σ' : L2.St} {H : Hp} (e : σ = σ') (h : QL Gn X sts D σ' H) : QL Gn X sts D σ H := e ▸ h
theorem qz_start {Gn : Array GenState} {X : Cx} {sts : List Stmt} {nx : L2.St → Hp → Prop} {σ σ' : L2.St} {H : Hp} (e : σ = σ') (h : QZ Gn X sts σ' H nx) : QZ Gn X sts σ H nx := e ▸ h
def spIntQ : SpQ := fun vs H Q => ∃ i : Int, vs = [.int i] ∧ 0 ≤ i ∧ Q (.bl true) H
theorem qk_is_integer (F : FunD K "is_integer" "is_integer" (defArgs s_is_integer) (defBody s_is_integer) (defScope s_is_integer) [.int 0] [] f fd) (hb : ∀ x ∈ BB, mg x = none) : FnQ P w K mg base 2 f spIntQ := by
  obtain ⟨ds, rd, hB⟩ := F.binds1 (ps := ["value", "minimum"]) 1 0 (by simp) rfl fun T kV doc pm an cdv ct us its h1 h2 => match us, its, h1, h2 with
    | [u], [d], _, _ => ⟨_, rfl, rfl⟩
  refine fnq_of F sc_is_integer (fun vs H Q h => ?_) hB rd (fun x hx => hb x (by revert x; decide +kernel)) fun cd A outer s H vs Q Gn hr hc h => ?_
  · obtain ⟨i, rfl, _⟩ := h; rfl
  · obtain ⟨i, rfl, hi, q⟩ := h
    refine ql_start (σ' := [some (.int i), some (.int 0)]) rfl (ql_cons (qs_ret ?_))
    refine q_and (q_isi (T := "") (i := i) hc (by walk_at "mb") (by walk_at "mb") bt_int kit_self (q_name hc (by walk_at "at") (by walk_at "mb") ⟨rfl, rfl, ?_⟩))
    refine q_and (q_not (k := false) (q_isi (T := "") (i := i) hc (by walk_at "mb") (by walk_at "mb") bt_bool kit_int_bool (q_name hc (by walk_at "at") (by walk_at "mb") ⟨rfl, rfl, rfl, ?_⟩)))
    refine q_one (q_ge (q_name hc (by walk_at "at") (by walk_at "mb") (q_name hc (by walk_at "at") (by walk_at "mb") ⟨i, 0, rfl, rfl, ?_⟩)))
    rw [decide_eq_true hi]
    exact q
def spCheckQ : SpQ := fun vs H Q => ∃ i : Int, vs = [.int i] ∧ 0 ≤ i ∧ Q .non H
theorem qk_check_number (F : FunD K "check_number" "check_number" (defArgs s_check_number) (defBody s_check_number) (defScope s_check_number) [] [] f fd) (hb : ∀ x ∈ BB, mg x = none) (h1 : FnQn P w K mg base "is_integer" 2 spIntQ) : FnQ P w K mg base 3 f spCheckQ := by
  refine fnq_of (ws := []) (ds := []) F sc_check_number (fun vs H Q h => ?_) (F.bindsN fun _ _ _ _ _ _ us hl => match us, hl with | [_], _ => rfl) .nil (fun x hx => hb x (by revert x; decide +kernel)) fun cd A outer s H vs Q Gn hr hc h => ?_
  · obtain ⟨i, rfl, _⟩ := h; rfl
  · obtain ⟨i, rfl, hi, q⟩ := h
    refine ql_start (σ' := [some (.int i)]) rfl (ql_cons (qs_ifnot ?_))
    refine q_call hc (by walk_at "mb") h1 hr (by decide) (qa_cons (q_name hc (by walk_at "at") (by walk_at "mb") (qa_nil ?_)))
    exact ⟨i, rfl, hi, rfl, ql_nil (ql_nil q)⟩
def spRankQ (K : PySem.W.Frag) : SpQ := fun vs H Q => ∃ (a : Addr) (l : List Bool) (n : Nat), vs = [.ref a, .int n] ∧ n < 1000000 ∧ SieveAt K H a l ∧ ∀ H', Same H H' → Q (.int (ct (kp l) n : Nat)) H'
theorem qk_Sieve_rank (F : FunD K "rank" "Sieve.rank" (defArgs s_Sieve_rank) (defBody s_Sieve_rank) (defScope s_Sieve_rank) [] [] f fd) (hb : ∀ x ∈ BB, mg x = none) (SC : SvC K mg) (h1 : FnQn P w K mg base "check_number" 3 spCheckQ) : FnQ P w K mg base 4 f (spRankQ K) := by
  refine fnq_of (ws := []) (ds := []) F sc_Sieve_rank (fun vs H Q h => ?_) (F.bindsN fun _ _ _ _ _ _ us hl => match us, hl with | [_, _], _ => rfl) .nil (fun x hx => hb x (by revert x; decide +kernel)) fun cd A outer s H vs Q Gn hr hc h => ?_
  · obtain ⟨a, l, n, rfl, _⟩ := h; rfl
  · obtain ⟨a, l, i, rfl, hi, hs, q⟩ := h
    obtain ⟨g, dx, p, ha, hp⟩ := hs
    have hz : sizeLine = 16777216 := sizeLine_eq
    have hm := g.most
    have h0 := g.one
    have hsz := g.toPat.size
    have hsz2 := ct_le (kp l) l.length
    refine ql_start (σ' := [some (.ref a), some (.int i), none, none]) rfl (ql_cons (qs_expr ?_))
    refine q_call hc (by walk_at "mb") h1 hr (by decide) (qa_cons (q_name hc (by walk_at "at") (by walk_at "mb") (qa_nil ⟨_, rfl, by omega, ?_⟩)))
    refine ql_cons (qs_pair hc (by with_unfolding_all rfl) (by with_unfolding_all rfl) (by walk_at "mb") (by walk_at "mb") ?_)
    refine q_dm hc (by walk_at "mb") (q_name hc (by walk_at "at") (by walk_at "mb") ?_)
    refine q_len hc (by walk_at "mb") (q_attr (q_name hc (by walk_at "at") (by walk_at "mb") ⟨a, _, _, _, _, rfl, ha, SC.cls, SC.nt, rfl, .inl ⟨_, rfl, by rw [sOf_len]; omega, ?_⟩⟩))
    rw [sOf_len]
    refine ⟨_, _, rfl, rfl, ⟨by omega, by omega⟩, fun T H1 hT e1 hT1 => ?_⟩
    refine ⟨T, _, _, rfl, hT1, _, _, by walk_at "put", by walk_at "put", ?_⟩
    refine ql_cons (qs_ret ?_)
    have hq : (i : Int) / (l.length : Nat) ≤ i := Int.ediv_le_self _ (by omega)
    have hq0 : 0 ≤ (i : Int) / (l.length : Nat) := Int.ediv_nonneg (by omega) (by omega)
    have hr2 : i % l.length < l.length := Nat.mod_lt _ h0
    refine q_add (q_mul (q_name hc (by walk_at "at") (by walk_at "mb") ?_))
    refine q_len hc (by walk_at "mb") (q_attr (q_name hc (by walk_at "at") (by walk_at "mb") ⟨a, _, _, _, _, rfl, e1 _ _ ha, SC.cls, SC.nm, rfl, .inr ⟨p, _, rfl, .inl (.inl (e1 _ _ hp)), ?_⟩⟩))
    rw [List.length_map, marks_len]
    refine ⟨_, _, rfl, rfl, ⟨by omega, by omega⟩, ?_⟩
    refine q_count (q_upTo (q_attr (q_name hc (by walk_at "at") (by walk_at "mb") ⟨a, _, _, _, _, rfl, e1 _ _ ha, SC.cls, SC.nt, rfl, ?_⟩)))
    refine q_name hc (by walk_at "at") (by walk_at "mb") ⟨_, _, rfl, rfl, by rw [sOf_len]; omega, _, rfl, q_str ⟨_, rfl, _, _, rfl, rfl, ?_⟩⟩
    rw [cut_to l (d := i % l.length) (by simp) (by omega), count_sOf, countP_take (by omega)]
    have e3 : (i : Int) / (l.length : Nat) * (ct (kp l) l.length : Nat) + (ct (kp l) (i % l.length) : Nat) = ((ct (kp l) i : Nat) : Int) := by
      rw [ct_mod (kp_per l) i]; simp
    rw [e3]
    exact q _ e1
def spNthQ (K : PySem.W.Frag) : SpQ := fun vs H Q => ∃ (a : Addr) (l : List Bool) (i : Nat), vs = [.ref a, .int i] ∧ i < 1000000 ∧ SieveAt K H a l ∧ ∀ v H', Q v H'
theorem qk_Sieve_nth (F : FunD K "nth" "Sieve.nth" (defArgs s_Sieve_nth) (defBody s_Sieve_nth) (defScope s_Sieve_nth) [] [] f fd) (hb : ∀ x ∈ BB, mg x = none) (SC : SvC K mg) (h1 : FnQn P w K mg base "check_number" 3 spCheckQ) : FnQ P w K mg base 4 f (spNthQ K) := by
  refine fnq_of (ws := []) (ds := []) F sc_Sieve_nth (fun vs H Q h => ?_) (F.bindsN fun _ _ _ _ _ _ us hl => match us, hl with | [_, _], _ => rfl) .nil (fun x hx => hb x (by revert x; decide +kernel)) fun cd A outer s H vs Q Gn hr hc h => ?_
  · obtain ⟨a, l, n, rfl, _⟩ := h; rfl
  · obtain ⟨a, l, i, rfl, hi, hs, q⟩ := h
    obtain ⟨g, dx, p, ha, hp⟩ := hs
    have hz : sizeLine = 16777216 := sizeLine_eq
    have hm := g.most
    have h0 := g.one
    have hsz := g.toPat.size
    have hsz2 := ct_le (kp l) l.length
    refine ql_start (σ' := [some (.ref a), some (.int i), none, none]) rfl (ql_cons (qs_expr ?_))
    refine q_call hc (by walk_at "mb") h1 hr (by decide) (qa_cons (q_name hc (by walk_at "at") (by walk_at "mb") (qa_nil ⟨_, rfl, by omega, ?_⟩)))
    refine ql_cons (qs_pair hc (by with_unfolding_all rfl) (by with_unfolding_all rfl) (by walk_at "mb") (by walk_at "mb") ?_)
    refine q_dm hc (by walk_at "mb") (q_name hc (by walk_at "at") (by walk_at "mb") ?_)
    refine q_len hc (by walk_at "mb") (q_attr (q_name hc (by walk_at "at") (by walk_at "mb") ⟨a, _, _, _, _, rfl, ha, SC.cls, SC.nm, rfl, .inr ⟨p, _, rfl, .inl (.inl hp), ?_⟩⟩))
    rw [List.length_map, marks_len]
    refine ⟨_, _, rfl, rfl, ⟨by omega, by omega⟩, fun T H1 hT e1 hT1 => ?_⟩
    refine ⟨T, _, _, rfl, hT1, _, _, by walk_at "put", by walk_at "put", ?_⟩
    refine ql_cons (qs_ret ?_)
    have hq : (i : Int) / (ct (kp l) l.length : Nat) ≤ i := Int.ediv_le_self _ (by omega)
    have hq0 : 0 ≤ (i : Int) / (ct (kp l) l.length : Nat) := Int.ediv_nonneg (by omega) (by omega)
    refine q_add (q_mul (q_name hc (by walk_at "at") (by walk_at "mb") ?_))
    refine q_len hc (by walk_at "mb") (q_attr (q_name hc (by walk_at "at") (by walk_at "mb") ⟨a, _, _, _, _, rfl, e1 _ _ ha, SC.cls, SC.nt, rfl, .inl ⟨_, rfl, by rw [sOf_len]; omega, ?_⟩⟩))
    refine ⟨_, _, rfl, rfl, ⟨by omega, by omega⟩, ?_⟩
    have hr2 : i % ct (kp l) l.length < ct (kp l) l.length := Nat.mod_lt _ hsz
    obtain ⟨m, e2, m1, m2, m3⟩ := filter_range hr2
    refine q_ixL (q_attr (q_name hc (by walk_at "at") (by walk_at "mb") ⟨a, _, _, _, _, rfl, e1 _ _ ha, SC.cls, SC.nm, rfl, ?_⟩)) (fun _ _ => rfl)
    refine q_name hc (by walk_at "at") (by walk_at "mb") ⟨p, _, _, _, rfl, rfl, Int.emod_nonneg _ (by omega), .inl (.inl (e1 _ _ hp)), at_of (i := i % ct (kp l) l.length) (v := .int (m : Nat)) (by simp) (by rw [List.getElem?_map, marks_eq, e2]; rfl), ?_⟩
    exact ⟨_, _, rfl, rfl, q _ _⟩
/-- survivors, as the numbers come, between small numbers -/
def spSurvQ (K : PySem.W.Frag) : SpZ := fun vs T out => ∃ (a : Addr) (l : List Bool) (i j : Nat), vs = [.ref a, .int i, .int j] ∧ i < 1000000 ∧ j < 1000000 ∧ SieveAt K T a l ∧
  (∀ t n : Nat, ct (kp l) i + t < ct (kp l) (max i j) → kp l n = true → ct (kp l) n = ct (kp l) i + t → out t = some (.int (n : Nat))) ∧ ∀ t : Nat, ct (kp l) (max i j) ≤ ct (kp l) i + t → out t = none
theorem zq_Sieve_survivors (F : FunD K "survivors" "Sieve.survivors" (defArgs s_Sieve_survivors) (defBody s_Sieve_survivors) (defScope s_Sieve_survivors) [] [] f fd) (hb : ∀ x ∈ BB, mg x = none) (SC : SvC K mg) (h1 : Fn P w K mg base "check_number" 3 spCheckN) (h3 : Mth P w K mg base (cS K) "nth" 4 (spNth K)) (h4 : Mth P w K mg base (cS K) "rank" 4 (spRank K))
    (g1 : FnQn P w K mg base "check_number" 3 spCheckQ) (g3 : MtQn P w K mg base (cS K) "nth" 4 (spNthQ K)) (g4 : MtQn P w K mg base (cS K) "rank" 4 (spRankQ K)) : ZFnQ P w K mg base 5 f fd ["self", "start", "stop"] (spSurvQ K) := by
  refine zfnq_by F sc_Sieve_survivors (fun vs T out h => ?_) (fun x hx => hb x (by revert x; decide +kernel)) (fun n => by with_unfolding_all rfl) (fun cd A outer s0 T La vs out M ga go pn hr hc k0 h => ?_) fun cd A outer s0 T La vs out ga go pn Gn hr hc k0 h => ?_
  · obtain ⟨a, l, i, j, rfl, _⟩ := h; rfl
  · obtain ⟨a, l, i, j, rfl, _, _, ha, ho, he⟩ := h
    refine zwl_start (σ' := [some (.ref a), some (.int i), some (.int j), none]) rfl (zwl_cons ?_)
    refine zws_plain k0.xe ?_
    walk_at "w"
    refine w_call hc (by walk_at "mb") h1 hr (by decide) passL ?_
    walk_at "w"
    refine ⟨_, rfl, by omega, ?_⟩
    refine zwl_cons ?_
    refine zws_plain k0.xe ?_
    walk_at "w"
    refine w_call hc (by walk_at "mb") h1 hr (by decide) passL ?_
    walk_at "w"
    refine ⟨_, rfl, by omega, ?_⟩
    refine zwl_cons ?_
    refine zws_for k0 hc ?_
    refine wi_range2B hc (by walk_at "mb") ?_
    refine w_meth h4 hr (by decide) passL ?_
    walk_at "w"
    obtain ⟨_, dx, p, hi1, hi2⟩ := id ha
    refine ⟨_, _, _, rfl, hi1, rfl, ?_⟩
    walk_at "w"
    refine ⟨a, l, i, rfl, ha, fun H1 e1 => ?_⟩
    refine w_meth h4 hr (by decide) passL ?_
    walk_at "w"
    refine ⟨_, _, _, rfl, e1 _ _ hi1, rfl, ?_⟩
    walk_at "w"
    refine ⟨_, _, rfl, rfl, ?_⟩
    walk_at "w"
    have ej : (if ((j : Nat) : Int) > ((i : Nat) : Int) then ((j : Nat) : Int) else ((i : Nat) : Int)) = ((max i j : Nat) : Int) := by split <;> omega
    refine ⟨a, l, max i j, congrArg (fun z => [V.ref a, V.int z]) ej, ha.same e1, fun H2 e2 => ?_⟩
    have hmono := ct_mono (kp l) (show i ≤ max i j by omega)
    refine ⟨_, _, rfl, rfl, e1.trans e2, ?_⟩
    refine ⟨_, _, wlk_range, fun t i' σ' H' => Same T H' ∧ (∃ o, σ' = [some (.ref a), some (.int i), some (.int j), o]) ∧ i' = t ∧ t ≤ ct (kp l) (max i j) - ct (kp l) i, ⟨Same.refl _, ⟨_, rfl⟩, rfl, Nat.zero_le _⟩, fun t i' σ' H' h => h.1, fun t i' σ' H' ht ⟨eS, ⟨o, hσ⟩, et, htl⟩ => ?_, fun i' σ' H' ⟨eS, ⟨o, hσ⟩, et, htl⟩ => ?_⟩
    · subst hσ et
      have ht2 : i' < ct (kp l) (max i j) - ct (kp l) i := by omega
      refine wg_name hc (by walk_at "put") (by walk_at "mb") ?_
      refine zwl_cons ?_
      refine zws_yield k0 ?_ (by kernel_rfl) (by with_unfolding_all rfl)
      refine w_meth h3 hr (by decide) passL ?_
      walk_at "w"
      have ha2 := ha.same eS
      obtain ⟨_, dx2, p2, hi3, hi4⟩ := id ha2
      refine ⟨_, _, _, rfl, hi3, rfl, ?_⟩
      walk_at "w"
      refine ⟨a, l, ct (kp l) i + i', congrArg (fun z => [V.ref a, V.int z]) (by omega), ha2, fun n H3 e3 k1 k2 => ?_⟩
      refine ⟨eS.trans e3, ho i' n (by omega) k1 k2, ?_⟩
      refine zwl_nil ?_
      exact ⟨Same.refl _, ⟨_, rfl⟩, rfl, by omega⟩
    · refine zwl_nil ?_
      exact ⟨eS, he i' (by omega)⟩
  · obtain ⟨a, l, i, j, rfl, hi, hj, ha, ho, he⟩ := h
    obtain ⟨_, dx, p, hi1, hi2⟩ := id ha
    refine qz_start (σ' := [some (.ref a), some (.int i), some (.int j), none]) rfl (qz_cons (qzs_plain k0.xe (qs_expr ?_)))
    refine q_call hc (by walk_at "mb") g1 hr (by decide) (qa_cons (q_name hc (by walk_at "at") (by walk_at "mb") (qa_nil ⟨_, rfl, by omega, ?_⟩)))
    refine qz_cons (qzs_plain k0.xe (qs_expr ?_))
    refine q_call hc (by walk_at "mb") g1 hr (by decide) (qa_cons (q_name hc (by walk_at "at") (by walk_at "mb") (qa_nil ⟨_, rfl, by omega, ?_⟩)))
    refine qz_cons (qzs_range k0.xe hc (by walk_at "mb") (by walk_at "mb") (by with_unfolding_all rfl) ?_)
    refine q_meth g4 hr (by decide) (q_name hc (by walk_at "at") (by walk_at "mb") ⟨_, _, _, rfl, hi1, rfl, qa_cons (q_name hc (by walk_at "at") (by walk_at "mb") (qa_nil ⟨a, l, i, rfl, hi, ha, fun H1 e1 => ?_⟩))⟩)
    have ej : (if ((j : Nat) : Int) > ((i : Nat) : Int) then ((j : Nat) : Int) else ((i : Nat) : Int)) = ((max i j : Nat) : Int) := by split <;> omega
    refine q_meth g4 hr (by decide) (q_name hc (by walk_at "at") (by walk_at "mb") ⟨_, _, _, rfl, e1 _ _ hi1, rfl, qa_cons (q_max hc (by walk_at "mb") (q_name hc (by walk_at "at") (by walk_at "mb") (q_name hc (by walk_at "at") (by walk_at "mb") ⟨_, _, rfl, rfl, qa_nil ⟨a, l, max i j, congrArg (fun z => [V.ref a, V.int z]) ej, by omega, ha.same e1, fun H2 e2 => ?_⟩⟩)))⟩)
    have b1 := ct_le (kp l) i
    have b2 := ct_le (kp l) (max i j)
    refine ⟨_, _, rfl, rfl, ⟨by omega, by omega, by omega, by omega⟩, fun _ => qz_nil trivial, fun _ => ⟨_, by walk_at "put", ?_⟩⟩
    refine qz_cons (qzs_yield k0.xe ?_ (by kernel_rfl) (by with_unfolding_all rfl))
    refine q_meth g3 hr (by decide) (q_name hc (by walk_at "at") (by walk_at "mb") ⟨_, _, _, rfl, e2 _ _ (e1 _ _ hi1), rfl, qa_cons (q_name hc (by walk_at "at") (by walk_at "mb") (qa_nil ⟨a, l, _, rfl, by omega, (ha.same e1).same e2, fun _ _ => trivial⟩))⟩)

def spPool (K : PySem.W.Frag) : Sp := fun vs H Q _ => ∃ (sc : Addr) (ns : List Int) (k : Nat), vs = [.ref sc, .int k] ∧ SqL K H sc (ns.map V.int) ∧ ns.length ≤ 63 ∧ k ≤ 1000 ∧ ∀ p H', H p = none → Same H H' → H' p = some (pool p) → Q (.ref p) H'
theorem ok__law_pool (F : FunD K "_law_pool" "_law_pool" (defArgs s__law_pool) (defBody s__law_pool) (defScope s__law_pool) [] [] f fd) (hb : ∀ x ∈ BB, mg x = none) : FnR P w K mg base (L2.CX P w) 2 f (spPool K) := by
  refine fnr_of F sc__law_pool (fun vs H Q E h => ?_) (fun kV doc pm an cdv ct us hl => match us, hl with | [_, _], _ => rfl) (fun x hx => hb x (by revert x; decide +kernel)) fun cd A outer s H vs Q E hr hc h => ?_
  · obtain ⟨sc, ns, k, rfl, _⟩ := h; rfl
  · obtain ⟨sc, ns, k, rfl, hs, hn, hk, q⟩ := h
    have hz : sizeLine = 16777216 := sizeLine_eq
    refine wl_start (σ' := [some (.ref sc), some (.int k), none, none]) rfl (wl_cons ?_)
    walk_at "w"
    refine ⟨_, .inl ⟨_, hs, rfl⟩, ?_⟩
    walk_at "w"
    have key : ∀ c : Int, 0 ≤ c → WL (cx P w K mg base N__law_pool "_law_pool" (defScope s__law_pool) f cd A outer s H E) ((defBody s__law_pool).drop 2) { nx := fun _ H' => Q .non H', rt := Q } [some (.ref sc), some (.int k), some (.int c), none] H := by
      intro c h0
      refine wl_cons ?_
      walk_at "w"
      refine b_mod (by omega) ?_
      walk_at "w"
      refine b_mul (mul_small (by omega) (by omega)) ?_
      walk_at "w"
      refine b_mul (mul_small (by omega) (by omega)) ?_
      walk_at "w"
      refine b_mul (mul_small (by omega) (by omega)) ?_
      walk_at "w"
      refine b_mul (mul_small (by omega) (by omega)) ?_
      walk_at "w"
      refine b_mod (by omega) ?_
      refine ⟨_, by walk_at "put", ?_⟩
      refine wl_cons ?_
      refine ws_ret ?_
      refine we_abs ?_
      walk_at "w"
      generalize hm : (c % 2147483629 + 7919 * (k : Int) * (k : Int) + 31 * (k : Int) + 17) * 48271 % 2147483647 = m
      have m0 : 0 ≤ m := by rw [← hm]; exact Int.emod_nonneg _ (by decide)
      have m1 : m < 2147483647 := by rw [← hm]; exact Int.emod_lt_of_pos _ (by decide)
      refine b_pow ⟨by omega, by omega, by decide⟩ ?_
      walk_at "w"
      have hb1 : ∀ b : Bool, (0 : Int) ≤ (if b = true then 1 else 0) ∧ (if b = true then (1 : Int) else 0) ≤ 1 := fun b => by cases b <;> decide
      refine b_mul (mul_small (hb1 _).1 (by have := (hb1 (decide ((10 : Int) ^ Int.toNat 18 ≤ c))).2; omega)) ?_
      walk_at "w"
      refine b_mul (.of_right (intBits_le_64 (by omega) (by omega))) ?_
      walk_at "w"
      refine b_mod (by omega) ?_
      walk_at "w"
      refine ⟨(by show 2 ≤ sizeLine; omega), fun p H1 hp e1 hp1 => ?_⟩
      have h5 := hb1 (decide ((10 : Int) ^ Int.toNat 18 ≤ c))
      refine ⟨_, pool_abs hp1 (Int.mul_nonneg h0 h5.1) (Int.emod_nonneg _ (by decide)), ?_⟩
      exact q p _ hp (same_mut e1 hp) upd_same
    refine if_dec (fun h1 => ?_) (fun h1 => ?_)
    · walk_at "w"
      have hk2 : k < ns.length := by rw [List.length_map] at h1; omega
      refine ix_l hs (at_of (i := k) rfl (v := .int ns[k]) (by rw [List.getElem?_map, List.getElem?_eq_getElem hk2]; rfl)) ?_
      refine ⟨_, rfl, ?_⟩
      refine ⟨_, by walk_at "put", ?_⟩
      refine wl_nil ?_
      refine key _ ?_
      split <;> omega
    · refine wl_nil ?_
      exact key 0 (by decide)
def spTake : Sp := fun vs H Q _ => ∃ (p : Addr) (many : Nat), vs = [.ref p, .int many] ∧ H p = some (pool p) ∧ 0 < many ∧ many ≤ 1000000000 ∧ ∀ r : Nat, r < many → Q (.int (r : Nat)) H
theorem ok__law_take (F : FunD K "_law_take" "_law_take" (defArgs s__law_take) (defBody s__law_take) (defScope s__law_take) [] [] f fd) (hb : ∀ x ∈ BB, mg x = none) : FnR P w K mg base (L2.CX P w) 2 f spTake := by
  refine fnr_of F sc__law_take (fun vs H Q E h => ?_) (fun kV doc pm an cdv ct us hl => match us, hl with | [_, _], _ => rfl) (fun x hx => hb x (by revert x; decide +kernel)) fun cd A outer s H vs Q E hr hc h => ?_
  · obtain ⟨p, many, rfl, _⟩ := h; rfl
  · obtain ⟨p, many, rfl, hp, hm0, hm1, q⟩ := h
    refine wl_start (σ' := [some (.ref p), some (.int many), none]) rfl (wl_pool hp fun i j hi hj => ?_)
    walk_at "go"
    walk_at "w"
    refine ix_l (.inl (.inl upd_same)) rfl ?_
    walk_at "w"
    refine if_dec (fun h1 => ?_) (fun h1 => ?_)
    · walk_at "w"
      refine ix_l (.inl (.inl upd_same)) rfl ?_
      walk_at "w"
      refine b_mod (by omega) ?_
      walk_at "w"
      refine ws_asg ?_
      walk_at "w"
      refine ix_l (.inl (.inl upd_same)) rfl ?_
      walk_at "w"
      refine b_fdiv (by omega) (by omega) ?_
      refine wg_subL ?_
      walk_at "w"
      refine ⟨p, _, 0, 0, rfl, rfl, upd_same, rfl, ?_⟩
      walk_at "go"
      refine ws_ret (we_abs ?_)
      walk_at "w"
      refine ⟨_, pool_abs (i := i / (many : Int)) (j := j) upd_same (Int.ediv_nonneg hi (by omega)) hj, ?_⟩
      rw [upd_upd, pool_back hp]
      have e1 : i % (many : Int) = ((i % (many : Int)).toNat : Int) := by
        have := Int.emod_nonneg i (show (many : Int) ≠ 0 by omega)
        omega
      rw [e1]
      refine q _ ?_
      have := Int.emod_lt_of_pos i (show (0 : Int) < (many : Int) by omega)
      omega
    · walk_at "w"
      refine ws_asg ?_
      walk_at "w"
      refine ix_l (.inl (.inl upd_same)) rfl ?_
      walk_at "w"
      refine b_mul (mul_small (by omega) (by omega)) ?_
      walk_at "w"
      refine b_mod (by omega) ?_
      generalize hm : (j * 48271 + 12345) % 2147483647 = m
      have m0 : 0 ≤ m := by rw [← hm]; exact Int.emod_nonneg _ (by decide)
      have m1 : m < 2147483647 := by rw [← hm]; exact Int.emod_lt_of_pos _ (by decide)
      refine wg_subL ?_
      walk_at "w"
      refine ⟨p, _, 1, 1, rfl, rfl, upd_same, rfl, ?_⟩
      walk_at "go"
      refine ws_ret (we_abs ?_)
      walk_at "w"
      refine ix_l (.inl (.inl upd_same)) rfl ?_
      walk_at "w"
      refine ix_l (.inl (.inl upd_same)) rfl ?_
      refine b_mul (.of_right (intBits_le_64 (by omega) (by omega))) ?_
      walk_at "w"
      refine b_mod (by omega) ?_
      walk_at "w"
      refine b_fdiv (by omega) (by omega) ?_
      walk_at "w"
      refine b_mod (by omega) ?_
      refine ⟨_, pool_abs (i := i) (j := m) upd_same hi m0, ?_⟩
      rw [upd_upd, pool_back hp]
      generalize m * m % 2147483629 / 64 = z
      have e1 : z % (many : Int) = ((z % (many : Int)).toNat : Int) := by
        have := Int.emod_nonneg z (show (many : Int) ≠ 0 by omega)
        omega
      rw [e1]
      refine q _ ?_
      have := Int.emod_lt_of_pos z (show (0 : Int) < (many : Int) by omega)
      omega

def spLPat : Sp := fun vs H Q _ => ∃ (p : Addr) (most : Nat), vs = [.ref p, .int most] ∧ H p = some (pool p) ∧ 0 < most ∧ most ≤ 200 ∧ ∀ l H', Same H H' → Pat l → l.length ≤ 3 * most + 3 → Q (.str (sOf l)) H'
theorem ok__law_pattern (F : FunD K "_law_pattern" "_law_pattern" (defArgs s__law_pattern) (defBody s__law_pattern) (defScope s__law_pattern) [] [] f fd) (hb : ∀ x ∈ BB, mg x = none) (h1 : Fn P w K mg base "_law_take" 2 spTake) : FnR P w K mg base (L2.CX P w) 3 f spLPat := by
  refine fnr_of F sc__law_pattern (fun vs H Q E h => ?_) (fun kV doc pm an cdv ct us hl => match us, hl with | [_, _], _ => rfl) (fun x hx => hb x (by revert x; decide +kernel)) fun cd A outer s H vs Q E hr hc h => ?_
  · obtain ⟨p, most, rfl, _⟩ := h; rfl
  · obtain ⟨p, most, rfl, hp, hm0, hm1, q⟩ := h
    have hz : sizeLine = 16777216 := sizeLine_eq
    refine wl_start (σ' := [some (.ref p), some (.int most), none, none, none, none, none, none, none]) rfl (wl_cons ?_)
    refine ws_asg ?_
    walk_at "w"
    refine w_call hc (by walk_at "mb") h1 hr (by decide) passL ?_
    walk_at "w"
    refine ⟨p, most, rfl, hp, hm0, by omega, fun len0 hlen0 => ?_⟩
    walk_at "w"
    refine w_call hc (by walk_at "mb") h1 hr (by decide) passL ?_
    walk_at "w"
    refine ⟨p, 4, rfl, hp, by decide, by decide, fun way hway => ?_⟩
    walk_at "w"
    refine ⟨(by show 2 ≤ sizeLine; omega), fun T H1 hT e1 hT1 => ?_⟩
    refine wg_tup hc (.inl (.inl hT1)) ?_
    walk_at "w"
    have hl1 : (1 : Int) + (len0 : Nat) = ((len0 + 1 : Nat) : Int) := by omega
    rw [hl1]
    refine ws_setLc hc (own := bO__law_pattern_0) (by kernel_rfl) (fun i acc => ∃ ns : List Nat, acc = (ns.map fun n => ((n : Nat) : Int)).map V.int ∧ ns.length = i) ?_ (by kernel_rfl) (by kernel_rfl) (iy := ⟨2, rfl⟩)
    refine wi_range1 hc (by walk_at "mb") ?_
    walk_at "w"
    refine ⟨by omega, by omega, _, _, wlk_range, by omega, ⟨[], rfl, rfl⟩, fun i acc H' hi hl hP hS => ?_, fun acc D H2 hl hP hD hS hDa => ?_⟩
    · obtain ⟨ns, rfl, hns⟩ := hP
      intro X1 b1
      have c1 := nm_blk (L' := bL__law_pattern_0) (S' := bS__law_pattern_0) (G' := bG__law_pattern_0) (B' := bB__law_pattern_0) b1 hc (by kernel_rfl) (fun x hx => nomatch hx)
      simp only [wipe, List.map_cons, List.map_nil, List.set_cons_succ, List.set_cons_zero]
      walk_at "w"
      refine ⟨rfl, rfl, ?_⟩
      intro X2 b2
      refine wts_nil ?_
      refine ⟨Same.refl _, ite_t ?_⟩
      intro X3 b3
      have c3 := nm_blk (L' := bL__law_pattern_0) (S' := bS__law_pattern_0) (G' := bG__law_pattern_0) (B' := bB__law_pattern_0) b3 hc (by kernel_rfl) (fun x hx => nomatch hx)
      obtain ⟨_, _, _, _, _, rfl⟩ := b3
      refine w_call c3 (by walk_at "mb") h1 hr (by decide) passL ?_
      walk_at "w"
      refine ⟨(by show 4 ≤ sizeLine; omega), fun q3 H3 hq3 e3 hq4 => ?_⟩
      walk_at "w"
      obtain ⟨b, hb1, hb2, hb3⟩ : ∃ b : Nat, atI [V.int 2, V.int 4, V.int 2, V.int 2] ((way : Nat) : Int) = some (V.int (b : Nat)) ∧ 0 < b ∧ b ≤ 4 := by
        rcases (by omega : way = 0 ∨ way = 1 ∨ way = 2 ∨ way = 3) with rfl | rfl | rfl | rfl
        · exact ⟨2, rfl, by decide, by decide⟩
        · exact ⟨4, rfl, by decide, by decide⟩
        · exact ⟨2, rfl, by decide, by decide⟩
        · exact ⟨2, rfl, by decide, by decide⟩
      refine ix_l (.inl (.inl hq4)) hb1 ?_
      walk_at "w"
      refine ⟨p, b, rfl, e3 _ _ (hS _ _ (e1 _ _ hp)), hb2, by omega, fun r hr2 => ⟨e3, ns ++ [r], by simp, by simp [hns]⟩⟩
    · obtain ⟨ns, rfl, hns⟩ := hP
      rw [Int.toNat_natCast] at hns
      walk_at "w"
      refine w_join ?_
      walk_at "w"
      refine w_lc hc (own := bO__law_pattern_1) (by kernel_rfl) (fun i acc => acc = ((ns.take i).map fun n => !decide (n = 0)).map fun b => V.str (sOf [b])) ?_
      refine wi_list ?_
      walk_at "w"
      refine ⟨D, _, rfl, .inl (.inl hDa), _, _, wlk_list (.inl (.inl hDa)), (by simp; omega), by simp, fun i acc H' hi hl hP hS2 => ?_, fun acc D2 H3 hl hP hD2 hS2 hDa2 => ?_⟩
      · rw [List.length_map, List.length_map] at hi
        intro X1 b1
        have c1 := nm_blk (L' := bL__law_pattern_1) (S' := bS__law_pattern_1) (G' := bG__law_pattern_1) (B' := bB__law_pattern_1) b1 hc (by kernel_rfl) (fun x hx => nomatch hx)
        simp only [wipe, List.map_cons, List.map_nil, List.set_cons_succ, List.set_cons_zero]
        have e5 : ((ns.map fun n => ((n : Nat) : Int)).map V.int).getD i .non = .int ((ns[i] : Nat) : Int) := by
          rw [List.getD_eq_getElem?_getD, List.getElem?_map, List.getElem?_map, List.getElem?_eq_getElem hi]; rfl
        rw [e5]
        walk_at "w"
        refine ⟨rfl, rfl, ?_⟩
        intro X2 b2
        refine wts_nil ?_
        refine ⟨Same.refl _, ite_t ?_⟩
        intro X3 b3
        have c3 := nm_blk (L' := bL__law_pattern_1) (S' := bS__law_pattern_1) (G' := bG__law_pattern_1) (B' := bB__law_pattern_1) b3 hc (by kernel_rfl) (fun x hx => nomatch hx)
        walk_at "w"
        have hst : ∀ b, (!decide (ns[i] = 0)) = b → acc ++ [V.str (sOf [b])] = ((ns.take (i + 1)).map fun n => !decide (n = 0)).map fun b => V.str (sOf [b]) := fun b e => by
          rw [hP, List.take_succ_eq_append_getElem hi, ← e, List.map_append, List.map_append]; rfl
        refine if_dec (fun h2 => ?_) (fun h2 => ?_)
        · walk_at "w"
          refine ⟨Same.refl _, hst false (by rw [decide_eq_true (show ns[i] = 0 by omega)]; rfl)⟩
        · walk_at "w"
          refine ⟨Same.refl _, hst true (by rw [decide_eq_false (show ¬ ns[i] = 0 by omega)]; rfl)⟩
      · rw [List.length_map, List.length_map, List.take_length] at hP
        refine ⟨D2, (ns.map fun n => !decide (n = 0)).map fun b => sOf [b], rfl, .inl (.inl (.inl (by rw [hDa2, hP]; simp only [List.map_map]; rfl))), ?_, ?_⟩
        · have hl1 : ∀ l : List Bool, ((l.map fun b => sOf [b]).map fun x => x.length).sum = l.length := fun l => by
            induction l with
            | nil => rfl
            | cons b r ih => simp only [List.map_cons, List.sum_cons, ih, sOf_len, List.length_cons, List.length_nil]; omega
          rw [hl1, List.length_map, List.length_map, List.length_map]
          have : ("" : Str).length = 0 := by decide +kernel
          rw [this]
          omega
        · rw [join_sOf]
          have hbl : (ns.map fun n => !decide (n = 0)).length = len0 + 1 := by rw [List.length_map, hns]
          generalize (ns.map fun n => !decide (n = 0)) = bs at hbl
          have eS : Same H H3 := e1.trans (hS.trans hS2)
          walk_at "w"
          have key2 : ∀ (cs : List Bool), 0 < cs.length → cs.length ≤ 3 * most + 3 → WL (cx P w K mg base N__law_pattern "_law_pattern" (defScope s__law_pattern) f cd A outer s H E) ((defBody s__law_pattern).drop 5) { nx := fun _ H' => Q .non H', rt := Q } [some (.ref p), some (.int most), some (.ref D), some (.str (sOf cs)), none, some (.int ((len0 + 1 : Nat) : Int)), some (.int (way : Nat)), none, none] H3 := by
            intro cs hc0 hc1
            refine wl_cons ?_
            walk_at "w"
            refine w_call hc (by walk_at "mb") h1 hr (by decide) passL ?_
            walk_at "w"
            refine ⟨cs.length, ⟨by rw [sOf_len]; omega, by rw [sOf_len]⟩, ?_⟩
            walk_at "w"
            refine ⟨p, cs.length, rfl, eS _ _ hp, hc0, by omega, fun at_ hat => ?_⟩
            walk_at "w"
            refine b_inPlus ?_
            walk_at "w"
            refine if_dec (fun h2 => ?_) (fun h2 => ?_)
            · walk_at "w"
              exact q cs H3 eS ⟨hc0, by omega, h2⟩ hc1
            · walk_at "w"
              refine sl_s (by rw [sOf_len]; omega) ?_
              rw [cut_to cs rfl (by omega)]
              walk_at "w"
              rw [plus_sOf]
              refine b_addS (by rw [sOf_len, sOf_len, List.length_take, List.length_singleton]; omega) ?_
              rw [sOf_app]
              walk_at "w"
              refine sl_s (by rw [sOf_len]; omega) ?_
              rw [cut_from cs (d := at_ + 1) (by omega) (by omega)]
              refine b_addS (by rw [sOf_len, sOf_len, List.length_append, List.length_take, List.length_singleton, List.length_drop]; omega) ?_
              rw [sOf_app]
              refine q _ H3 eS ⟨?_, ?_, by simp⟩ ?_
              · simp; omega
              · simp; omega
              · simp; omega
          have key1 : ∀ (cs : List Bool), 0 < cs.length → cs.length ≤ 3 * most → (way = 3 → cs.length ≤ most) → WL (cx P w K mg base N__law_pattern "_law_pattern" (defScope s__law_pattern) f cd A outer s H E) ((defBody s__law_pattern).drop 4) { nx := fun _ H' => Q .non H', rt := Q } [some (.ref p), some (.int most), some (.ref D), some (.str (sOf cs)), none, some (.int ((len0 + 1 : Nat) : Int)), some (.int (way : Nat)), none, none] H3 := by
            intro cs hc0 hc1 hc2
            refine wl_cons ?_
            walk_at "w"
            refine if_dec (fun h2 => ?_) (fun h2 => ?_)
            · walk_at "w"
              refine w_call hc (by walk_at "mb") h1 hr (by decide) passL ?_
              walk_at "w"
              refine ⟨p, 4, rfl, eS _ _ hp, by decide, by decide, fun r hr2 => ?_⟩
              rw [minus_sOf]
              refine b_mulS (by omega) (by omega) (by rw [sOf_len]; simp; omega) ?_
              rw [rep_sOf, Int.toNat_natCast]
              refine b_addS (by rw [sOf_len, sOf_len, rep_len]; simp; omega) ?_
              rw [sOf_app]
              refine ⟨_, by walk_at "put", ?_⟩
              refine wl_nil ?_
              refine key2 _ ?_ ?_
              · simp; omega
              · rw [List.length_append, rep_len]; simp; omega
            · refine wl_nil ?_
              exact key2 cs hc0 (by omega)
          refine if_dec (fun h2 => ?_) (fun h2 => ?_)
          · walk_at "w"
            refine w_call hc (by walk_at "mb") h1 hr (by decide) passL ?_
            walk_at "w"
            refine ⟨p, 3, rfl, eS _ _ hp, by decide, by decide, fun r hr2 => ?_⟩
            walk_at "w"
            have er : ((1 : Int) + (r : Nat)).toNat = r + 1 := by omega
            have h9 : (r + 1) * bs.length ≤ 3 * bs.length := Nat.mul_le_mul_right _ (by omega)
            refine b_mulS (by omega) (by omega) (by rw [sOf_len, er, Nat.mul_comm]; omega) ?_
            rw [rep_sOf, er]
            refine ⟨_, by walk_at "put", ?_⟩
            refine wl_nil ?_
            refine key1 _ ?_ ?_ (fun h => by omega)
            · rw [rep_len, hbl]; exact Nat.mul_pos (by omega) (by omega)
            · rw [rep_len]; omega
          · refine wl_nil ?_
            exact key1 bs (by omega) (by omega) (fun _ => by omega)

def spLKept (K : PySem.W.Frag) : Sp := fun vs H Q _ => ∃ (l : List Bool) (n : Nat), vs = [.str (sOf l), .int (n : Nat)] ∧ Pat l ∧ n ≤ 1000000 ∧ ∀ D H', H D = none → Same H H' → H' D = some (.lst (((sel (kp l) n).map fun n => ((n : Nat) : Int)).map V.int)) → Q (.ref D) H'
theorem ok__law_kept (F : FunD K "_law_kept" "_law_kept" (defArgs s__law_kept) (defBody s__law_kept) (defScope s__law_kept) [] [] f fd) (hb : ∀ x ∈ BB, mg x = none) : FnR P w K mg base (L2.CX P w) 2 f (spLKept K) := by
  refine fnr_of F sc__law_kept (fun vs H Q E h => ?_) (fun kV doc pm an cdv ct us hl => match us, hl with | [_, _], _ => rfl) (fun x hx => hb x (by revert x; decide +kernel)) fun cd A outer s H vs Q E hr hc h => ?_
  · obtain ⟨l, n, rfl, _⟩ := h; rfl
  · obtain ⟨l, n, rfl, hp, hn, q⟩ := h
    have hz : sizeLine = 16777216 := sizeLine_eq
    have l1 := hp.one
    have l2 := hp.most
    refine wl_start (σ' := [some (.str (sOf l)), some (.int n), none]) rfl (wl_cons ?_)
    walk_at "w"
    refine w_lc hc (own := bO__law_kept_0) (by kernel_rfl) (fun i acc => acc = ((sel (kp l) i).map fun n => ((n : Nat) : Int)).map V.int) ?_
    refine wi_range1 hc (by walk_at "mb") ?_
    walk_at "w"
    refine ⟨by omega, by omega, _, _, wlk_range, by omega, rfl, fun i acc H' hi hl hP hS => ?_, fun acc D H' hl hP hD hS hDa => ?_⟩
    · intro X1 b1
      have c1 := nm_blk (L' := bL__law_kept_0) (S' := bS__law_kept_0) (G' := bG__law_kept_0) (B' := bB__law_kept_0) b1 hc (by kernel_rfl) (fun x hx => hb x (by revert x; decide +kernel))
      simp only [wipe, List.map_cons, List.map_nil, List.set_cons_succ, List.set_cons_zero]
      rw [show (0 : Int) + (i : Nat) = ((i : Nat) : Int) by omega]
      walk_at "w"
      refine ⟨rfl, rfl, ?_⟩
      intro X2 b2
      refine wts_one ?_
      have c2 := nm_blk (L' := bL__law_kept_0) (S' := bS__law_kept_0) (G' := bG__law_kept_0) (B' := bB__law_kept_0) b2 hc (by kernel_rfl) (fun x hx => hb x (by revert x; decide +kernel))
      obtain ⟨_, _, _, _, _, rfl⟩ := b2
      walk_at "w"
      refine ⟨l.length, ⟨by rw [sOf_len]; omega, by rw [sOf_len]⟩, ?_⟩
      refine b_mod (by omega) ?_
      have hi3 : i % l.length < l.length := Nat.mod_lt _ l1
      refine ix_s (by rw [sOf_len]; omega) (sOf_at (i := i % l.length) (by simp) hi3) ?_
      walk_at "w"
      rw [dec_plus]
      have e : l[i % l.length] = kp l i := by rw [← kp_lt hi3, (kp_per l).mod]
      rw [e]
      refine ⟨Same.refl _, ?_⟩
      cases hk : kp l i with
      | true =>
        refine ite_t ?_
        intro X3 b3
        have c3 := nm_blk (L' := bL__law_kept_0) (S' := bS__law_kept_0) (G' := bG__law_kept_0) (B' := bB__law_kept_0) b3 hc (by kernel_rfl) (fun x hx => hb x (by revert x; decide +kernel))
        walk_at "w"
        refine ⟨Same.refl _, ?_⟩
        rw [hP, sel_step, hk, if_pos rfl, List.map_append, List.map_append]; rfl
      | false =>
        refine ite_f ?_
        rw [hP, sel_step, hk]; simp
    · rw [Int.toNat_natCast] at hP
      exact q D H' hD hS (by rw [hDa, hP])

theorem none_of02 {H H1 : Hp} {D : Addr} (e : Same H H1) (h : H1 D = none) : H D = none := by
  cases z : H D with
  | none => rfl
  | some o => rw [e _ _ z] at h; cases h
theorem passLA02 {X : Cx} {σ : L2.St} : PassesAt (L2.CX X.prog X.w) X σ E0 := fun pins H s e s' I c => passL pins σ H s e s' I c
/-- a value that repr shows in a text that data may hold -/
structure Odd (K : PySem.W.Frag) (H : Hp) (v : V) (d : PyData) : Prop where
  shw : Shw K H v d
  ok : PyData.strOk d.shown = true
theorem Odd.same {H H' : Hp} {v : V} {d : PyData} (h : Odd K H v d) (e : Same H H') : Odd K H' v d := ⟨h.shw.same e, h.ok⟩
theorem odd_c {H : Hp} {v : V} {d : PyData} (h : Dp K H v d) (c : (d.showable && !d.hasDict && decide (d.depth < 60) && decide (d.shown.length ≤ 64) && PyData.strOk d.shown) = true) : Odd K H v d := by
  simp only [Bool.and_eq_true, Bool.not_eq_true', decide_eq_true_eq] at c
  obtain ⟨⟨⟨⟨c1, c2⟩, c3⟩, c4⟩, c5⟩ := c
  exact ⟨⟨h, c1, c2, c3, by rw [sizeLine_eq]; omega⟩, c5⟩
theorem kit_none_int {K : PySem.W.Frag} : PySem.W.kitOne K (.type "NoneType") (.type "int") = some false := by
  unfold PySem.W.kitOne
  rw [if_neg (by decide)]
  kernel_rfl
theorem kit_list_int {K : PySem.W.Frag} : PySem.W.kitOne K (.type "list") (.type "int") = some false := by
  unfold PySem.W.kitOne
  rw [if_neg (by decide)]
  kernel_rfl
theorem kit_tuple_int {K : PySem.W.Frag} : PySem.W.kitOne K (.type "tuple") (.type "int") = some false := by
  unfold PySem.W.kitOne
  rw [if_neg (by decide)]
  kernel_rfl
theorem bad_non {H : Hp} {i : Int} : Bad K H .non i := .inl (.inr ⟨_, .base .non, kit_none_int⟩)
theorem bad_bl {H : Hp} {i : Int} {b : Bool} : Bad K H (.bl b) i := .inl (.inl ⟨_, rfl⟩)
theorem bad_str {H : Hp} {i : Int} {x : Str} : Bad K H (.str x) i := .inl (.inr ⟨_, .base (.str x), kit_str_int⟩)
theorem bad_lst {H : Hp} {i : Int} {a : Addr} {xs : List V} (h : H a = some (.lst xs)) : Bad K H (.ref a) i := .inl (.inr ⟨_, .base (.lst h), kit_list_int⟩)
theorem bad_tup {H : Hp} {i : Int} {a : Addr} {xs : List V} (h : H a = some (.tup xs)) : Bad K H (.ref a) i := .inl (.inr ⟨_, .base (.tup h), kit_tuple_int⟩)
theorem bad_same {H H' : Hp} {v : V} {i : Int} (h : Bad K H v i) (e : Same H H') : Bad K H' v i := by
  rcases h with (h | ⟨t, h1, h2⟩) | h
  · exact .inl (.inl h)
  · refine .inl (.inr ⟨t, ?_, h2⟩)
    cases h1 with
    | base h =>
      refine .base ?_
      cases h with
      | non => exact .non
      | bl b => exact .bl b
      | int i => exact .int i
      | str x => exact .str x
      | flt x => exact .flt x
      | lst z => exact .lst (e _ _ z)
      | frz z => exact .frz (e _ _ z)
      | tup z => exact .tup (e _ _ z)
      | dK z => exact .dK (e _ _ z)
      | dT z => exact .dT (e _ _ z)
      | ins z cl ha hn htk hm => exact .ins (e _ _ z) cl ha hn htk hm
    | byt b => exact .byt b
    | set z => exact .set (e _ _ z)
    | kList z c => exact .kList z c
    | kTuple z c => exact .kTuple z c
    | kDict z c => exact .kDict z c
    | fTuple z => exact .fTuple (e _ _ z)
    | fDict z => exact .fDict (e _ _ z)
  · exact .inr h
/-- ["number", z] -/
abbrev dN (z : Str) : PyData := .list [.str "number", .str z]
theorem lay_dN {z : Str} (h : PyData.strOk z = true) : (dN z).canLay0 = true := by
  have : PyData.strOk ("number" : Str) = true := by decide +kernel
  simp [dN, PyData.canLay0, PyData.canLayAll0, h, this]
theorem dep_dN (z : Str) : (dN z).depth ≤ 3 := by simp [dN, PyData.depth, PyData.depthAll]
theorem eqv_dN (z : Str) : PyData.eqv (dN z) (dN z) = true := by simp [dN, PyData.eqv, PyData.eqvAll]
theorem dp_dN {H : Hp} {z : Str} (p : Addr) (h : H p = some (.lst [.str "number", .str z])) : Dp K H (.ref p) (dN z) := .lst (.inl (.inl h)) (.cons (.str _) (.cons (.str _) .nil))
theorem lay_rep {d : PyData} (h : d.canLay0 = true) : ∀ n, PyData.canLayAll0 (List.replicate n d) = true
  | 0 => by simp [PyData.canLayAll0]
  | n + 1 => by rw [List.replicate_succ]; simp [PyData.canLayAll0, h, lay_rep h n]
theorem dep_rep {d : PyData} (h : d.depth ≤ 3) : ∀ n, PyData.depthAll (List.replicate n d) ≤ 3
  | 0 => by simp [PyData.depthAll]
  | n + 1 => by
    have := dep_rep h n
    rw [List.replicate_succ]
    simp only [PyData.depthAll]
    omega
theorem shaped_repD {d : PyData} (h : d.canLay0 = true) (h2 : d.depth ≤ 3) (n : Nat) : SeqAt.shaped (.list (List.replicate n d)) = true := by
  have h1 := dep_rep h2 n
  have h3 : PyData.depth (.list (List.replicate n d)) ≤ 64 := by simp only [PyData.depth]; omega
  show (PyData.canLay0 (.list (List.replicate n d)) && decide (PyData.depth (.list (List.replicate n d)) ≤ 64)) = true
  rw [decide_eq_true h3, Bool.and_true]
  simp only [PyData.canLay0]
  exact lay_rep h n
theorem eqv_repD {d : PyData} (h : PyData.eqv d d = true) (n : Nat) : PyData.eqv (.list (List.replicate n d)) (.list (List.replicate n d)) = true := by
  have : ∀ n, PyData.eqvAll (List.replicate n d) (List.replicate n d) = true := fun n => by
    induction n with
    | zero => simp [PyData.eqvAll]
    | succ n ih => rw [List.replicate_succ]; simp [PyData.eqvAll, h, ih]
  simp only [PyData.eqv, this]
theorem shaped_dN {z : Str} (h : PyData.strOk z = true) : SeqAt.shaped (dN z) = true := by
  have h3 : PyData.depth (dN z) ≤ 64 := Nat.le_trans (dep_dN z) (by decide)
  show (PyData.canLay0 (dN z) && decide (PyData.depth (dN z) ≤ 64)) = true
  rw [decide_eq_true h3, Bool.and_true]
  exact lay_dN h
theorem dps_dN {H : Hp} {z : Str} : ∀ ps : List Addr, (∀ p ∈ ps, H p = some (.lst [.str "number", .str z])) → DpAll K H (ps.map V.ref) (List.replicate ps.length (dN z))
  | [], _ => .nil
  | p :: ps, hp => by
    rw [List.length_cons, List.replicate_succ]
    exact .cons (dp_dN p (hp p List.mem_cons_self)) (dps_dN ps fun q hq => hp q (List.mem_cons_of_mem _ hq))
theorem rep_refs (n : Nat) (T : Addr) : (List.replicate n [V.ref T]).flatten = (List.replicate n T).map V.ref := by
  induction n with
  | zero => rfl
  | succ n ih => rw [List.replicate_succ, List.flatten_cons, ih, List.replicate_succ]; rfl
/-- a try whose body raises nothing -/
theorem ws_thru {X : Cx} {body : List Stmt} {h₀ : ExceptHandler} {hds : List ExceptHandler} {pos : Pos} {D : Ends} {σ : L2.St} {H : Hp} (hb : ∀ pn, WL (X.tr pn fun _ _ => False) body D σ H) : WS X (.Try body (h₀ :: hds) [] [] pos) D σ H := by
  refine ⟨fun pins s I => ?_⟩
  have ok := I.ok
  refine wpAny_Try_except (wpAny_mono ((hb (X.pn ++ pins)).run [] s (I.toTry _)) (fun f s1 hsp => ?_) fun e s1 z => z.elim)
  cases f with
  | ret u =>
    obtain ⟨v, σ', H', J', r, q⟩ := hsp
    exact ⟨v, σ', H', J'.ofTry ok, r, q⟩
  | next =>
    obtain ⟨σ', H', J', q⟩ := hsp
    exact wpAny_execs_nil ⟨σ', H', J'.ofTry ok, q⟩
  | brk =>
    obtain ⟨σ', H', J', q⟩ := hsp
    exact ⟨σ', H', J'.ofTry ok, q⟩
  | cont =>
    obtain ⟨σ', H', J', q⟩ := hsp
    exact ⟨σ', H', J'.ofTry ok, q⟩
/-- raising calls alone -/
def spCau02 (K : PySem.W.Frag) : Sp := fun vs H Q _ => ∃ (way : Nat) (a : Addr) (l : List Bool) (v1 v2 v : V) (d : PyData), vs = [.int way, .ref a, v1, v2] ∧ SieveAt K H a l ∧ Bad K H v 0 ∧ Shw K H v d ∧ ((way ≤ 2 ∧ v1 = v) ∨ (way = 2 ∧ v1 = .int 3 ∧ v2 = v)) ∧
  ∀ D H', H D = none → Same H H' → H' D = some (.lst [.str "number", .str d.shown]) → Q (.ref D) H'
theorem ok__law_caught (F : FunD K "_law_caught" "_law_caught" (defArgs s__law_caught) (defBody s__law_caught) (defScope s__law_caught) [] [] f fd) (hb : ∀ x ∈ BB, mg x = none) (SC : SvC K mg)
    (h1 : Mth P w K mg base (cS K) "nth" 4 (spNthE K)) (h2 : Mth P w K mg base (cS K) "rank" 4 (spRankE K)) (h3 : GMt P w K mg base (cS K) "survivors" 5 (spSurvE K))
    (gE : mg "InvalidNumber" = some (.ref (He.ga K "InvalidNumber"))) (ER : ErrC K (He.ga K "InvalidNumber") "value" (He.ma K (He.ga K "InvalidNumber") "__init__"))
    (x3 : PySem.W.exmOne K (.ref (He.ga K "InvalidNumber")) (.ref (He.ga K "InvalidNumber")) = some true) (ns : PySem.W.subIn K (.ref (He.ga K "InvalidNumber")) (.type "StopIteration") = some false) : FnRG P w K mg base (L2.CX P w) 9 f (spCau02 K) := by
  refine fnrg_of F sc__law_caught (fun vs H Q E h => ?_) (fun kV doc pm an cdv ct us hl => match us, hl with | [_, _, _, _], _ => rfl) (fun x hx => hb x (by revert x; decide +kernel)) fun cd A outer s H vs Q E hg hr hc h => ?_
  · obtain ⟨way, a, l, v1, v2, v, d, rfl, _⟩ := h; rfl
  · obtain ⟨way, a, l, v1, v2, v, d, rfl, ha, hB, sh, h, hT⟩ := h
    have hz : sizeLine = 16777216 := sizeLine_eq
    obtain ⟨_, dx, p, hi1, hi2⟩ := id ha
    refine wl_start (σ' := [some (.int way), some (.ref a), some v1, some v2, none]) rfl (wl_cons ?_)
    refine ws_try rfl rfl (by rw [hc.names]; exact hc.nd) takes_cx (HdA.cons (i := 4) rfl (by kernel_rfl) ⟨(hc.glo "InvalidNumber" (by decide +kernel)).1, (hc.glo "InvalidNumber" (by decide +kernel)).2.1, .inl gE⟩ .nil) fun pn xe tk po => ?_
    have hc' := hc.tr (pn := pn) (xe := xe)
    generalize hW : wClauses _ _ _ _ = W at tk
    have eN : ∀ dd H', Same H H' → H' dd = some (.xd [("value", v)]) → W (.ref (He.ga K "InvalidNumber")) (some dd) [some (.int way), some (.ref a), some v1, some v2, none] H' := fun dd H1 e1 hd => by
      have sh := sh.same e1
      rw [← hW]
      refine ⟨true, x3, fun _ b hb1 oe pn' hz' hf => ?_, (fun z => nomatch z)⟩
      have hs := hc.su b ((b, oe) :: pn')
      simp only [List.set_cons_succ, List.set_cons_zero]
      walk_at "w"
      refine s_reprD (d := d) hs (by walk_at "mb") hg hr.units ?_
      refine s_xf (v := v) ER hz' hf ?_
      refine s_name hs (by walk_at "at") (by walk_at "mb") ⟨rfl, ⟨rfl, dd, rfl, hd⟩, ?_⟩
      refine ⟨sh.dp, sh.sh, sh.nd, sh.dep, sh.len, ?_⟩
      walk_at "w"
      exact ⟨(by show 2 ≤ sizeLine; omega), fun D H2 hD e2 hD' => hT D H2 (none_of02 e1 hD) (e1.trans e2) hD'⟩
    clear hW
    have hns : ∀ σ, NoStop K (fun cls d H => cls = .ref (He.ga K "InvalidNumber") ∧ W cls d σ H) := fun σ cls d H h => by rw [h.1]; exact ns
    have hw : way = 0 ∨ way = 1 ∨ way = 2 := by rcases h with ⟨h, _⟩ | ⟨h, _⟩ <;> omega
    refine wl_cons ?_
    walk_at "w"
    refine if_dec (fun k0 => ?_) (fun k0 => ?_)
    · obtain rfl : v1 = v := by
        rcases h with ⟨_, h⟩ | ⟨h, _⟩
        · exact h
        · omega
      walk_at "w"
      refine w_methA h1 hr (by decide) (passA tk _) ?_
      walk_at "w"
      refine ⟨_, _, _, rfl, hi1, rfl, ?_⟩
      walk_at "w"
      exact .inr ⟨a, _, rfl, hB, fun dd H1 e1 hd => eN dd H1 e1 hd⟩
    · walk_at "w"
      refine if_dec (fun k1 => ?_) (fun k1 => ?_)
      · obtain rfl : v1 = v := by
          rcases h with ⟨_, h⟩ | ⟨h, _⟩
          · exact h
          · omega
        walk_at "w"
        refine w_methA h2 hr (by decide) (passA tk _) ?_
        walk_at "w"
        refine ⟨_, _, _, rfl, hi1, rfl, ?_⟩
        walk_at "w"
        exact .inr ⟨a, _, rfl, hB, fun dd H1 e1 hd => eN dd H1 e1 hd⟩
      · refine wl_nil ?_
        refine wl_cons ?_
        refine ws_ret ?_
        refine w_lst ?_
        refine wa_cons ?_
        refine w_str ?_
        refine wa_cons ?_
        refine x_listMA hc' (by walk_at "mb") h3 hr (by decide) (passC tk _ (.ref (He.ga K "InvalidNumber"))) (hns _) ?_
        walk_at "w"
        refine ⟨_, _, _, rfl, hi1, rfl, ?_⟩
        walk_at "w"
        refine .inr ⟨a, v1, v2, rfl, ?_⟩
        rcases h with ⟨_, rfl⟩ | ⟨_, rfl, rfl⟩
        · exact .inl ⟨hB, fun dd H1 e1 hd => ⟨rfl, eN dd H1 e1 hd⟩⟩
        · exact .inr ⟨3, rfl, by decide, hB, fun dd H1 e1 hd => ⟨rfl, eN dd H1 e1 hd⟩⟩
def spErr02 (K : PySem.W.Frag) : Sp := fun vs H Q _ => ∃ (a : Addr) (l : List Bool), vs = [.ref a] ∧ SieveAt K H a l ∧ ∀ H', Same H H' → Q (.bl true) H'
theorem ok__law_errors_right (F : FunD K "_law_errors_right" "_law_errors_right" (defArgs s__law_errors_right) (defBody s__law_errors_right) (defScope s__law_errors_right) [] [] f fd) (hb : ∀ x ∈ BB, mg x = none) (SC : SvC K mg)
    (h1 : FnG P w K mg base "_law_caught" 9 (spCau02 K)) (h2 : Mth P w K mg base (cS K) "is_kept" 4 (spKeptE K)) (h3 : GMt P w K mg base (cS K) "survivors" 5 (spSurvE K))
    (gE : mg "InvalidNumber" = some (.ref (He.ga K "InvalidNumber"))) : FnRG P w K mg base (L2.CX P w) 10 f (spErr02 K) := by
  refine fnrg_of F sc__law_errors_right (fun vs H Q E h => ?_) (fun kV doc pm an cdv ct us hl => match us, hl with | [_], _ => rfl) (fun x hx => hb x (by revert x; decide +kernel)) fun cd A outer s H vs Q E hg hr hc h => ?_
  · obtain ⟨a, l, rfl, _⟩ := h; rfl
  · obtain ⟨a, l, rfl, ha, q⟩ := h
    have hz : sizeLine = 16777216 := sizeLine_eq
    obtain ⟨_, dx, p, hi1, hi2⟩ := id ha
    refine wl_start (σ' := [some (.ref a), none, none]) rfl (wl_cons ?_)
    refine ws_for owns_cx hc ?_
    refine wi_list ?_
    walk_at "w"
    refine ⟨(by show 1 ≤ sizeLine; omega), fun D1 H1 hD1 e1 hD1' => ?_⟩
    walk_at "w"
    refine ⟨(by show 1 ≤ sizeLine; omega), fun D2 H2 hD2 e2 hD2' => ?_⟩
    walk_at "w"
    refine b_pow ⟨by decide, by decide, by decide⟩ ?_
    walk_at "w"
    refine ⟨(by show 8 ≤ sizeLine; omega), fun D3 H3 hD3 e3 hD3' => ?_⟩
    have hodd : ∀ v ∈ [V.int (-1), V.bl true, V.bl false, V.non, V.str "0", V.ref D1, V.ref D2, V.int (-(10 ^ Int.toNat 20))], Bad K H3 v 0 ∧ ∃ d, Odd K H3 v d := fun v hv => by
      have y1 := e3 _ _ (e2 _ _ hD1')
      have y2 := e3 _ _ hD2'
      rcases List.mem_cons.mp hv with rfl | hv
      · exact ⟨.inr ⟨_, rfl, by decide⟩, _, odd_c (.int _) (by decide +kernel)⟩
      rcases List.mem_cons.mp hv with rfl | hv
      · exact ⟨bad_bl, _, odd_c (.bl _) (by decide +kernel)⟩
      rcases List.mem_cons.mp hv with rfl | hv
      · exact ⟨bad_bl, _, odd_c (.bl _) (by decide +kernel)⟩
      rcases List.mem_cons.mp hv with rfl | hv
      · exact ⟨bad_non, _, odd_c .non (by decide +kernel)⟩
      rcases List.mem_cons.mp hv with rfl | hv
      · exact ⟨bad_str, _, odd_c (.str _) (by decide +kernel)⟩
      rcases List.mem_cons.mp hv with rfl | hv
      · exact ⟨bad_lst y1, _, odd_c (.lst (.inl (.inl y1)) (.cons (.int _) .nil)) (by decide +kernel)⟩
      rcases List.mem_cons.mp hv with rfl | hv
      · exact ⟨bad_tup y2, _, odd_c (.tup (.inl (.inl y2)) (.cons (.int _) .nil)) (by decide +kernel)⟩
      rcases List.mem_cons.mp hv with rfl | hv
      · exact ⟨.inr ⟨_, rfl, by decide +kernel⟩, _, odd_c (.int _) (by decide +kernel)⟩
      cases hv
    generalize [V.int (-1), V.bl true, V.bl false, V.non, V.str "0", V.ref D1, V.ref D2, V.int (-(10 ^ Int.toNat 20))] = bs at hD3' hodd
    have s3 : Same H H3 := e1.trans (e2.trans e3)
    refine ⟨D3, _, rfl, .inl (.inl hD3'), _, _, wlk_list (.inl (.inl hD3')), fun j σ' H' => Same H3 H' ∧ ∃ oo, σ' = [some (.ref a), oo, none], ⟨Same.refl _, _, rfl⟩, fun j σ' H' h => h.1, fun j σ' H4 hj ⟨ea, oo, hσ⟩ => ?_, fun σ' H4 ⟨ea, oo, hσ⟩ => ?_⟩
    · subst hσ
      rw [show bs.getD j .non = bs[j] by rw [List.getD_eq_getElem?_getD, List.getElem?_eq_getElem hj]; rfl]
      obtain ⟨hbd, d, hod⟩ := hodd _ (List.getElem_mem hj)
      have hbd := bad_same hbd ea
      have hod := hod.same ea
      generalize bs[j] = v at hbd hod
      have ha4 := (ha.same s3).same ea
      refine wg_name hc (by walk_at "put") (by walk_at "mb") ?_
      walk_at "go"
      refine ws_if ?_
      refine wt_cmp ?_ (by walk_at "hm")
      refine w_lcH hc (own := bO__law_errors_right_0) (by kernel_rfl) (fun i acc H' => ∃ ps : List Addr, acc = ps.map V.ref ∧ ps.length = i ∧ ∀ p ∈ ps, H' p = some (.lst [.str "number", .str d.shown])) ?_
      refine wi_range1 hc (by walk_at "mb") ?_
      walk_at "w"
      refine ⟨by decide, by decide, _, _, wlk_range, by omega, fun D2 hD2 => ⟨[], rfl, rfl, fun p hp => nomatch hp⟩, fun j acc acc' H' D2 hj hD2 hS2 hDb hP' hP => ?_, fun j acc H' hj hl2 hP hS2 => ?_, fun acc DD HH hl2 hP hDD hSS hDD' => ?_⟩
      · obtain ⟨ps, rfl, hps, hm⟩ := hP
        refine ⟨ps, rfl, hps, fun p hp => ?_⟩
        have hpm := hm p hp
        rw [upd_ne (fun z => by
          subst z
          obtain ⟨ps', e', _, _⟩ := hP'
          rw [hDb, e'] at hpm
          have := HO.lst.inj (Option.some.inj hpm)
          cases ps' with
          | nil => cases this
          | cons r rs => injection this with h1 _; cases h1)]
        exact hpm
      · obtain ⟨ps, rfl, hps, hm⟩ := hP
        intro X1 b1
        have c1 := nm_blk (L' := bL__law_errors_right_0) (S' := bS__law_errors_right_0) (G' := bG__law_errors_right_0) (B' := bB__law_errors_right_0) b1 hc (by kernel_rfl) (fun x hx => nomatch hx)
        simp only [wipe, List.map_cons, List.map_nil, List.set_cons_succ, List.set_cons_zero]
        walk_at "w"
        refine ⟨rfl, rfl, ?_⟩
        intro X2 b2
        refine wts_nil ?_
        refine ⟨Same.refl _, ite_t ?_⟩
        intro X3 b3
        have c3 := nm_blk (L' := bL__law_errors_right_0) (S' := bS__law_errors_right_0) (G' := bG__law_errors_right_0) (B' := bB__law_errors_right_0) b3 hc (by kernel_rfl) (fun x hx => nomatch hx)
        obtain ⟨_, _, _, _, _, rfl⟩ := b3
        refine w_callG c3 (by walk_at "mb") h1 hg hr (by decide) passLA02 ?_
        walk_at "w"
        rw [show (0 : Int) + (j : Nat) = ((j : Nat) : Int) by omega]
        refine ⟨j, a, l, v, .non, v, d, rfl, ha4.same hS2, bad_same hbd hS2, (hod.same hS2).shw, .inl ⟨by omega, rfl⟩, fun T HT hT eT hT' => ?_⟩
        refine ⟨eT, ⟨ps, rfl, hps, fun p hp => eT _ _ (hm p hp)⟩, ps ++ [T], by simp, by simp [hps], fun p hp => ?_⟩
        rcases List.mem_append.mp hp with hp | hp
        · exact eT _ _ (hm p hp)
        · rw [List.mem_singleton.mp hp]
          exact hT'
      obtain ⟨ps, rfl, hps, hm⟩ := hP
      walk_at "w"
      refine x_reprD (d := d) hc (by walk_at "mb") hg hr.units ?_
      have ho5 := hod.same hSS
      walk_at "w"
      refine ⟨ho5.shw.dp, ho5.shw.sh, ho5.shw.nd, ho5.shw.dep, ho5.shw.len, ?_⟩
      walk_at "w"
      refine ⟨(by show 2 ≤ sizeLine; omega), fun L1 K1 hL1 g1 hL1' => ?_⟩
      walk_at "w"
      refine ⟨(by show 1 ≤ sizeLine; omega), fun L2 K2 hL2 g2 hL2' => ?_⟩
      walk_at "w"
      refine b_rep (k := 3) hL2' (by decide) (by decide) (by show 1 * 3 ≤ sizeLine; omega) fun L3 K3 hL3 g3 hL3' => ?_
      rw [rep_refs] at hL3'
      have g23 := g2.trans g3
      refine b_neD hr.units (.lst (.inl (.inl (g23 _ _ (g1 _ _ hDD')))) (dps_dN ps fun p hp => g23 _ _ (g1 _ _ (hm p hp)))) (.lst (.inl (.inl hL3')) (dps_dN _ fun p hp => by rw [(List.mem_replicate.mp hp).2]; exact g23 _ _ hL1')) (shaped_repD (lay_dN hod.ok) (dep_dN _) _) (shaped_repD (lay_dN hod.ok) (dep_dN _) _) ?_
      rw [hps, List.length_replicate, show ((3 : Int)).toNat = 3 from rfl, eqv_repD (eqv_dN _)]
      have gq := hSS.trans (g1.trans g23)
      clear hm hps hDD' hL2' hL3'
      walk_at "w"
      refine w_callG hc (by walk_at "mb") h1 hg hr (by decide) passLA02 ?_
      walk_at "w"
      have hb5 := bad_same hbd gq
      refine ⟨2, a, l, .int 3, v, v, d, rfl, ha4.same gq, hb5, (hod.same gq).shw, .inr ⟨rfl, rfl, rfl⟩, fun T HT hT eT hT' => ?_⟩
      walk_at "w"
      refine x_reprD (d := d) hc (by walk_at "mb") hg hr.units ?_
      have ho6 := (hod.same gq).same eT
      walk_at "w"
      refine ⟨ho6.shw.dp, ho6.shw.sh, ho6.shw.nd, ho6.shw.dep, ho6.shw.len, ?_⟩
      walk_at "w"
      refine ⟨(by show 2 ≤ sizeLine; omega), fun L4 K4 hL4 g4 hL4' => ?_⟩
      refine b_neD hr.units (dp_dN _ (g4 _ _ hT')) (dp_dN _ hL4') (shaped_dN hod.ok) (shaped_dN hod.ok) ?_
      rw [eqv_dN]
      have gr := gq.trans (eT.trans g4)
      walk_at "w"
      refine w_meth h2 hr (by decide) passL ?_
      walk_at "w"
      have ha7 := ha4.same gr
      obtain ⟨_, dx7, p7, hi7, _⟩ := id ha7
      refine ⟨_, _, _, rfl, hi7, rfl, ?_⟩
      walk_at "w"
      refine ⟨a, l, v, rfl, ha7, .inr ⟨bad_same hbd gr, ?_⟩⟩
      walk_at "w"
      rw [decide_eq_true (show false = false from rfl)]
      walk_at "w"
      exact ⟨ea.trans gr, _, rfl⟩
    · subst hσ
      walk_at "go"
      have ha4 := (ha.same s3).same ea
      obtain ⟨_, dx4, p4, hi4, _⟩ := id ha4
      refine ws_thru fun pn => ?_
      have hc' := hc.tr (pn := pn) (xe := fun _ _ => False)
      refine wl_cons ?_
      refine ws_ret ?_
      refine w_cmp ?_ (by walk_at "hm")
      refine x_listZ0 (E := fun _ _ _ => True) hc' (by walk_at "mb") (by walk_at "mb") h3 hr (by decide) ?_
      walk_at "w"
      refine ⟨(by show 0 ≤ sizeLine; omega), fun D8 H8 hD8 e8 hD8' => ?_⟩
      refine ⟨D8, rfl, ?_⟩
      walk_at "w"
      refine ⟨_, _, _, rfl, e8 _ _ hi4, rfl, ?_⟩
      walk_at "w"
      refine ⟨hD8', .inr ⟨a, .non, .non, rfl, .inl ⟨bad_non, fun _ _ _ _ => trivial⟩⟩, fun q1 hq1 => ?_⟩
      walk_at "w"
      refine ⟨(by show 0 ≤ sizeLine; omega), fun D9 H9 hD9 e9 hD9' => ?_⟩
      refine b_eqD hr.units (.lst (.inl (.inl (e9 _ _ upd_same))) .nil) (.lst (.inl (.inl hD9')) .nil) (by decide +kernel) (by decide +kernel) ?_
      rw [show PyData.eqv (.list []) (.list []) = true by decide +kernel]
      exact q _ (s3.trans (ea.trans (e8.trans ((same_new hq1).trans e9))))

/-! ### xs[::-1] -/
theorem pick_vals {xs : List V} {its : List Value} (r : Vals xs its) : ∀ L : List Nat, (∀ j ∈ L, j < xs.length) → Vals (L.map fun j => xs.getD j .non) (L.filterMap (its.toArray[·]?))
  | [], _ => .nil
  | j :: L, h => by
    have hj := h j List.mem_cons_self
    obtain ⟨u, hu, ru⟩ := r.get (show xs[j]? = some xs[j] from List.getElem?_eq_getElem hj)
    rw [List.map_cons, List.filterMap_cons, show its.toArray[j]? = some u by simpa using hu, List.getD_eq_getElem?_getD, List.getElem?_eq_getElem hj]
    exact .cons ru (pick_vals r L fun k hk => h k (List.mem_cons_of_mem _ hk))
theorem pick_rev02 {xs : List V} {its : List Value} (r : Vals xs its) : Vals xs.reverse (slicePick its.toArray none none (some (-1))).toList := by
  have hl := r.length
  have e : sliceRange (sliceBounds none none (some (-1)) its.toArray.size).1 (sliceBounds none none (some (-1)) its.toArray.size).2.1 (sliceBounds none none (some (-1)) its.toArray.size).2.2 = (List.range xs.length).map fun i => xs.length - 1 - i := by
    unfold sliceBounds sliceRange
    simp only [Option.getD_some, List.size_toArray]
    rw [← hl, if_neg (show ¬ ((-1 : Int) > 0) by decide), if_neg (show ¬ ((-1 : Int) > 0) by decide), if_neg (show ¬ ((-1 : Int) > 0) by decide)]
    have hc : (if ((xs.length : Nat) : Int) - 1 > -1 then (((xs.length : Nat) : Int) - 1 - -1 - -1 - 1) / (- -1) else 0).toNat = xs.length := by
      split
      · have : (((xs.length : Nat) : Int) - 1 - -1 - -1 - 1) / (- -1) = ((xs.length : Nat) : Int) := by
          rw [show (- -1 : Int) = 1 from rfl, Int.ediv_one]
          omega
        rw [this, Int.toNat_natCast]
      · show (0 : Int).toNat = _
        simp only [Int.toNat_zero]
        omega
    rw [hc]
    refine List.map_congr_left fun i hi => ?_
    have := List.mem_range.mp hi
    omega
  unfold slicePick
  rw [e]
  show Vals _ ((List.map (fun i => xs.length - 1 - i) (List.range xs.length)).filterMap (its.toArray[·]?)).toArray.toList
  have := pick_vals r ((List.range xs.length).map fun i => xs.length - 1 - i) (fun j hj => by
    obtain ⟨i, hi, rfl⟩ := List.mem_map.mp hj
    have := List.mem_range.mp hi
    omega)
  rw [List.map_map] at this
  rw [show xs.reverse = (List.range xs.length).map ((fun j => xs.getD j .non) ∘ fun i => xs.length - 1 - i) from ?_]
  · exact this
  · apply List.ext_getElem
    · simp
    · intro i h1 h2
      have h3 : xs.length - 1 - i < xs.length := by
        rw [List.length_reverse] at h1
        omega
      rw [List.getElem_reverse, List.getElem_map, List.getElem_range]
      show _ = xs.getD (xs.length - 1 - i) .non
      rw [List.getD_eq_getElem?_getD, List.getElem?_eq_getElem h3]; rfl
theorem w_rev {X : Cx} {e st : Expr} {σ : L2.St} {H : Hp} {Q : VK} {pos p2 : Pos} (h : WE X e σ H fun x H1 => WE X st σ H1 fun y H2 => ∃ (a : Addr) (xs : List V), x = .ref a ∧ y = .int (-1) ∧ SqL X.K H2 a xs ∧ ∀ p H', H2 p = none → Same H2 H' → H' p = some (.lst xs.reverse) → Q (.ref p) H')
    {ops : Value → Value → List Value} (hops : ∀ a b, subscripted (.Slice none none (some st) p2) false a b = operate (ops a b) (getItem a b) := by intro _ _; with_unfolding_all rfl) : WE X (.Subscript e (.Slice none none (some st) p2) pos) σ H Q := by
  refine ⟨fun pins s I => ?_⟩
  refine Subscript_ (thn (h.run pins s I) fun v s1 ⟨x, H1, I1, r1, q1⟩ => ?_)
  refine wpAny_Slice ?_
  rw [evalPart_none, evalPart_some]
  refine wpAny_pure (wpAny_pure (thn (q1.run pins s1 I1) fun vk s2 ⟨y, H2, I2, ry, a, xs, e1, e2, hx, q⟩ => ?_))
  subst e1 e2
  have pk : IsPart vk (some (-1)) := by
    obtain ⟨t, rfl⟩ := ry
    exact .int _ t
  cases r1
  have hg : wpAny (model X.prog X.w) X.A (getItem (.ref a) (.ref s2.heap.objs.size)) (EP X pins σ Q) X.xe { s2 with heap := s2.heap.push { cls := .type "slice", data := .fields #[.none, .none, vk] } } := by
    have I4 : Inv X pins σ H2 { s2 with heap := s2.heap.push { cls := .type "slice", data := .fields #[.none, .none, vk] } } := I2.kept (t' := s2.toks) fun b ob q => Heap.get?_push_of_some _ q
    obtain ⟨its2, rv2, p2', hz2⟩ := I4.list hx
    have hle := rv2.length
    refine wpAny_getItem_list_slice p2'.isList (Heap.IsSliceOf.new ..) .none .none pk (by intro z; injection z with z; omega) ?_ (by rw [List.size_toArray]; omega)
    refine ⟨.ref _, _, I4.laid (t' := s2.toks) (o := .lst xs.reverse) (fun b ob q => Heap.get?_push_of_some _ q) (Nat.le_refl _) ?_, rfl, q _ _ (I4.hok.fresh (Nat.le_refl _)) (same_new (I4.hok.fresh (Nat.le_refl _))) upd_same⟩
    refine ⟨by rw [List.length_reverse]; omega, _, 0, pick_rev02 rv2, ?_⟩
    rw [Array.toArray_toList]
    exact Heap.get?_push_size _ rfl
  show wpAny (model X.prog X.w) X.A (subscriptTail e (.Slice none none (some st) p2) (.ref a) (.ref s2.heap.objs.size)) (EP X pins σ Q) X.xe { s2 with heap := s2.heap.push { cls := .type "slice", data := .fields #[.none, .none, vk] } }
  have hlist : ({ s2 with heap := s2.heap.push { cls := .type "slice", data := .fields #[.none, .none, vk] } } : Shared).TypeIs (.ref a) "list" := by
    have I4 : Inv X pins σ H2 { s2 with heap := s2.heap.push { cls := .type "slice", data := .fields #[.none, .none, vk] } } := I2.kept (t' := s2.toks) fun b ob q => Heap.get?_push_of_some _ q
    obtain ⟨its2, rv2, p2', hz2⟩ := I4.list hx
    exact p2'.isList.typeIs
  exact tail_any hlist slot_list_getitem.lookup hg (hops _ _)
/-- what every told heap has -/
theorem we_own {X : Cx} {e : Expr} {σ : L2.St} {H : Hp} {Q : VK} (h : OwnF H → WE X e σ H Q) : WE X e σ H Q := ⟨fun pins s I => (h (ownF_of I.hok)).run pins s I⟩
/-! ### the numbers -/
theorem filt02 (f q : Nat → Bool) (N : Nat) : ((sel f N).filter q).length = ct (fun n => q n && f n) N := by
  unfold sel
  rw [List.filter_filter, ct_lof]
theorem below02 (f : Nat → Bool) {o N : Nat} (h : o ≤ N) : ((sel f N).filter fun n => decide (n < o)).length = ct f o := by
  rw [filt02]
  have : ∀ M, ct (fun n => decide (n < o) && f n) M = ct f (min M o) := fun M => by
    induction M with
    | zero => rw [Nat.zero_min]; rfl
    | succ M ih =>
      rw [ct_succ, ih]
      by_cases hM : M < o
      · rw [Nat.min_eq_left (show M ≤ o by omega), Nat.min_eq_left (show M + 1 ≤ o by omega), ct_succ, decide_eq_true hM, Bool.true_and]
      · rw [Nat.min_eq_right (by omega), Nat.min_eq_right (by omega), decide_eq_false hM, Bool.false_and]; rfl
  rw [this, Nat.min_eq_right h]
theorem sel_at02 {f : Nat → Bool} {N k : Nat} (h : k < ct f N) : ∃ r, (sel f N)[k]? = some r ∧ r < N ∧ f r = true ∧ ct f r = k := filter_range h
theorem sel_any02 (f : Nat → Bool) (N n : Nat) (h : n < N) : (sel f N).any (· == n) = f n := by
  rw [Bool.eq_iff_iff, List.any_eq_true]
  constructor
  · rintro ⟨m, hm, e⟩
    rw [← eq_of_beq e]
    exact (sel_mem.mp hm).2
  · intro e
    exact ⟨n, sel_mem.mpr ⟨h, e⟩, beq_self_eq_true n⟩
theorem surv02 (f : Nat → Bool) {i j N : Nat} (h : j ≤ N) : (sel f N).filter (fun n => decide (i ≤ n) && decide (n < j)) = surv f i j := by
  unfold surv
  have e1 : (sel f N).filter (fun n => decide (i ≤ n) && decide (n < j)) = sel (fun n => (decide (i ≤ n) && decide (n < j)) && f n) N := by
    unfold sel
    rw [List.filter_filter]
  rw [e1, sel_gap (M := j) (M' := N) h fun m h1 h2 => by rw [decide_eq_false (show ¬ m < j by omega), Bool.and_false, Bool.false_and]]
  unfold sel
  refine List.filter_congr fun n hn => ?_
  rw [decide_eq_true (List.mem_range.mp hn), Bool.and_true]
theorem sel_get02 {f : Nat → Bool} {N k n : Nat} (h : k < ct f N) (h1 : f n = true) (h2 : ct f n = k) : (sel f N).getD k 0 = n := by
  obtain ⟨r, e, _, r1, r2⟩ := sel_at02 h
  rw [List.getD_eq_getElem?_getD, e]
  exact ct_inj r1 h1 (r2.trans h2.symm)
theorem sel_gets02 (f : Nat → Bool) (N : Nat) : ((List.range (ct f N)).map fun i => (((sel f N).getD i 0 : Nat) : Int)) = (sel f N).map fun n => ((n : Nat) : Int) := by
  apply List.ext_getElem
  · simp [sel_len]
  · intro i h1 h2
    have h3 : i < (sel f N).length := by simpa using h2
    rw [List.getElem_map, List.getElem_map, List.getElem_range, List.getD_eq_getElem?_getD, List.getElem?_eq_getElem h3]; rfl
theorem rev02 {α : Type} (f : Nat → α) (c : Nat) : ((List.range c).map fun i => f (c - 1 - i)) = ((List.range c).map f).reverse := by
  apply List.ext_getElem
  · simp
  · intro i h1 h2
    rw [List.getElem_reverse, List.getElem_map, List.getElem_map, List.getElem_range, List.getElem_range]
    simp
abbrev iN (ns : List Nat) : List V := (ns.map fun n => ((n : Nat) : Int)).map V.int
theorem dps02 {H : Hp} : ∀ ns : List Int, DpAll K H (ns.map V.int) (ns.map PyData.int)
  | [] => .nil
  | n :: ns => .cons (.int n) (dps02 ns)
theorem b_neInts {X : Cx} {σ : L2.St} {H : Hp} {Q : VK} {a b : Addr} {xs ys : List V} {ns : List Int} (hu : X.A.units + 64 < cLine) (ha : H a = some (.lst xs)) (hb : H b = some (.lst ys)) (e1 : xs = ns.map V.int) (e2 : ys = ns.map V.int) (q : Q (.bl false) H) : WB X (compareOp .NotEq) (.ref a) (.ref b) σ H Q := by
  subst e1 e2
  exact b_neD hu (.lst (.inl (.inl ha)) (dps02 _)) (.lst (.inl (.inl hb)) (dps02 _)) (PySem.W.shaped_ints _) (PySem.W.shaped_ints _) (by rw [eqv_list]; exact q)
/-! ### bools, as repr shows them -/
theorem bl_shown (b : Bool) : (PyData.bool b).shown.length ≤ 5 := by cases b <;> decide +kernel
theorem bsD_all : ∀ bs : List Bool, PyData.showableAll (bs.map PyData.bool) = true ∧ PyData.hasDictAll (bs.map PyData.bool) = false ∧ PyData.depthAll (bs.map PyData.bool) ≤ 2 ∧ (PyData.shownAll (bs.map PyData.bool)).length = bs.length ∧ ((PyData.shownAll (bs.map PyData.bool)).map (·.length)).sum ≤ 5 * bs.length
  | [] => by simp [PyData.showableAll, PyData.hasDictAll, PyData.depthAll, PyData.shownAll]
  | b :: bs => by
    obtain ⟨a1, a2, a3, a4, a5⟩ := bsD_all bs
    have b4 := bl_shown b
    have b1 : (PyData.bool b).showable = true := by simp [PyData.showable]
    have b2 : (PyData.bool b).hasDict = false := by simp [PyData.hasDict]
    have b5 : (PyData.bool b).depth ≤ 1 := by simp [PyData.depth]
    simp only [List.map_cons, PyData.showableAll, PyData.hasDictAll, PyData.depthAll, PyData.shownAll, a1, a2, b1, b2, List.length_cons, a4, List.sum_cons]
    and_intros
    all_goals first | rfl | trivial | omega
theorem bs_dp {H : Hp} : ∀ bs : List Bool, DpAll K H (bs.map V.bl) (bs.map PyData.bool)
  | [] => .nil
  | b :: bs => .cons (.bl b) (bs_dp bs)
theorem bs_ok (bs : List Bool) (hn : bs.length ≤ 2000) : (PyData.list (bs.map PyData.bool)).showable = true ∧ (PyData.list (bs.map PyData.bool)).hasDict = false ∧ (PyData.list (bs.map PyData.bool)).depth < 60 ∧ (PyData.list (bs.map PyData.bool)).shown.length ≤ sizeLine := by
  obtain ⟨a1, a2, a3, a4, a5⟩ := bsD_all bs
  have h1 := listText_len_le (PyData.shownAll (bs.map PyData.bool))
  refine ⟨by simp only [PyData.showable]; exact a1, by simp only [PyData.hasDict]; exact a2, by simp only [PyData.depth]; omega, ?_⟩
  rw [sizeLine_eq]
  show (listText (PyData.shownAll (bs.map PyData.bool))).length ≤ 16777216
  omega
/-! ### pairs -/
abbrev pD (n : Nat) : PyData := .tuple [.int ((n : Nat) : Int), .int ((n : Nat) : Int)]
theorem pD_lay : ∀ ns : List Nat, PyData.canLayAll0 (ns.map pD) = true
  | [] => by simp [PyData.canLayAll0]
  | n :: ns => by simp [PyData.canLayAll0, PyData.canLay0, pD_lay ns]
theorem pD_dep : ∀ ns : List Nat, PyData.depthAll (ns.map pD) ≤ 3
  | [] => by simp [PyData.depthAll]
  | n :: ns => by
    have := pD_dep ns
    simp only [List.map_cons, PyData.depthAll, PyData.depth]
    omega
theorem pD_eqv : ∀ ns : List Nat, PyData.eqvAll (ns.map pD) (ns.map pD) = true
  | [] => by simp [PyData.eqvAll]
  | n :: ns => by simp [PyData.eqvAll, PyData.eqv, pD_eqv ns]
theorem pD_shaped (ns : List Nat) : SeqAt.shaped (.list (ns.map pD)) = true := by
  have h1 := pD_dep ns
  have h3 : PyData.depth (.list (ns.map pD)) ≤ 64 := by simp only [PyData.depth]; omega
  show (PyData.canLay0 (.list (ns.map pD)) && decide (PyData.depth (.list (ns.map pD)) ≤ 64)) = true
  rw [decide_eq_true h3, Bool.and_true]
  simp only [PyData.canLay0]
  exact pD_lay ns
theorem pD_dps {H : Hp} : ∀ (ps : List Addr) (ns : List Nat), ps.length = ns.length → (∀ (t : Nat) b, ps[t]? = some b → ∃ n, ns[t]? = some n ∧ H b = some (.tup [.int ((n : Nat) : Int), .int ((n : Nat) : Int)])) → DpAll K H (ps.map V.ref) (ns.map pD)
  | [], [], _, _ => .nil
  | [], _ :: _, h, _ => by cases h
  | _ :: _, [], h, _ => by cases h
  | p :: ps, n :: ns, h, hp => by
    obtain ⟨n', e, hb⟩ := hp 0 p rfl
    cases e
    exact .cons (.tup (.inl (.inl hb)) (.cons (.int _) (.cons (.int _) .nil))) (pD_dps ps ns (by simpa using h) fun t b ht => hp (t + 1) b ht)
def spLaw (K : PySem.W.Frag) : Sp := fun vs H Q _ => ∃ (a : Addr) (ns : List Int), vs = [.ref a] ∧ SqL K H a (ns.map V.int) ∧ ns.length ≤ 63 ∧ ∀ H', Q (.bl true) H'
theorem ok_law (F : FunD K "law" "law" (defArgs s_law) (defBody s_law) (defScope s_law) [] [] f fd) (hb : ∀ x ∈ BB, mg x = none) (SC : SvC K mg)
    (h1 : Fn P w K mg base "_law_pool" 2 (spPool K)) (h2 : Fn P w K mg base "_law_take" 2 spTake) (h3 : Fn P w K mg base "_law_pattern" 3 spLPat) (h4 : Fn P w K mg base "_law_kept" 2 (spLKept K))
    (h5 : Mkr P w K mg base (cS K) 4 (spSvInit K)) (h6 : Mth P w K mg base (cS K) "nth" 4 (spNth K)) (h7 : Mth P w K mg base (cS K) "rank" 4 (spRank K)) (h8 : Mth P w K mg base (cS K) "is_kept" 4 (spKeptE K)) (h9 : GMt P w K mg base (cS K) "survivors" 5 (spSurvE K))
    (h10 : ZMtQ P w K mg base (cS K) "survivors" 5 (spSurvQ K)) (h11 : FnG P w K mg base "_law_errors_right" 10 (spErr02 K)) : FnOkG P w K mg base (L2.CX P w) 11 f fd ["_law_script"] (spLaw K) := by
  refine fnokg_of F sc_law (fun vs H Q E h => ?_) (fun x hx => hb x (by revert x; decide +kernel)) fun cd A outer s H vs Q E hg hr hc h => ?_
  · obtain ⟨a, ns, rfl, _⟩ := h; rfl
  obtain ⟨sc, ns, rfl, hsc, hns, q⟩ := h
  have hz : sizeLine = 16777216 := sizeLine_eq
  refine wl_start (σ' := [some (.ref sc), none, none, none, none, none, none, none, none, none, none, none, none, none]) rfl (wl_cons ?_)
  refine ws_for owns_cx hc ?_
  refine wi_range1 hc (by walk_at "mb") ?_
  walk_at "w"
  refine ⟨_, .inl ⟨_, hsc, rfl⟩, ?_⟩
  refine ⟨_, _, rfl, rfl, ?_⟩
  refine ⟨_, _, rfl, rfl, ?_⟩
  refine ⟨_, rfl, ?_⟩
  generalize hN : (if (if ((List.map V.int ns).length : Int) < 10 then ((List.map V.int ns).length : Int) else 10) > 1 then (if ((List.map V.int ns).length : Int) < 10 then ((List.map V.int ns).length : Int) else 10) else 1) = NN
  have hNN : 0 ≤ NN ∧ NN ≤ 10 := by
    rw [← hN]
    have : (0 : Int) ≤ ((List.map V.int ns).length : Int) := Int.natCast_nonneg _
    split <;> split <;> omega
  refine ⟨by omega, by omega, ?_⟩
  refine ⟨_, _, wlk_range, fun i σ' H' => Same H H' ∧ ∃ o1 o2 o3 o4 o5 o6 o7 o8 o9 o10, σ' = [some (.ref sc), o1, o2, o3, o4, o5, o6, o7, o8, o9, o10, none, none, none], ⟨Same.refl _, _, _, _, _, _, _, _, _, _, _, rfl⟩, fun i σ' H' h => h.1, fun i σ' H0 hi ⟨eH, o1, o2, o3, o4, o5, o6, o7, o8, o9, o10, hσ⟩ => ?_, fun σ' H0 ⟨eH, o1, o2, o3, o4, o5, o6, o7, o8, o9, o10, hσ⟩ => ?_⟩
  rotate_left
  · subst hσ
    walk_at "w"
    exact q _
  subst hσ
  rw [show (0 : Int) + (i : Nat) = ((i : Nat) : Int) by omega]
  refine wg_name hc (by walk_at "put") (by walk_at "mb") ?_
  walk_at "go"
  walk_at "w"
  refine w_call hc (by walk_at "mb") h1 hr (by decide) passL ?_
  walk_at "w"
  refine ⟨sc, ns, i, rfl, Same.seq eH hsc, hns, by omega, fun p H1 hp e1 hp1 => ?_⟩
  refine ⟨_, by walk_at "put", ?_⟩
  walk_at "go"
  walk_at "w"
  refine w_call hc (by walk_at "mb") h3 hr (by decide) passL ?_
  walk_at "w"
  refine ⟨p, 24, rfl, hp1, by decide, by decide, fun l H2 e2 pl hl => ?_⟩
  walk_at "w"
  refine ws_asg ?_
  walk_at "w"
  have ol := pl.one
  have l75 : l.length ≤ 75 := by omega
  refine w_make hc (by walk_at "mb") SC.g h5 hr (by decide) passL ?_
  walk_at "w"
  refine made_sv ⟨pl, fun a m H3 e3 gm km dm hs => ?_⟩
  have hkf : kp m = kp l := funext km
  walk_at "w"
  refine w_call hc (by walk_at "mb") h4 hr (by decide) passL ?_
  walk_at "w"
  refine ⟨l.length, ⟨by rw [sOf_len]; omega, by rw [sOf_len]⟩, ?_⟩
  refine b_mul (mul_small' (by decide) (by decide)) ?_
  refine wa_nil ?_
  rw [show (4 : Int) * ((l.length : Nat) : Int) = ((4 * l.length : Nat) : Int) by omega]
  refine ⟨l, 4 * l.length, rfl, pl, by omega, fun D H4a hDa e4a hD4a => ?_⟩
  refine wa_nil ?_
  refine ⟨(by show 2 ≤ sizeLine; omega), fun T H4 hT e4b hT1 => ?_⟩
  refine wg_tup hc (.inl (.inl hT1)) ?_
  walk_at "w"
  have e4 := e4a.trans e4b
  have hD4 := e4b _ _ hD4a
  have hp4 := e4 _ _ (e3 _ _ (e2 _ _ hp1))
  have hs4 := hs.same e4
  have hper : Per (kp l) l.length := kp_per l
  have hS0 : 0 < ct (kp l) l.length := pl.size
  generalize hn4 : 4 * l.length = n4 at *
  have hn0 : 0 < n4 := by omega
  have hn3 : n4 ≤ 300 := by omega
  have e0 : Same H H4 := eH.trans (e1.trans (e2.trans (e3.trans e4)))
  generalize hf : kp l = g at *
  have hSL : ct g n4 ≤ n4 := ct_le _ _
  have hlen : (((sel g n4).map fun n => ((n : Nat) : Int)).map V.int).length = ct g n4 := by rw [List.length_map, List.length_map, sel_len]
  obtain ⟨_, dx, p0, hi1, hi2⟩ := id hs4
  -- is_kept
  refine ws_setLc hc (own := bO_law_0) (by kernel_rfl) (fun j acc => acc = (lof g j).map V.bl) ?_ (by kernel_rfl) (by kernel_rfl) (iy := ⟨4, rfl⟩)
  refine wi_range1 hc (by walk_at "mb") ?_
  walk_at "w"
  refine ⟨l.length, ⟨by rw [sOf_len]; omega, by rw [sOf_len]⟩, ?_⟩
  refine b_mul (mul_small' (by decide) (by decide)) ?_
  rw [show (4 : Int) * ((l.length : Nat) : Int) = ((n4 : Nat) : Int) by omega]
  refine ⟨_, rfl, by omega, by omega, _, _, wlk_range, by omega, rfl, fun j acc H' hj hl hP hS => ?_, fun acc D5 H5 hl hP hD5 e5 hD5' => ?_⟩
  · rw [show (0 : Int) + (j : Nat) = ((j : Nat) : Int) by omega]
    intro X1 b1
    have c1 := nm_blk (L' := bL_law_0) (S' := bS_law_0) (G' := bG_law_0) (B' := bB_law_0) b1 hc (by kernel_rfl) (fun x hx => hb x (by revert x; decide +kernel))
    simp only [wipe, List.map_cons, List.map_nil, List.set_cons_succ, List.set_cons_zero]
    walk_at "w"
    refine ⟨rfl, rfl, ?_⟩
    intro X2 b2
    refine wts_nil ?_
    refine ⟨Same.refl _, ite_t ?_⟩
    intro X3 b3
    have c3 := nm_blk (L' := bL_law_0) (S' := bS_law_0) (G' := bG_law_0) (B' := bB_law_0) b3 hc (by kernel_rfl) (fun x hx => hb x (by revert x; decide +kernel))
    obtain ⟨_, _, _, _, _, rfl⟩ := b3
    refine w_meth h8 hr (by decide) passL ?_
    walk_at "w"
    refine ⟨_, _, _, rfl, hS _ _ hi1, rfl, ?_⟩
    walk_at "w"
    refine ⟨a, m, _, rfl, hs4.same hS, .inl ⟨j, rfl, ?_⟩⟩
    refine ⟨Same.refl _, ?_⟩
    rw [hP, hkf, lof, lof, List.range_succ]
    simp
  rw [Int.toNat_natCast] at hP
  refine ⟨_, by walk_at "put", ?_⟩
  have hBs := bs_ok (lof g n4) (by rw [lof_len]; omega)
  subst hP
  walk_at "go"
  refine ws_if ?_
  refine wt_cmp ?_ (by walk_at "hm")
  refine x_reprD (d := .list ((lof g n4).map PyData.bool)) hc (by walk_at "mb") hg hr.units ?_
  walk_at "w"
  refine ⟨.lst (.inl (.inl hD5')) (bs_dp _), hBs.1, hBs.2.1, hBs.2.2.1, hBs.2.2.2, ?_⟩
  refine x_reprD (d := .list ((lof g n4).map PyData.bool)) hc (by walk_at "mb") hg hr.units ?_
  have hD5k := e5 _ _ hD4
  refine w_lc hc (own := bO_law_1) (by kernel_rfl) (fun j acc => acc = (lof g j).map V.bl) ?_
  refine wi_range1 hc (by walk_at "mb") ?_
  walk_at "w"
  refine ⟨l.length, ⟨by rw [sOf_len]; omega, by rw [sOf_len]⟩, ?_⟩
  refine b_mul (mul_small' (by decide) (by decide)) ?_
  rw [show (4 : Int) * ((l.length : Nat) : Int) = ((n4 : Nat) : Int) by omega]
  refine ⟨_, rfl, by omega, by omega, _, _, wlk_range, by omega, rfl, fun j acc H' hj hl hP hS => ?_, fun acc D6 H6 hl hP hD6 e6 hD6' => ?_⟩
  · rw [Int.toNat_natCast] at hj
    rw [show (0 : Int) + (j : Nat) = ((j : Nat) : Int) by omega]
    intro X1 b1
    have c1 := nm_blk (L' := bL_law_1) (S' := bS_law_1) (G' := bG_law_1) (B' := bB_law_1) b1 hc (by kernel_rfl) (fun x hx => hb x (by revert x; decide +kernel))
    simp only [wipe, List.map_cons, List.map_nil, List.set_cons_succ, List.set_cons_zero]
    walk_at "w"
    refine ⟨rfl, rfl, ?_⟩
    intro X2 b2
    refine wts_nil ?_
    refine ⟨Same.refl _, ite_t ?_⟩
    intro X3 b3
    have c3 := nm_blk (L' := bL_law_1) (S' := bS_law_1) (G' := bG_law_1) (B' := bB_law_1) b3 hc (by kernel_rfl) (fun x hx => hb x (by revert x; decide +kernel))
    obtain ⟨_, _, _, _, _, rfl⟩ := b3
    walk_at "w"
    refine b_inL (.inl (.inl (.inl (hS _ _ hD5k)))) rfl (flat_ints _) ?_
    rw [inV_ints, sel_any02 _ _ _ hj]
    refine ⟨Same.refl _, ?_⟩
    rw [hP, lof, lof, List.range_succ]
    simp
  rw [Int.toNat_natCast] at hP
  subst hP
  refine ⟨.lst (.inl (.inl hD6')) (bs_dp _), hBs.1, hBs.2.1, hBs.2.2.1, hBs.2.2.2, ?_⟩
  walk_at "w"
  rw [decide_eq_true rfl]
  walk_at "w"
  have e46 : Same H4 H6 := e5.trans e6
  have hD6k := e6 _ _ hD5k
  have hs6 := hs4.same e46
  have hi6 := e46 _ _ hi1
  -- nth, backwards
  refine w_lc hc (own := bO_law_2) (by kernel_rfl) (fun j acc => acc = ((List.range j).map fun i => (((sel g n4).getD (ct g n4 - 1 - i) 0 : Nat) : Int)).map V.int) ?_
  refine wi_list ?_
  refine w_rev ?_
  refine x_listRg hc (by walk_at "mb") (by walk_at "mb") ?_
  walk_at "w"
  refine ⟨ct g n4, .inl ⟨_, .inl (.inl hD6k), hlen.symm⟩, ?_⟩
  refine ⟨ct g n4, rfl, by omega, fun L1 H7 hL1 e7 hL1' => ?_⟩
  walk_at "w"
  refine ⟨L1, _, rfl, rfl, .inl (.inl hL1'), fun L2 H8 hL2 e8 hL2' => ?_⟩
  have hrl : (((List.range (ct g n4)).map fun i => V.int ((i : Nat) : Int)).reverse).length = ct g n4 := by simp
  have hs8 := (hs6.same e7).same e8
  have hi8 := e8 _ _ (e7 _ _ hi6)
  refine ⟨L2, _, rfl, .inl (.inl hL2'), _, _, wlk_list (.inl (.inl hL2')), (by rw [hrl]; omega), rfl, fun j acc H' hj hl hP hS => ?_, fun acc D9 H9 hl hP hD9 e9 hD9' => ?_⟩
  · rw [hrl] at hj
    have hget : (((List.range (ct g n4)).map fun i => V.int ((i : Nat) : Int)).reverse).getD j .non = .int ((ct g n4 - 1 - j : Nat) : Int) := by
      rw [List.getD_eq_getElem?_getD, List.getElem?_eq_getElem (by rw [hrl]; exact hj), List.getElem_reverse, List.getElem_map, List.getElem_range]
      simp
    rw [hget]
    intro X1 b1
    have c1 := nm_blk (L' := bL_law_2) (S' := bS_law_2) (G' := bG_law_2) (B' := bB_law_2) b1 hc (by kernel_rfl) (fun x hx => hb x (by revert x; decide +kernel))
    simp only [wipe, List.map_cons, List.map_nil, List.set_cons_succ, List.set_cons_zero]
    walk_at "w"
    refine ⟨rfl, rfl, ?_⟩
    intro X2 b2
    refine wts_nil ?_
    refine ⟨Same.refl _, ite_t ?_⟩
    intro X3 b3
    have c3 := nm_blk (L' := bL_law_2) (S' := bS_law_2) (G' := bG_law_2) (B' := bB_law_2) b3 hc (by kernel_rfl) (fun x hx => hb x (by revert x; decide +kernel))
    obtain ⟨_, _, _, _, _, rfl⟩ := b3
    refine w_meth h6 hr (by decide) passL ?_
    walk_at "w"
    refine ⟨_, _, _, rfl, hS _ _ hi8, rfl, ?_⟩
    walk_at "w"
    refine ⟨a, m, _, rfl, hs8.same hS, fun n Hn en k1 k2 => ?_⟩
    rw [hkf] at k1 k2
    refine ⟨en, ?_⟩
    rw [hP, List.range_succ, List.map_append, List.map_append]
    simp only [List.map_cons, List.map_nil]
    rw [sel_get02 (show ct g n4 - 1 - j < ct g n4 by omega) k1 k2]
  rw [hrl] at hP
  refine w_rev ?_
  walk_at "w"
  have e69 : Same H6 H9 := e7.trans (e8.trans e9)
  have hD9k := e69 _ _ hD6k
  refine ⟨D, _, rfl, rfl, .inl (.inl hD9k), fun L3 H10 hL3 e10 hL3' => ?_⟩
  refine b_neInts (ns := ((sel g n4).map fun n => ((n : Nat) : Int)).reverse) hr.units (e10 _ _ hD9') hL3' (by rw [hP, ← sel_gets02, ← rev02 (fun i => (((sel g n4).getD i 0 : Nat) : Int))]) (by rw [List.map_reverse]) ?_
  walk_at "w"
  have e6a : Same H6 H10 := e69.trans e10
  have hDa := e6a _ _ hD6k
  have hsa := hs6.same e6a
  have hia := e6a _ _ hi6
  -- nth, forwards
  refine w_lc hc (own := bO_law_3) (by kernel_rfl) (fun j acc => acc = ((List.range j).map fun i => (((sel g n4).getD i 0 : Nat) : Int)).map V.int) ?_
  refine wi_range1 hc (by walk_at "mb") ?_
  walk_at "w"
  refine ⟨ct g n4, .inl ⟨_, .inl (.inl hDa), hlen.symm⟩, ?_⟩
  refine ⟨_, rfl, by omega, by omega, _, _, wlk_range, by omega, rfl, fun j acc H' hj hl hP hS => ?_, fun acc Db Hb hl hP hDb eb hDb' => ?_⟩
  · rw [Int.toNat_natCast] at hj
    rw [show (0 : Int) + (j : Nat) = ((j : Nat) : Int) by omega]
    intro X1 b1
    have c1 := nm_blk (L' := bL_law_3) (S' := bS_law_3) (G' := bG_law_3) (B' := bB_law_3) b1 hc (by kernel_rfl) (fun x hx => hb x (by revert x; decide +kernel))
    simp only [wipe, List.map_cons, List.map_nil, List.set_cons_succ, List.set_cons_zero]
    walk_at "w"
    refine ⟨rfl, rfl, ?_⟩
    intro X2 b2
    refine wts_nil ?_
    refine ⟨Same.refl _, ite_t ?_⟩
    intro X3 b3
    have c3 := nm_blk (L' := bL_law_3) (S' := bS_law_3) (G' := bG_law_3) (B' := bB_law_3) b3 hc (by kernel_rfl) (fun x hx => hb x (by revert x; decide +kernel))
    obtain ⟨_, _, _, _, _, rfl⟩ := b3
    refine w_meth h6 hr (by decide) passL ?_
    walk_at "w"
    refine ⟨_, _, _, rfl, hS _ _ hia, rfl, ?_⟩
    walk_at "w"
    refine ⟨a, m, j, rfl, hsa.same hS, fun n Hn en k1 k2 => ?_⟩
    rw [hkf] at k1 k2
    refine ⟨en, ?_⟩
    rw [hP, List.range_succ, List.map_append, List.map_append]
    simp only [List.map_cons, List.map_nil]
    rw [sel_get02 hj k1 k2]
  rw [Int.toNat_natCast] at hP
  walk_at "w"
  refine b_neInts (ns := (sel g n4).map fun n => ((n : Nat) : Int)) hr.units hDb' (eb _ _ hDa) (by rw [hP, sel_gets02]) rfl ?_
  walk_at "w"
  have e6b : Same H6 Hb := e6a.trans eb
  have hDbk := e6b _ _ hD6k
  have hsb := hs6.same e6b
  have hib := e6b _ _ hi6
  clear hD9k hDa hsa hia e6a e69 hs8 hi8
  -- ranks
  refine ws_setLc hc (own := bO_law_4) (by kernel_rfl) (fun j acc => acc = ((List.range j).map fun i => ((ct g i : Nat) : Int)).map V.int) ?_ (by kernel_rfl) (by kernel_rfl) (iy := ⟨5, rfl⟩)
  refine wi_range1 hc (by walk_at "mb") ?_
  walk_at "w"
  refine ⟨l.length, ⟨by rw [sOf_len]; omega, by rw [sOf_len]⟩, ?_⟩
  refine b_mul (mul_small' (by decide) (by decide)) ?_
  rw [show (4 : Int) * ((l.length : Nat) : Int) = ((n4 : Nat) : Int) by omega]
  walk_at "w"
  rw [show ((n4 : Nat) : Int) + 1 = ((n4 + 1 : Nat) : Int) by omega]
  refine ⟨by omega, by omega, _, _, wlk_range, by omega, rfl, fun j acc H' hj hl hP hS => ?_, fun acc Dc Hc hl hP hDc ec hDc' => ?_⟩
  · rw [Int.toNat_natCast] at hj
    rw [show (0 : Int) + (j : Nat) = ((j : Nat) : Int) by omega]
    intro X1 b1
    have c1 := nm_blk (L' := ["_law_kept_here", "_law_number"]) (S' := bS_law_4) (G' := bG_law_4) (B' := bB_law_4) b1 hc (by kernel_rfl) (fun x hx => hb x (by revert x; decide +kernel))
    simp only [wipe, List.map_cons, List.map_nil, List.set_cons_succ, List.set_cons_zero]
    walk_at "w"
    refine ⟨rfl, rfl, ?_⟩
    intro X2 b2
    refine wts_nil ?_
    refine ⟨Same.refl _, ite_t ?_⟩
    intro X3 b3
    have c3 := nm_blk (L' := ["_law_kept_here", "_law_number"]) (S' := bS_law_4) (G' := bG_law_4) (B' := bB_law_4) b3 hc (by kernel_rfl) (fun x hx => hb x (by revert x; decide +kernel))
    obtain ⟨_, _, _, _, _, rfl⟩ := b3
    have hDj := hS _ _ hDbk
    refine x_len c3 (by walk_at "mb") ?_
    refine w_lc c3 (own := bO_law_5) (by kernel_rfl) (fun t acc2 => acc2 = ((((sel g n4).take t).filter fun n => decide (n < j)).map fun n => ((n : Nat) : Int)).map V.int) ?_
    refine wi_list ?_
    walk_at "w"
    refine ⟨D, _, rfl, .inl (.inl hDj), _, _, wlk_list (.inl (.inl hDj)), (by rw [hlen]; omega), rfl, fun t acc2 H2' ht hl2 hP2 hS2 => ?_, fun acc2 Dd Hd hl2 hP2 hDd ed hDd' => ?_⟩
    · rw [List.length_map, List.length_map] at ht
      have hget : ((((sel g n4).map fun n => ((n : Nat) : Int)).map V.int)).getD t .non = .int (((sel g n4)[t] : Nat) : Int) := by
        rw [List.getD_eq_getElem?_getD, List.getElem?_map, List.getElem?_map, List.getElem?_eq_getElem ht]; rfl
      rw [hget]
      intro X4 b4
      have c4 := nm_blk (L' := bL_law_5) (S' := bS_law_5) (G' := bG_law_5) (B' := bB_law_5) b4 c3 (by kernel_rfl) (fun x hx => hb x (by revert x; decide +kernel))
      simp only [wipe, List.map_cons, List.map_nil, List.set_cons_succ, List.set_cons_zero]
      walk_at "w"
      refine ⟨rfl, rfl, ?_⟩
      intro X5 b5
      refine wts_one ?_
      have c5 := nm_blk (L' := bL_law_5) (S' := bS_law_5) (G' := bG_law_5) (B' := bB_law_5) b5 c3 (by kernel_rfl) (fun x hx => hb x (by revert x; decide +kernel))
      obtain ⟨_, _, _, _, _, rfl⟩ := b5
      walk_at "w"
      refine ⟨Same.refl _, ?_⟩
      by_cases hlt : (sel g n4)[t] < j
      · rw [decide_eq_true (show (((sel g n4)[t] : Nat) : Int) < ((j : Nat) : Int) by omega)]
        refine ite_t ?_
        intro X6 b6
        have c6 := nm_blk (L' := bL_law_5) (S' := bS_law_5) (G' := bG_law_5) (B' := bB_law_5) b6 c3 (by kernel_rfl) (fun x hx => hb x (by revert x; decide +kernel))
        walk_at "w"
        refine ⟨Same.refl _, ?_⟩
        rw [hP2, List.take_succ_eq_append_getElem ht, List.filter_append, List.map_append, List.map_append, List.filter_cons_of_pos (by rw [decide_eq_true hlt])]; rfl
      · rw [decide_eq_false (show ¬ (((sel g n4)[t] : Nat) : Int) < ((j : Nat) : Int) by omega)]
        refine ite_f ?_
        rw [hP2, List.take_succ_eq_append_getElem ht, List.filter_append, List.filter_cons_of_neg (by rw [decide_eq_false hlt]; decide)]; simp
    · rw [List.length_map, List.length_map, List.take_length] at hP2
      have hbl : acc2.length = ct g j := by rw [hP2, List.length_map, List.length_map, below02 _ (by omega)]
      refine ⟨ct g j, .inl ⟨_, .inl (.inl hDd'), hbl.symm⟩, ?_⟩
      refine ⟨ed, ?_⟩
      rw [hP, List.range_succ, List.map_append, List.map_append]
      rfl
  rw [Int.toNat_natCast] at hP
  refine ⟨_, by walk_at "put", ?_⟩
  subst hP
  walk_at "go"
  have hsc2 := hsb.same ec
  have hic := ec _ _ hib
  -- rank
  refine ws_if ?_
  refine wt_cmp ?_ (by walk_at "hm")
  refine w_lc hc (own := bO_law_6) (by kernel_rfl) (fun j acc => acc = ((List.range j).map fun i => ((ct g i : Nat) : Int)).map V.int) ?_
  refine wi_range1 hc (by walk_at "mb") ?_
  walk_at "w"
  refine ⟨l.length, ⟨by rw [sOf_len]; omega, by rw [sOf_len]⟩, ?_⟩
  refine b_mul (mul_small' (by decide) (by decide)) ?_
  rw [show (4 : Int) * ((l.length : Nat) : Int) = ((n4 : Nat) : Int) by omega]
  walk_at "w"
  rw [show ((n4 : Nat) : Int) + 1 = ((n4 + 1 : Nat) : Int) by omega]
  refine ⟨by omega, by omega, _, _, wlk_range, by omega, rfl, fun j acc H' hj hl hP hS => ?_, fun acc De He hl hP hDe ee hDe' => ?_⟩
  · rw [Int.toNat_natCast] at hj
    rw [show (0 : Int) + (j : Nat) = ((j : Nat) : Int) by omega]
    intro X1 b1
    have c1 := nm_blk (L' := bL_law_6) (S' := bS_law_6) (G' := bG_law_6) (B' := bB_law_6) b1 hc (by kernel_rfl) (fun x hx => hb x (by revert x; decide +kernel))
    simp only [wipe, List.map_cons, List.map_nil, List.set_cons_succ, List.set_cons_zero]
    walk_at "w"
    refine ⟨rfl, rfl, ?_⟩
    intro X2 b2
    refine wts_nil ?_
    refine ⟨Same.refl _, ite_t ?_⟩
    intro X3 b3
    have c3 := nm_blk (L' := bL_law_6) (S' := bS_law_6) (G' := bG_law_6) (B' := bB_law_6) b3 hc (by kernel_rfl) (fun x hx => hb x (by revert x; decide +kernel))
    obtain ⟨_, _, _, _, _, rfl⟩ := b3
    refine w_meth h7 hr (by decide) passL ?_
    walk_at "w"
    refine ⟨_, _, _, rfl, hS _ _ hic, rfl, ?_⟩
    walk_at "w"
    refine ⟨a, m, j, rfl, hsc2.same hS, fun Hn en => ?_⟩
    rw [hkf]
    refine ⟨en, ?_⟩
    rw [hP, List.range_succ, List.map_append, List.map_append]
    rfl
  rw [Int.toNat_natCast] at hP
  walk_at "w"
  refine b_neInts (ns := (List.range (n4 + 1)).map fun i => ((ct g i : Nat) : Int)) hr.units hDe' (ee _ _ hDc') hP rfl ?_
  walk_at "w"
  have e6e : Same H6 He := e6b.trans (ec.trans ee)
  have hDe2 := e6e _ _ hD6k
  have hse := hs6.same e6e
  have hie := e6e _ _ hi6
  have hpe := e6e _ _ (e46 _ _ hp4)
  -- survivors
  refine ws_for owns_cx hc ?_
  refine wi_range1 hc (by walk_at "mb") ?_
  walk_at "w"
  refine ⟨by decide, by decide, ?_⟩
  refine ⟨_, _, wlk_range, fun t σ' H' => Same He H' ∧ ∃ t6 t9 t10, σ' = [some (.ref sc), some (.int i), some (.ref p), some (.str (sOf l)), some (.ref D5), some (.ref Dc), t6, some (.ref a), some (.ref D), t9, t10, none, none, none], ⟨Same.refl _, _, _, _, rfl⟩, fun i σ' H' h => h.1, fun t σ' Hf ht ⟨ef, t6, t9, t10, hσ⟩ => ?_, fun σ' Hf ⟨ef, t6, t9, t10, hσ⟩ => ?_⟩
  · subst hσ
    have hDf := ef _ _ hDe2
    have hsf := hse.same ef
    have hif := ef _ _ hie
    have hpf := ef _ _ hpe
    refine wg_name hc (by walk_at "put") (by walk_at "mb") ?_
    walk_at "go"
    refine ws_asg ?_
    walk_at "w"
    refine w_call hc (by walk_at "mb") h2 hr (by decide) passL ?_
    walk_at "w"
    refine ⟨l.length, ⟨by rw [sOf_len]; omega, by rw [sOf_len]⟩, ?_⟩
    refine b_mul (mul_small' (by decide) (by decide)) ?_
    rw [show (4 : Int) * ((l.length : Nat) : Int) = ((n4 : Nat) : Int) by omega]
    refine wa_nil ?_
    refine ⟨p, n4, rfl, hpf, hn0, by omega, fun st hst => ?_⟩
    walk_at "w"
    refine w_call hc (by walk_at "mb") h2 hr (by decide) passL ?_
    walk_at "w"
    refine ⟨l.length, ⟨by rw [sOf_len]; omega, by rw [sOf_len]⟩, ?_⟩
    refine b_mul (mul_small' (by decide) (by decide)) ?_
    rw [show (4 : Int) * ((l.length : Nat) : Int) = ((n4 : Nat) : Int) by omega]
    refine wa_nil ?_
    refine ⟨p, n4, rfl, hpf, hn0, by omega, fun sp hsp => ?_⟩
    refine wa_nil ?_
    refine ⟨(by show 2 ≤ sizeLine; omega), fun T2 Hg hT2 eg hT2' => ?_⟩
    refine wg_tup hc (.inl (.inl hT2')) ?_
    refine wgs_cons ?_
    refine wg_name hc (by walk_at "put") (by walk_at "mb") ?_
    refine wgs_cons ?_
    refine wg_name hc (by walk_at "put") (by walk_at "mb") ?_
    refine wgs_nil ?_
    refine wl_cons ?_
    refine ws_if ?_
    refine wt_cmp ?_ (by walk_at "hm")
    refine x_listM hc (by walk_at "mb") h9 hr (by decide) ?_
    walk_at "w"
    refine ⟨_, _, _, rfl, eg _ _ hif, rfl, ?_⟩
    walk_at "w"
    refine .inl ⟨a, m, st, sp, rfl, hsf.same eg, ?_, fun Hh eh Dh hDh => ?_⟩
    · have := ct_le (kp m) (max st sp)
      omega
    rw [hkf]
    have eh' : Same Hh (upd Hh Dh (.lst (((surv g st sp).map fun n => ((n : Nat) : Int)).map V.int))) := same_new hDh
    have hDh' : upd Hh Dh (.lst (((surv g st sp).map fun n => ((n : Nat) : Int)).map V.int)) Dh = some (.lst (((surv g st sp).map fun n => ((n : Nat) : Int)).map V.int)) := upd_same
    show WE _ _ _ (upd Hh Dh (.lst (((surv g st sp).map fun n => ((n : Nat) : Int)).map V.int))) _
    generalize upd Hh Dh (.lst (((surv g st sp).map fun n => ((n : Nat) : Int)).map V.int)) = Hi at *
    have egi : Same Hf Hi := eg.trans (eh.trans eh')
    have hDi := egi _ _ hDf
    refine w_lc hc (own := bO_law_7) (by kernel_rfl) (fun j acc => acc = ((((sel g n4).take j).filter fun n => decide (st ≤ n) && decide (n < sp)).map fun n => ((n : Nat) : Int)).map V.int) ?_
    refine wi_list ?_
    walk_at "w"
    refine ⟨D, _, rfl, .inl (.inl hDi), _, _, wlk_list (.inl (.inl hDi)), (by rw [hlen]; omega), rfl, fun j acc H' hj hl hP hS => ?_, fun acc Dj Hj hl hP hDj ej hDj' => ?_⟩
    · rw [List.length_map, List.length_map] at hj
      have hget : ((((sel g n4).map fun n => ((n : Nat) : Int)).map V.int)).getD j .non = .int (((sel g n4)[j] : Nat) : Int) := by
        rw [List.getD_eq_getElem?_getD, List.getElem?_map, List.getElem?_map, List.getElem?_eq_getElem hj]; rfl
      rw [hget]
      have hno : (decide (st ≤ (sel g n4)[j]) && decide ((sel g n4)[j] < sp)) = false → acc = ((((sel g n4).take (j + 1)).filter fun n => decide (st ≤ n) && decide (n < sp)).map fun n => ((n : Nat) : Int)).map V.int := fun h => by
        rw [hP, List.take_succ_eq_append_getElem hj, List.filter_append, List.filter_cons_of_neg (by rw [h]; decide)]; simp
      intro X1 b1
      have c1 := nm_blk (L' := bL_law_7) (S' := bS_law_7) (G' := bG_law_7) (B' := bB_law_7) b1 hc (by kernel_rfl) (fun x hx => hb x (by revert x; decide +kernel))
      simp only [wipe, List.map_cons, List.map_nil, List.set_cons_succ, List.set_cons_zero]
      walk_at "w"
      refine ⟨rfl, rfl, ?_⟩
      intro X2 b2
      refine wts_one ?_
      have c2 := nm_blk (L' := bL_law_7) (S' := bS_law_7) (G' := bG_law_7) (B' := bB_law_7) b2 hc (by kernel_rfl) (fun x hx => hb x (by revert x; decide +kernel))
      obtain ⟨_, _, _, _, _, rfl⟩ := b2
      walk_at "w"
      refine if_dec (fun k1 => ?_) (fun k1 => ?_)
      · walk_at "w"
        refine ⟨Same.refl _, ?_⟩
        have k1' : st ≤ (sel g n4)[j] := by omega
        by_cases k2 : (sel g n4)[j] < sp
        · rw [decide_eq_true (show (((sel g n4)[j] : Nat) : Int) < ((sp : Nat) : Int) by omega)]
          refine ite_t ?_
          intro X3 b3
          have c3 := nm_blk (L' := bL_law_7) (S' := bS_law_7) (G' := bG_law_7) (B' := bB_law_7) b3 hc (by kernel_rfl) (fun x hx => hb x (by revert x; decide +kernel))
          walk_at "w"
          refine ⟨Same.refl _, ?_⟩
          rw [hP, List.take_succ_eq_append_getElem hj, List.filter_append, List.map_append, List.map_append, List.filter_cons_of_pos (by rw [decide_eq_true k1', decide_eq_true k2]; rfl)]; rfl
        · rw [decide_eq_false (show ¬ (((sel g n4)[j] : Nat) : Int) < ((sp : Nat) : Int) by omega)]
          refine ite_f ?_
          exact hno (by rw [decide_eq_false k2, Bool.and_false])
      · refine ⟨Same.refl _, ite_f ?_⟩
        exact hno (by rw [decide_eq_false (show ¬ st ≤ (sel g n4)[j] by omega), Bool.false_and])
    rw [List.length_map, List.length_map, List.take_length, surv02 g (show sp ≤ n4 by omega)] at hP
    refine b_neInts (ns := (surv g st sp).map fun n => ((n : Nat) : Int)) hr.units (ej _ _ hDh') hDj' rfl hP ?_
    walk_at "w"
    exact ⟨ef.trans (egi.trans ej), _, _, _, rfl⟩
  subst hσ
  walk_at "go"
  have hDf := ef _ _ hDe2
  have hsf := hse.same ef
  have hif := ef _ _ hie
  have hif2 := ef _ _ (e6e _ _ (e46 _ _ hi2))
  have h9l : (iN (sel g 9)).length = ct g 9 := by rw [List.length_map, List.length_map, sel_len]
  have h9c := ct_le g 9
  -- zip
  refine ws_if ?_
  refine wt_cmp ?_ (by walk_at "hm")
  refine we_own fun own => ?_
  refine x_listZ2 (T := part3 Hf a dx p0) (out := fun t => (iN (sel g 9))[t]?) (ys := iN (sel g 9)) h10 hc (by walk_at "mb") (by walk_at "mb") hr (by decide) (by walk_at "at") (by walk_at "mb") hif rfl part3_same (part3_tiny hif (own _ _ _ _ hif) hif2) ⟨a, m, 0, 9, rfl, by decide, by decide, ⟨hsf.1, dx, p0, (part3_in (.inl rfl)).trans hif, (part3_in (.inr (.inr rfl))).trans hif2⟩, fun t n k1 k2 k3 => ?_, fun t k1 => ?_⟩ (fun t => rfl) (by rw [h9l]; omega) fun Dz Ts Hz ez hTl hDz hTs => ?_
  · rw [hkf] at k1 k2 k3
    have c0 : ct g 0 = 0 := rfl
    rw [c0, Nat.zero_add] at k1 k3
    obtain ⟨r, hr0, _, r1, r2⟩ := sel_at02 (show t < ct g 9 from k1)
    have : r = n := ct_inj r1 k2 (r2.trans k3.symm)
    show (iN (sel g 9))[t]? = _
    rw [List.getElem?_map, List.getElem?_map, hr0, this]; rfl
  · rw [hkf] at k1
    have c0 : ct g 0 = 0 := rfl
    rw [c0, Nat.zero_add] at k1
    exact List.getElem?_eq_none (by rw [h9l]; exact k1)
  refine w_lcH hc (own := bO_law_8) (by kernel_rfl) (fun j acc H' => ∃ ps : List Addr, acc = ps.map V.ref ∧ ps.length = j ∧ ∀ (t : Nat) b, ps[t]? = some b → ∃ n, (sel g 9)[t]? = some n ∧ H' b = some (.tup [.int ((n : Nat) : Int), .int ((n : Nat) : Int)])) ?_
  refine wi_list ?_
  refine w_call hc (by walk_at "mb") h4 hr (by decide) passL ?_
  walk_at "w"
  refine ⟨l, 9, rfl, pl, by decide, fun Dk Hk hDk ek hDk' => ?_⟩
  rw [hf] at hDk'
  refine ⟨Dk, _, rfl, .inl (.inl hDk'), _, _, wlk_list (.inl (.inl hDk')), (by rw [h9l]; omega), fun D2 hD2 => ⟨[], rfl, rfl, fun t b h => by cases h⟩, fun j acc acc' H' D2 hj hD2 hS2 hDb hP' hP => ?_, fun j acc H' hj hl2 hP hS2 => ?_, fun acc DD HH hl2 hP hDD hSS hDD' => ?_⟩
  · obtain ⟨ps, rfl, hps, hm⟩ := hP
    refine ⟨ps, rfl, hps, fun t b hb => ?_⟩
    obtain ⟨n, hn, hbt⟩ := hm t b hb
    refine ⟨n, hn, ?_⟩
    rw [upd_ne (fun z => by rw [z, hDb] at hbt; cases hbt)]
    exact hbt
  · obtain ⟨ps, rfl, hps, hm⟩ := hP
    have hj2 : j < (sel g 9).length := by
      rw [List.length_map, List.length_map] at hj
      exact hj
    have hget : ((((sel g 9).map fun n => ((n : Nat) : Int)).map V.int)).getD j .non = .int (((sel g 9)[j] : Nat) : Int) := by
      rw [List.getD_eq_getElem?_getD, List.getElem?_map, List.getElem?_map, List.getElem?_eq_getElem hj2]; rfl
    rw [hget]
    intro X1 b1
    have c1 := nm_blk (L' := bL_law_8) (S' := bS_law_8) (G' := bG_law_8) (B' := bB_law_8) b1 hc (by kernel_rfl) (fun x hx => hb x (by revert x; decide +kernel))
    simp only [wipe, List.map_cons, List.map_nil, List.set_cons_succ, List.set_cons_zero]
    walk_at "w"
    refine ⟨rfl, rfl, ?_⟩
    intro X2 b2
    refine wts_nil ?_
    refine ⟨Same.refl _, ite_t ?_⟩
    intro X3 b3
    have c3 := nm_blk (L' := bL_law_8) (S' := bS_law_8) (G' := bG_law_8) (B' := bB_law_8) b3 hc (by kernel_rfl) (fun x hx => hb x (by revert x; decide +kernel))
    obtain ⟨_, _, _, _, _, rfl⟩ := b3
    walk_at "w"
    refine ⟨(by show 2 ≤ sizeLine; omega), fun T HT hT eT hT' => ?_⟩
    refine ⟨eT, ⟨ps, rfl, hps, fun t b hb => ?_⟩, ps ++ [T], by simp, by simp [hps], fun t b hb => ?_⟩
    · obtain ⟨n, hn, hbt⟩ := hm t b hb
      exact ⟨n, hn, eT _ _ hbt⟩
    · by_cases ht : t < ps.length
      · rw [List.getElem?_append_left ht] at hb
        obtain ⟨n, hn, hbt⟩ := hm t b hb
        exact ⟨n, hn, eT _ _ hbt⟩
      · have htl := (List.getElem?_eq_some_iff.mp hb).1
        rw [List.length_append] at htl
        simp only [List.length_cons, List.length_nil] at htl
        obtain rfl : t = j := by omega
        rw [List.getElem?_append_right (by omega), show t - ps.length = 0 by omega] at hb
        cases hb
        exact ⟨(sel g 9)[t], List.getElem?_eq_getElem hj2, hT'⟩
  obtain ⟨ps, rfl, hps, hm⟩ := hP
  have hl9 : (sel g 9).length = (iN (sel g 9)).length := by rw [List.length_map, List.length_map]
  have ezz : Same Hz HH := ek.trans hSS
  refine b_neD hr.units (.lst (.inl (.inl (ezz _ _ hDz))) (pD_dps Ts (sel g 9) (by rw [hTl, hl9]) fun t b hb => ?_)) (.lst (.inl (.inl hDD')) (pD_dps ps (sel g 9) (by rw [hps, hl9]) hm)) (pD_shaped _) (pD_shaped _) ?_
  · obtain ⟨y, hy, hbt⟩ := hTs t b hb
    rw [List.getElem?_map, List.getElem?_map] at hy
    cases hn : (sel g 9)[t]? with
    | none => rw [hn] at hy; cases hy
    | some n =>
      rw [hn] at hy
      cases hy
      exact ⟨n, rfl, ezz _ _ hbt⟩
  rw [show PyData.eqv (.list ((sel g 9).map pD)) (.list ((sel g 9).map pD)) = true by simp only [PyData.eqv, pD_eqv]]
  walk_at "w"
  refine w_callG hc (by walk_at "mb") h11 hg hr (by decide) passLA02 ?_
  walk_at "w"
  have ef2 : Same Hf HH := ez.trans ezz
  refine ⟨a, m, rfl, hsf.same ef2, fun Hq eq => ?_⟩
  walk_at "w"
  exact ⟨e0.trans (e46.trans (e6e.trans (ef.trans (ef2.trans eq)))), _, _, _, _, _, _, _, _, _, _, rfl⟩

end
open He in
theorem factsL {P : Program} {w : World} {K : PySem.W.Frag} {h : Heap} {mg : Str → Option Value} {f : Addr} (X : K.In h) (G : h.Ns mainGlobals mg) (hfa : mg ("law" : Str) = some (.ref f)) (c : SaysY fsL fnL K) :
    ∃ fd : FuncData, (∀ (s : Shared) (v : Value), BindsTo s fd ⟨[v], []⟩ [("_law_script", v)]) ∧ ∀ base : Heap, K.In base → base.Ns mainGlobals mg → FnOkG P w K mg base (L2.CX P w) 11 f fd ["_law_script"] (spLaw K) := by
  have hb : ∀ x ∈ BB, mg x = none := fun x hx => free_ok X G (SaysY.mem (f := fun K => (Fa.free x).ok K) c (List.mem_append_right _ (List.mem_map.mpr ⟨x, hx, rfl⟩)))
  have eg := hfa.symm.trans (He.glo_ok X G (c.fact 15))
  cases eg
  obtain ⟨fd_InvalidNumber___init__, F_InvalidNumber___init__⟩ : ∃ fd, FunD K "__init__" "InvalidNumber.__init__" (defArgs s_InvalidNumber___init__) (defBody s_InvalidNumber___init__) (defScope s_InvalidNumber___init__) [] [] (He.ma K (He.ga K "InvalidNumber") "__init__") fd := c.def_ 0 rfl
  obtain ⟨fd_is_integer, F_is_integer⟩ : ∃ fd, FunD K "is_integer" "is_integer" (defArgs s_is_integer) (defBody s_is_integer) (defScope s_is_integer) [.int 0] [] (He.ga K "is_integer") fd := c.def_ 1 rfl
  obtain ⟨fd_check_number, F_check_number⟩ : ∃ fd, FunD K "check_number" "check_number" (defArgs s_check_number) (defBody s_check_number) (defScope s_check_number) [] [] (He.ga K "check_number") fd := c.def_ 2 rfl
  obtain ⟨fd_least_pattern, F_least_pattern⟩ : ∃ fd, FunD K "least_pattern" "least_pattern" (defArgs s_least_pattern) (defBody s_least_pattern) (defScope s_least_pattern) [] [] (He.ga K "least_pattern") fd := c.def_ 3 rfl
  obtain ⟨fd_pattern_of, F_pattern_of⟩ : ∃ fd, FunD K "pattern_of" "pattern_of" (defArgs s_pattern_of) (defBody s_pattern_of) (defScope s_pattern_of) [] [] (He.ga K "pattern_of") fd := c.def_ 4 rfl
  obtain ⟨fd_Sieve_is_pattern, F_Sieve_is_pattern⟩ : ∃ fd, FunD K "is_pattern" "Sieve.is_pattern" (defArgs s_Sieve_is_pattern) (defBody s_Sieve_is_pattern) (defScope s_Sieve_is_pattern) [] [] (rcA "staticmethod" "Sieve" "is_pattern" K) fd := c.def_ 6 rfl
  obtain ⟨fd_Sieve___init__, F_Sieve___init__⟩ : ∃ fd, FunD K "__init__" "Sieve.__init__" (defArgs s_Sieve___init__) (defBody s_Sieve___init__) (defScope s_Sieve___init__) [] [] (He.ma K (He.ga K "Sieve") "__init__") fd := c.def_ 5 rfl
  obtain ⟨fd_Sieve_pattern, F_Sieve_pattern⟩ : ∃ fd, FunD K "pattern" "Sieve.pattern" (defArgs s_Sieve_pattern) (defBody s_Sieve_pattern) (defScope s_Sieve_pattern) [] [] (rcA "property" "Sieve" "pattern" K) fd := c.def_ 8 rfl
  obtain ⟨fd_Sieve_period, F_Sieve_period⟩ : ∃ fd, FunD K "period" "Sieve.period" (defArgs s_Sieve_period) (defBody s_Sieve_period) (defScope s_Sieve_period) [] [] (rcA "property" "Sieve" "period" K) fd := c.def_ 9 rfl
  obtain ⟨fd_Sieve_is_kept, F_Sieve_is_kept⟩ : ∃ fd, FunD K "is_kept" "Sieve.is_kept" (defArgs s_Sieve_is_kept) (defBody s_Sieve_is_kept) (defScope s_Sieve_is_kept) [] [] (He.ma K (He.ga K "Sieve") "is_kept") fd := c.def_ 10 rfl
  obtain ⟨fd_Sieve_nth, F_Sieve_nth⟩ : ∃ fd, FunD K "nth" "Sieve.nth" (defArgs s_Sieve_nth) (defBody s_Sieve_nth) (defScope s_Sieve_nth) [] [] (He.ma K (He.ga K "Sieve") "nth") fd := c.def_ 11 rfl
  obtain ⟨fd_Sieve_rank, F_Sieve_rank⟩ : ∃ fd, FunD K "rank" "Sieve.rank" (defArgs s_Sieve_rank) (defBody s_Sieve_rank) (defScope s_Sieve_rank) [] [] (He.ma K (He.ga K "Sieve") "rank") fd := c.def_ 12 rfl
  obtain ⟨fd_Sieve___eq__, F_Sieve___eq__⟩ : ∃ fd, FunD K "__eq__" "Sieve.__eq__" (defArgs s_Sieve___eq__) (defBody s_Sieve___eq__) (defScope s_Sieve___eq__) [] [] (He.ma K (He.ga K "Sieve") "__eq__") fd := c.def_ 14 rfl
  obtain ⟨fd_Sieve_survivors, F_Sieve_survivors⟩ : ∃ fd, FunD K "survivors" "Sieve.survivors" (defArgs s_Sieve_survivors) (defBody s_Sieve_survivors) (defScope s_Sieve_survivors) [] [] (He.ma K (He.ga K "Sieve") "survivors") fd := c.def_ 13 rfl
  obtain ⟨fd__law_pool, F__law_pool⟩ : ∃ fd, FunD K "_law_pool" "_law_pool" (defArgs s__law_pool) (defBody s__law_pool) (defScope s__law_pool) [] [] (He.ga K "_law_pool") fd := c.def_ 15 rfl
  obtain ⟨fd__law_take, F__law_take⟩ : ∃ fd, FunD K "_law_take" "_law_take" (defArgs s__law_take) (defBody s__law_take) (defScope s__law_take) [] [] (He.ga K "_law_take") fd := c.def_ 16 rfl
  obtain ⟨fd__law_pattern, F__law_pattern⟩ : ∃ fd, FunD K "_law_pattern" "_law_pattern" (defArgs s__law_pattern) (defBody s__law_pattern) (defScope s__law_pattern) [] [] (He.ga K "_law_pattern") fd := c.def_ 17 rfl
  obtain ⟨fd__law_kept, F__law_kept⟩ : ∃ fd, FunD K "_law_kept" "_law_kept" (defArgs s__law_kept) (defBody s__law_kept) (defScope s__law_kept) [] [] (He.ga K "_law_kept") fd := c.def_ 18 rfl
  obtain ⟨fd__law_caught, F__law_caught⟩ : ∃ fd, FunD K "_law_caught" "_law_caught" (defArgs s__law_caught) (defBody s__law_caught) (defScope s__law_caught) [] [] (He.ga K "_law_caught") fd := c.def_ 19 rfl
  obtain ⟨fd__law_errors_right, F__law_errors_right⟩ : ∃ fd, FunD K "_law_errors_right" "_law_errors_right" (defArgs s__law_errors_right) (defBody s__law_errors_right) (defScope s__law_errors_right) [] [] (He.ga K "_law_errors_right") fd := c.def_ 20 rfl
  obtain ⟨fd_law, F_law⟩ : ∃ fd, FunD K "law" "law" (defArgs s_law) (defBody s_law) (defScope s_law) [] [] (He.ga K "law") fd := c.def_ 21 rfl
  have bl := FunD.bindsA (ps := ["_law_script"]) F_law fun _ _ _ _ _ _ us hl => match us, hl with | [_], _ => rfl
  refine ⟨fd_law, fun s v => bl s [v] rfl, fun base KB GB => ?_⟩
  have SC : SvC K mg := ⟨cls_ok (c.fact 16), noat_ok (c.fact 20), noat_ok (c.fact 21), He.glo_ok X G (c.fact 5), creadB_ok (c.fact 18), cvalB_ok (c.fact 34), fun e => tyB_ok (c.fact 19) (cls_ok (c.fact 16)) e⟩
  have gm_Sieve : mg "Sieve" = some (.ref (He.ga K "Sieve")) := He.glo_ok X G (c.fact 5)
  have KI_Sieve_Sieve : PySem.W.kitOne K (.ref (He.ga K "Sieve")) (.ref (He.ga K "Sieve")) = some true := of_decide_eq_true (c.fact 39)
  have gm_SieveError : mg "SieveError" = some (.ref (He.ga K "SieveError")) := He.glo_ok X G (c.fact 0)
  have SE : SvE K mg := ⟨gm_SieveError, creadB_ok (c.fact 49), vbaseB_ok (c.fact 48)⟩
  have gm_InvalidPattern : mg "InvalidPattern" = some (.ref (He.ga K "InvalidPattern")) := He.glo_ok X G (c.fact 4)
  have gm_InvalidNumber : mg "InvalidNumber" = some (.ref (He.ga K "InvalidNumber")) := He.glo_ok X G (c.fact 2)
  have gm_NothingKept : mg "NothingKept" = some (.ref (He.ga K "NothingKept")) := He.glo_ok X G (c.fact 7)
  have ER_InvalidNumber : ErrC K (He.ga K "InvalidNumber") "value" (He.ma K (He.ga K "InvalidNumber") "__init__") := errB_ok (c.fact 46)
  have EC_InvalidNumber : ExcC K (He.ga K "InvalidNumber") := excCB_ok (c.fact 47)
  have KI_InvalidNumber_SieveError : PySem.W.kitOne K (.ref (He.ga K "InvalidNumber")) (.ref (He.ga K "SieveError")) = some true := of_decide_eq_true (c.fact 54)
  have KI_InvalidNumber_InvalidPattern : PySem.W.kitOne K (.ref (He.ga K "InvalidNumber")) (.ref (He.ga K "InvalidPattern")) = some false := of_decide_eq_true (c.fact 52)
  have EM_InvalidNumber_InvalidNumber : PySem.W.exmOne K (.ref (He.ga K "InvalidNumber")) (.ref (He.ga K "InvalidNumber")) = some true := exmB_ok (c.fact 50)
  have KI_InvalidNumber_InvalidNumber : PySem.W.kitOne K (.ref (He.ga K "InvalidNumber")) (.ref (He.ga K "InvalidNumber")) = some true := of_decide_eq_true (c.fact 51)
  have KI_InvalidNumber_NothingKept : PySem.W.kitOne K (.ref (He.ga K "InvalidNumber")) (.ref (He.ga K "NothingKept")) = some false := of_decide_eq_true (c.fact 53)
  have NS_InvalidNumber : PySem.W.subIn K (.ref (He.ga K "InvalidNumber")) (.type "StopIteration") = some false := of_decide_eq_true (c.fact 55)
  have KB_int_Sieve : PySem.W.kitOne K (.type "int") (.ref (He.ga K "Sieve")) = some false := of_decide_eq_true (c.fact 40)
  have KB_bool_Sieve : PySem.W.kitOne K (.type "bool") (.ref (He.ga K "Sieve")) = some false := of_decide_eq_true (c.fact 41)
  have KB_str_Sieve : PySem.W.kitOne K (.type "str") (.ref (He.ga K "Sieve")) = some false := of_decide_eq_true (c.fact 42)
  have KB_NoneType_Sieve : PySem.W.kitOne K (.type "NoneType") (.ref (He.ga K "Sieve")) = some false := of_decide_eq_true (c.fact 43)
  have KB_list_Sieve : PySem.W.kitOne K (.type "list") (.ref (He.ga K "Sieve")) = some false := of_decide_eq_true (c.fact 44)
  have KB_tuple_Sieve : PySem.W.kitOne K (.type "tuple") (.ref (He.ga K "Sieve")) = some false := of_decide_eq_true (c.fact 45)
  have R_InvalidNumber___init__ := ok_InvalidNumber___init__ (P := P) (w := w) (base := base) F_InvalidNumber___init__ (by assumption) (by assumption) (by assumption)
  have E_InvalidNumber___init__ : Err P w K mg base (He.ga K "InvalidNumber") "value" _ := ⟨⟨_, ER_InvalidNumber, R_InvalidNumber___init__⟩⟩
  have R_is_integer := ok_is_integer (P := P) (w := w) (base := base) F_is_integer (by assumption)
  have EQ_is_integer : FnQn P w K mg base "is_integer" _ _ := ⟨⟨_, He.glo_ok X G (c.fact 1), F_is_integer.kp, qk_is_integer (P := P) (w := w) (base := base) F_is_integer (by assumption)⟩⟩
  have E_is_integer : Fn P w K mg base "is_integer" _ _ := ⟨⟨_, He.glo_ok X G (c.fact 1), F_is_integer.kp, R_is_integer⟩⟩
  have R_check_number := ok_check_number (P := P) (w := w) (base := base) F_check_number (by assumption) (by assumption) (by assumption) (by assumption)
  have EQ_check_number : FnQn P w K mg base "check_number" _ _ := ⟨⟨_, He.glo_ok X G (c.fact 6), F_check_number.kp, qk_check_number (P := P) (w := w) (base := base) F_check_number (by assumption) (by assumption)⟩⟩
  have E_check_number : Fn P w K mg base "check_number" _ _ := ⟨⟨_, He.glo_ok X G (c.fact 6), F_check_number.kp, R_check_number⟩⟩
  have W_check_number := wk_check_number (P := P) (w := w) (K := K) (mg := mg) (base := base) E_check_number
  have R_least_pattern := ok_least_pattern (P := P) (w := w) (base := base) F_least_pattern (by assumption)
  have E_least_pattern : Fn P w K mg base "least_pattern" _ _ := ⟨⟨_, He.glo_ok X G (c.fact 3), F_least_pattern.kp, R_least_pattern⟩⟩
  have R_pattern_of := ok_pattern_of (P := P) (w := w) (base := base) F_pattern_of (by assumption)
  have E_pattern_of : Fn P w K mg base "pattern_of" _ _ := ⟨⟨_, He.glo_ok X G (c.fact 8), F_pattern_of.kp, R_pattern_of⟩⟩
  have R_Sieve_is_pattern := ok_Sieve_is_pattern (P := P) (w := w) (base := base) F_Sieve_is_pattern (by assumption) (by assumption)
  have E_Sieve_is_pattern : SMt P w K mg base (He.ga K "Sieve") "is_pattern" _ _ := ⟨⟨_, _, _, creadB_ok (c.fact 18), (getB_ok (c.fact 22)).1, (getB_ok (c.fact 22)).2.choose_spec, c.fact 23, R_Sieve_is_pattern⟩⟩
  have R_Sieve___init__ := ok_Sieve___init__ (P := P) (w := w) (base := base) F_Sieve___init__ (by assumption) (by assumption) (by assumption) (by assumption)
  have E_Sieve___init__ : Mkr P w K mg base (He.ga K "Sieve") _ _ := ⟨⟨_, mkr_ok (c.fact 17), R_Sieve___init__⟩⟩
  have R_Sieve_pattern := ok_Sieve_pattern (P := P) (w := w) (base := base) F_Sieve_pattern (by assumption) (by assumption)
  have E_Sieve_pattern : SvP P w K mg base "pattern" _ := ⟨⟨_, _, propB_ok (c.fact 27), R_Sieve_pattern⟩⟩
  have R_Sieve_period := ok_Sieve_period (P := P) (w := w) (base := base) F_Sieve_period (by assumption) (by assumption)
  have E_Sieve_period : SvP P w K mg base "period" _ := ⟨⟨_, _, propB_ok (c.fact 28), R_Sieve_period⟩⟩
  have R_Sieve_is_kept := ok_Sieve_is_kept (P := P) (w := w) (base := base) F_Sieve_is_kept (by assumption) (by assumption) (by assumption)
  have E_Sieve_is_kept : Mth P w K mg base (He.ga K "Sieve") "is_kept" _ _ := ⟨⟨_, cls_ok (c.fact 16), meth_ok (c.fact 29), R_Sieve_is_kept⟩⟩
  have R_Sieve_nth := ok_Sieve_nth (P := P) (w := w) (base := base) F_Sieve_nth (by assumption) (by assumption) (by assumption)
  have EQ_Sieve_nth : MtQn P w K mg base (He.ga K "Sieve") "nth" _ _ := ⟨⟨_, cls_ok (c.fact 16), meth_ok (c.fact 30), qk_Sieve_nth (P := P) (w := w) (base := base) F_Sieve_nth (by assumption) (by assumption) (by assumption)⟩⟩
  have E_Sieve_nth : Mth P w K mg base (He.ga K "Sieve") "nth" _ _ := ⟨⟨_, cls_ok (c.fact 16), meth_ok (c.fact 30), R_Sieve_nth⟩⟩
  have W_Sieve_nth := wk_Sieve_nth (P := P) (w := w) (K := K) (mg := mg) (base := base) E_Sieve_nth
  have R_Sieve_rank := ok_Sieve_rank (P := P) (w := w) (base := base) F_Sieve_rank (by assumption) (by assumption) (by assumption)
  have EQ_Sieve_rank : MtQn P w K mg base (He.ga K "Sieve") "rank" _ _ := ⟨⟨_, cls_ok (c.fact 16), meth_ok (c.fact 31), qk_Sieve_rank (P := P) (w := w) (base := base) F_Sieve_rank (by assumption) (by assumption) (by assumption)⟩⟩
  have E_Sieve_rank : Mth P w K mg base (He.ga K "Sieve") "rank" _ _ := ⟨⟨_, cls_ok (c.fact 16), meth_ok (c.fact 31), R_Sieve_rank⟩⟩
  have W_Sieve_rank := wk_Sieve_rank (P := P) (w := w) (K := K) (mg := mg) (base := base) E_Sieve_rank
  have R_Sieve___eq__ := ok_Sieve___eq__ (P := P) (w := w) (base := base) F_Sieve___eq__ (by assumption) (by assumption)
  have E_Sieve___eq__ : EqM P w K mg base (He.ga K "Sieve") _ _ := ⟨⟨_, eqcB_ok (c.fact 33), R_Sieve___eq__⟩⟩
  have R_Sieve_survivors := ok_Sieve_survivors (P := P) (w := w) (base := base) F_Sieve_survivors (by assumption) (by assumption) (by assumption) (by assumption) (by assumption)
  have E_Sieve_survivors : GMt P w K mg base (He.ga K "Sieve") "survivors" _ _ := ⟨⟨_, _, _, cls_ok (c.fact 16), meth_ok (c.fact 32), R_Sieve_survivors, F_Sieve_survivors.bindsN fun _ _ _ _ _ _ us hl => match us, hl with | [_, _, _], _ => rfl⟩⟩
  have EZQ_Sieve_survivors : ZMtQ P w K mg base (He.ga K "Sieve") "survivors" _ _ := ⟨⟨_, _, _, cls_ok (c.fact 16), meth_ok (c.fact 32), zq_Sieve_survivors (P := P) (w := w) (base := base) F_Sieve_survivors (by assumption) (by assumption) (by assumption) (by assumption) (by assumption) (by assumption) (by assumption) (by assumption), F_Sieve_survivors.bindsN fun _ _ _ _ _ _ us hl => match us, hl with | [_, _, _], _ => rfl⟩⟩
  have R__law_pool := ok__law_pool (P := P) (w := w) (base := base) F__law_pool (by assumption)
  have E__law_pool : Fn P w K mg base "_law_pool" _ _ := ⟨⟨_, He.glo_ok X G (c.fact 11), F__law_pool.kp, R__law_pool⟩⟩
  have R__law_take := ok__law_take (P := P) (w := w) (base := base) F__law_take (by assumption)
  have E__law_take : Fn P w K mg base "_law_take" _ _ := ⟨⟨_, He.glo_ok X G (c.fact 9), F__law_take.kp, R__law_take⟩⟩
  have R__law_pattern := ok__law_pattern (P := P) (w := w) (base := base) F__law_pattern (by assumption) (by assumption)
  have E__law_pattern : Fn P w K mg base "_law_pattern" _ _ := ⟨⟨_, He.glo_ok X G (c.fact 12), F__law_pattern.kp, R__law_pattern⟩⟩
  have R__law_kept := ok__law_kept (P := P) (w := w) (base := base) F__law_kept (by assumption)
  have E__law_kept : Fn P w K mg base "_law_kept" _ _ := ⟨⟨_, He.glo_ok X G (c.fact 13), F__law_kept.kp, R__law_kept⟩⟩
  have R__law_caught := ok__law_caught (P := P) (w := w) (base := base) F__law_caught (by assumption) (by assumption) (by assumption) (by assumption) (by assumption) (by assumption) (by assumption) (by assumption) (by assumption)
  have E__law_caught : FnG P w K mg base "_law_caught" _ _ := ⟨⟨_, He.glo_ok X G (c.fact 10), F__law_caught.kp, R__law_caught⟩⟩
  have R__law_errors_right := ok__law_errors_right (P := P) (w := w) (base := base) F__law_errors_right (by assumption) (by assumption) (by assumption) (by assumption) (by assumption) (by assumption)
  have E__law_errors_right : FnG P w K mg base "_law_errors_right" _ _ := ⟨⟨_, He.glo_ok X G (c.fact 14), F__law_errors_right.kp, R__law_errors_right⟩⟩
  exact ok_law F_law (by assumption) (by assumption) (by assumption) (by assumption) (by assumption) (by assumption) (by assumption) (by assumption) (by assumption) (by assumption) (by assumption) (by assumption) (by assumption)
end Sv
open PySem PySem.W PySem.Calls PyProof.Rows
theorem PySem.Challenge.cw_sieverows_k02_kept_numbers_and_ranks_holds : PySem.Challenge.rw_sieverows_k02_kept_numbers_and_ranks.Holds := by
  w_on; o_law
  refine HandSHeadRun.head_any (r := OpenLaw.row PySem.Challenge.rw_sieverows_k02_kept_numbers_and_ranks) (q := view (OpenLaw.row PySem.Challenge.rw_sieverows_k02_kept_numbers_and_ranks).prog [19]) (H := Sv.hkL) (ob := Sv.obL) (M := 20000) (loose := ["_wall", "SieveError", "InvalidPattern", "InvalidNumber", "NothingKept", "is_integer", "check_number", "least_pattern", "pattern_of", "Sieve", "_law_pool", "_law_take", "_law_pattern", "_law_kept", "_law_caught", "_law_errors_right"]) (d := HandSHeadRun.topDef (OpenLaw.row PySem.Challenge.rw_sieverows_k02_kept_numbers_and_ranks).prog 19) (kwd := []) Sv.obL_eq
    (by kernel_rfl) (fun s => by kernel_rfl) Sv.runL (by kernel_rfl) (by kernel_rfl) (by kernel_rfl) (by rfl) (by first | assumption | decide +kernel) (by decide +kernel) ⟨rfl, rfl, rfl, rfl, rfl, by decide +kernel⟩ ?hw ?hc
  case hw => w_witness2
  case hc =>
    refine Sv.walk_ofG (L := PySem.Challenge.rw_sieverows_k02_kept_numbers_and_ranks) (m := 63) (j := 11) (par := "_law_script") rfl (by decide) (by kernel_rfl) ⟨rfl, by decide, by decide⟩ ?F
    intro w mg fa h Y G hmg0
    obtain ⟨K, KX, c⟩ := Y
    have hmg : mg ("law" : PySem.Str) = some (.ref fa) := by
      have e : (HandSHeadRun.topDef (OpenLaw.row PySem.Challenge.rw_sieverows_k02_kept_numbers_and_ranks).prog 19).name = ("law" : PySem.Str) := by kernel_rfl
      rw [← e]
      exact hmg0
    obtain ⟨fd, hb, hF⟩ := Sv.factsL (P := (PySem.Challenge.rw_sieverows_k02_kept_numbers_and_ranks).prog) (w := w) KX G hmg c
    exact ⟨K, fd, Sv.spLaw K, KX, hb, fun H a ns hl _ hS => ⟨a, ns, rfl, hS, hl, fun _ => rfl⟩, hF⟩
